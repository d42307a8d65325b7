
import PyProof.Rows.All
import Wide.All
import OpenK.AllK
import Wide.FinOn
import HandS.ForMost
import HandS.Codes
import HandS.IsInst
import HandS.EndBits
import HandS.Walk
import HandS.DeepEq
import PySem.Challenge.RW_bothgain_k10_words_of_a_text
set_option Elab.async false
set_option linter.all false
set_option maxRecDepth 100000
set_option maxHeartbeats 4000000

namespace My
open PySem L2 C8 SX
/-! own base: tests, heaps -/
theorem bo_len : bootBuiltins "len" = some (.builtin "len") := by decide +kernel
theorem bo_isinstance : bootBuiltins "isinstance" = some (.builtin "isinstance") := by decide +kernel
theorem bo_min : bootBuiltins "min" = some (.builtin "min") := by decide +kernel
theorem bo_max : bootBuiltins "max" = some (.builtin "max") := by decide +kernel
theorem bo_abs : bootBuiltins "abs" = some (.builtin "abs") := by decide +kernel
theorem bo_int : bootBuiltins "int" = some (.type "int") := by decide +kernel
theorem bo_str : bootBuiltins "str" = some (.type "str") := by decide +kernel
theorem bo_bool : bootBuiltins "bool" = some (.type "bool") := by decide +kernel
theorem bo_list : bootBuiltins "list" = some (.type "list") := by decide +kernel
theorem bo_tuple : bootBuiltins "tuple" = some (.type "tuple") := by decide +kernel
theorem iteD {p A B : Prop} [Decidable p] (h1 : p → A) (h2 : ¬ p → B) : if decide p = true then A else B := by
  by_cases h : p
  · rw [decide_eq_true h]; exact iteT (h1 h)
  · rw [decide_eq_false h]; exact iteF (h2 h)
theorem iteN {p A B : Prop} [Decidable p] (h1 : ¬ p → A) (h2 : p → B) : if (!decide p) = true then A else B := by
  by_cases h : p
  · rw [decide_eq_true h]; exact iteF (h2 h)
  · rw [decide_eq_false h]; exact iteT (h1 h)
theorem iteDT {p A B : Prop} [Decidable p] (h : p) (k : A) : if decide p = true then A else B := iteD (fun _ => k) fun z => absurd h z
theorem iteDF {p A B : Prop} [Decidable p] (h : ¬ p) (k : B) : if decide p = true then A else B := iteD (fun z => absurd z h) fun _ => k
theorem iteNT {p A B : Prop} [Decidable p] (h : ¬ p) (k : A) : if (!decide p) = true then A else B := iteN (fun _ => k) fun z => absurd z h
theorem iteNF {p A B : Prop} [Decidable p] (h : p) (k : B) : if (!decide p) = true then A else B := iteN (fun z => absurd h z) fun _ => k
theorem iteB {b : Bool} {A B : Prop} (h1 : b = true → A) (h2 : b = false → B) : if b = true then A else B := by
  cases b with
  | true => exact iteT (h1 rfl)
  | false => exact iteF (h2 rfl)
/-- in a comprehension without a test -/
theorem yes_then {σ : St} {H : Hp} {F G : Hp → Prop} (h : F H) : tYes σ H (fun b H3 => if b = true then F H3 else G H3) := h
/-- all that was tracked stands, but at W -/
def Keep (W : List Addr) (H H' : Hp) : Prop := ∀ b o, H b = some o → b ∉ W → H' b = some o
theorem Keep.refl (W : List Addr) (H : Hp) : Keep W H H := fun _ _ h _ => h
theorem Keep.trans {W : List Addr} {H H1 H2 : Hp} (a : Keep W H H1) (b : Keep W H1 H2) : Keep W H H2 := fun c o h w => b c o (a c o h w) w
theorem Keep.mono {W W' : List Addr} {H H1 : Hp} (a : Keep W H H1) (h : ∀ b, b ∈ W → b ∈ W') : Keep W' H H1 := fun c o q w => a c o q fun z => w (h c z)
theorem Keep.new {W : List Addr} {H : Hp} {p : Addr} {o : HO} (h : H p = none) : Keep W H (upd H p o) := fun b u q _ => by
  rw [upd_ne (ne_of_none q h)]; exact q
theorem Keep.at_ {W : List Addr} {H : Hp} {p : Addr} {o : HO} (h : p ∈ W) : Keep W H (upd H p o) := fun b u q w => by
  rw [upd_ne (fun z => w (by rw [z]; exact h))]; exact q
theorem Keep.then_new {W : List Addr} {H H1 : Hp} {p : Addr} {o : HO} (a : Keep W H H1) (h : H1 p = none) : Keep W H (upd H1 p o) := a.trans (Keep.new h)
theorem Keep.then_at {W : List Addr} {H H1 : Hp} {p : Addr} {o : HO} (a : Keep W H H1) (h : p ∈ W) : Keep W H (upd H1 p o) := a.trans (Keep.at_ h)
/-- what was new since H is not among the kept -/
theorem Keep.then_own {W : List Addr} {H H1 : Hp} {p : Addr} {o : HO} (a : Keep W H H1) (h : H p = none) : Keep W H (upd H1 p o) := fun b u q w => by
  rw [upd_ne (ne_of_none q h)]; exact a b u q w
theorem Keep.free {H H' : Hp} (e : Keep [] H H') {l : Addr} (h : H' l = none) : H l = none := by
  cases q : H l with
  | none => rfl
  | some o => rw [e l o q (by simp)] at h; cases h
theorem Keep.free1 {H H' : Hp} {p : Addr} {o : HO} (e : Keep [p] H H') (hp : H' p = some o) {l : Addr} (h : H' l = none) : H l = none := by
  cases q : H l with
  | none => rfl
  | some u =>
    by_cases z : l = p
    · subst z; rw [hp] at h; cases h
    · rw [e l u q (by simpa using z)] at h; cases h
theorem Keep.seqL {W : List Addr} {K : PySem.W.Frag} {H H' : Hp} {a : Addr} {xs : List V} (e : Keep W H H') (h : SqL K H a xs) (w : a ∉ W) : SqL K H' a xs := by
  rcases h with (h | ⟨o, h⟩) | h
  · exact .inl (.inl (e _ _ h w))
  · exact .inl (.inr ⟨o, e _ _ h w⟩)
  · exact .inr h
theorem Keep.seqT {W : List Addr} {K : PySem.W.Frag} {H H' : Hp} {a : Addr} {xs : List V} (e : Keep W H H') (h : SqT K H a xs) (w : a ∉ W) : SqT K H' a xs := by
  rcases h with (h | ⟨o, h⟩) | h
  · exact .inl (.inl (e _ _ h w))
  · exact .inl (.inr ⟨o, e _ _ h w⟩)
  · exact .inr h
theorem Keep.same {H H' : Hp} (e : Keep [] H H') : Same H H' := fun b o h => e b o h (by simp)
theorem ints_get {ns : List Int} {i : Nat} {v : V} (h : (ns.map V.int)[i]? = some v) : ∃ z, ns[i]? = some z ∧ v = V.int z := by
  rw [List.getElem?_map] at h
  cases e : ns[i]? with
  | none => rw [e] at h; cases h
  | some z => rw [e] at h; exact ⟨z, rfl, (Option.some.inj h).symm⟩
theorem strs_get {ns : List Str} {i : Nat} {v : V} (h : (ns.map V.str)[i]? = some v) : ∃ z, ns[i]? = some z ∧ v = V.str z := by
  rw [List.getElem?_map] at h
  cases e : ns[i]? with
  | none => rw [e] at h; cases h
  | some z => rw [e] at h; exact ⟨z, rfl, (Option.some.inj h).symm⟩
theorem smallM {n : Nat} (h : n ≤ 1000000) : n ≤ sizeLine := Nat.le_trans h (by decide)
theorem smallL {n : Nat} (h : n ≤ 1000000) : n < sizeLine := Nat.lt_of_le_of_lt h (by decide)
/-- a promise that asks the impossible: any def at all keeps it -/
def spNo : Sp := fun _ _ _ _ => False

/-! the text by places -/
def top (i : Nat) : Stmt := PySem.Challenge.pw_bothgain_k10_words_of_a_text.main.body.getD i (.Pass ⟨0, 0, 0, 0⟩)
abbrev s_law_pool : Stmt := top 4
theorem sc_law_pool : FnScope ["script", "budget"] ["script", "budget"] (fnScope s_law_pool) := fnScope_by (by decide +kernel)
abbrev s_law_draw : Stmt := top 5
theorem sc_law_draw : FnScope ["pool", "size", "cell", "value"] ["pool", "size"] (fnScope s_law_draw) := fnScope_by (by decide +kernel)
abbrev s_law_same : Stmt := top 9
theorem sc_law_same : FnScope ["actual", "due", "k"] ["actual", "due"] (fnScope s_law_same) := fnScope_by (by decide +kernel)
abbrev s_law_char : Stmt := top 10
theorem sc_law_char : FnScope ["pool", "chars"] ["pool"] (fnScope s_law_char) := fnScope_by (by decide +kernel)
abbrev s_law_text : Stmt := top 11
theorem sc_law_text : FnScope ["pool", "size", "text", "k"] ["pool"] (fnScope s_law_text) := fnScope_by (by decide +kernel)
abbrev s_law_split : Stmt := top 12
theorem sc_law_split : FnScope ["text", "words", "char"] ["text"] (fnScope s_law_split) := fnScope_by (by decide +kernel)
abbrev s_split_words : Stmt := top 1
theorem sc_split_words : FnScope ["text"] ["text"] (fnScope s_split_words) := fnScope_by (by decide +kernel)
abbrev s_join_words : Stmt := top 2
theorem sc_join_words : FnScope ["words"] ["words"] (fnScope s_join_words) := fnScope_by (by decide +kernel)
abbrev s_law_joins : Stmt := top 13
theorem sc_law_joins : FnScope ["words", "passed"] ["words"] (fnScope s_law_joins) := fnScope_by (by decide +kernel)
abbrev s_law : Stmt := top 14
theorem sc_law : FnScope ["script", "pool", "texts", "turn", "text", "due", "actual"] ["script"] (fnScope s_law) := fnScope_by (by decide +kernel)
/-- what the walk asks of the module -/
structure Txt (K : PySem.W.Frag) (mg : Str → Option Value) : Prop where
  n_bool : mg "bool" = none
  n_int : mg "int" = none
  n_isinstance : mg "isinstance" = none
  n_len : mg "len" = none
  n_list : mg "list" = none
  n_range : mg "range" = none
  n_str : mg "str" = none
  n_tuple : mg "tuple" = none
  ok : True
/-! the law's draws -/
def Pool (H : Hp) (p q : Addr) (ns : List Int) : Prop := ∃ (i1 i2 i3 i4 i5 : Int), H p = some (.lst [.ref q, .int i1, .int i2, .int i3, .int i4, .int i5]) ∧ H q = some (.lst (ns.map V.int)) ∧ q ≠ p ∧ 0 ≤ i1
theorem Pool.some {H : Hp} {p q : Addr} {ns : List Int} (h : Pool H p q ns) : ∃ o, H p = Option.some o := by
  obtain ⟨i1, i2, i3, i4, i5, h, _⟩ := h
  exact ⟨_, h⟩
theorem Pool.some2 {H : Hp} {p q : Addr} {ns : List Int} (h : Pool H p q ns) : ∃ o, H q = Option.some o := by
  obtain ⟨i1, i2, i3, i4, i5, _, h, _⟩ := h
  exact ⟨_, h⟩
theorem Pool.keep {H H' : Hp} {p q : Addr} {ns : List Int} {W : List Addr} (h : Pool H p q ns) (k : Keep W H H') (w : ∀ b, b ∈ W → H b = none) : Pool H' p q ns := by
  obtain ⟨i1, i2, i3, i4, i5, h1, h2, h3, h4⟩ := h
  have no : ∀ b o, H b = Option.some o → b ∉ W := fun b o e z => by rw [w b z] at e; cases e
  exact ⟨i1, i2, i3, i4, i5, k _ _ h1 (no _ _ h1), k _ _ h2 (no _ _ h2), h3, h4⟩
theorem Pool.keep0 {H H' : Hp} {p q : Addr} {ns : List Int} (h : Pool H p q ns) (k : Keep [] H H') : Pool H' p q ns := h.keep k fun _ z => by cases z
theorem Pool.new {H : Hp} {p q a : Addr} {ns : List Int} {o : HO} (h : Pool H p q ns) (n : H a = none) : Pool (upd H a o) p q ns := h.keep0 (Keep.new n)
theorem Pool.own {H : Hp} {p q a : Addr} {ns : List Int} {o : HO} (h : Pool H p q ns) (h1 : a ≠ p) (h2 : a ≠ q) : Pool (upd H a o) p q ns := by
  obtain ⟨i1, i2, i3, i4, i5, g1, g2, g3, g4⟩ := h
  exact ⟨i1, i2, i3, i4, i5, by rw [upd_ne h1.symm]; exact g1, by rw [upd_ne h2.symm]; exact g2, g3, g4⟩
theorem Pool.free {H H' : Hp} {p q l : Addr} {ns : List Int} (P : Pool H' p q ns) (e : Keep [p] H H') (h : H' l = none) : H l = none := by
  obtain ⟨o, ho⟩ := P.some
  exact e.free1 ho h
theorem Pool.nep {H : Hp} {p q l : Addr} {ns : List Int} (P : Pool H p q ns) (h : H l = none) : l ≠ p := by
  obtain ⟨o, ho⟩ := P.some
  exact (ne_of_none ho h).symm
theorem Pool.neq {H : Hp} {p q l : Addr} {ns : List Int} (P : Pool H p q ns) (h : H l = none) : l ≠ q := by
  obtain ⟨o, ho⟩ := P.some2
  exact (ne_of_none ho h).symm
def sp_law_pool (K : PySem.W.Frag) : Sp := fun vs H Q _ => ∃ (a : Addr) (ns : List Int) (b : Int), vs = [.ref a, .int b] ∧ SqL K H a (ns.map V.int) ∧
  ∀ p q H', H p = none → Pool H' p q ns → Keep [] H H' → Q (.ref p) H'
def sp_law_draw : Sp := fun vs H Q _ => ∃ (p q : Addr) (ns : List Int) (size : Int), vs = [.ref p, .int size] ∧ 0 < size ∧ size < 1073741824 ∧ Pool H p q ns ∧
  ∀ r H', 0 ≤ r → r < size → Pool H' p q ns → Keep [p] H H' → Q (.int r) H'
section
variable {P : Program} {w : World} {K : PySem.W.Frag} {mg : Str → Option Value} {base : Heap}
theorem ok_law_pool {f : Addr} {fd : FuncData} (D : C8.Def K mg "_law_pool" s_law_pool f fd) (b : Binds K fd ["script", "budget"] []) (T : Txt K mg) : C8.Cal P w K mg base 1 "_law_pool" (sp_law_pool K) [] := by
  refine cal0 D b .nil sc_law_pool (fun vs H Q E h => ?_) (fun cdv A outer s H vs Q E hr h => ?_)
  · obtain ⟨a, ns, b, rfl, _⟩ := h
    rfl
  · obtain ⟨a, ns, b, rfl, hS, k⟩ := h
    refine ⟨_, (pss_one (ps_ret (pe_lst (pa_cons (pe_callTy call_list_of (by rfl) T.n_list bo_list (pa_cons (pv 0) pa_nil)) (pa_cons pe_int (pa_cons pe_int (pa_cons pe_int (pa_cons pe_int (pa_cons (pv 1) pa_nil))))))))), ?_⟩
    refine ⟨_, rfl, _, _, rfl, .inl hS, fun l hl => ⟨_, rfl, (by show 6 ≤ sizeLine; decide), fun p hp => ?_⟩⟩
    have hlp : l ≠ p := ne_of_none (H := upd H l (.lst (ns.map V.int))) upd_same hp
    have hp0 : H p = none := (Keep.new (W := []) hl).free hp
    refine k p l _ hp0 ⟨_, _, _, _, _, upd_same, (by rw [upd_ne hlp]; exact upd_same), hlp, Int.le_refl 0⟩ ((Keep.new hl).then_new hp)
theorem ok_law_draw {f : Addr} {fd : FuncData} (D : C8.Def K mg "_law_draw" s_law_draw f fd) (b : Binds K fd ["pool", "size"] []) (T : Txt K mg) : C8.Cal P w K mg base 1 "_law_draw" sp_law_draw [] := by
  refine cal0 D b .nil sc_law_draw (fun vs H Q E h => ?_) (fun cdv A outer s H vs Q E hr h => ?_)
  · obtain ⟨p, q, ns, size, rfl, _⟩ := h
    rfl
  · obtain ⟨p, q, ns, size, rfl, hs0, hs1, ⟨i1, i2, i3, i4, i5, h1, h2, hqp, hi1⟩, k⟩ := h
    have hbig : (2147483647 : Int) > 0 := by decide
    refine ⟨_, (pss_cut (ps_if (PW.pt (pw_and (pt_cmpR op_le (pe_ix ix_list (pv 0) pe_int (fun _ _ => rfl)) pe_int (nomark _)) (pw_and (pt_cmpR op_le (pe_ix ix_list (pv 0) pe_int (fun _ _ => rfl)) pe_int (nomark _)) (pw_and1 (pt_cmpR op_lt (pe_ix ix_list (pv 0) pe_int (fun _ _ => rfl)) (pe_callB call_len_seq (by rfl) T.n_len bo_len (pa_cons (pe_ix ix_list (pv 0) pe_int (fun _ _ => rfl)) pa_nil)) (nomark _))))))
  (pss_cons (ps_set (i := 2) sc_law_draw.nd rfl (by first | exact Or.inl rfl | exact Or.inr rfl) (pe_ix ix_list (pe_ix ix_list (pv 0) pe_int (fun _ _ => rfl)) (pe_ix ix_list (pv 0) pe_int (fun _ _ => rfl)) (fun _ _ => rfl)))
  (pss_cons (ps_asg (pe_op op_add (pe_ix ix_list (pv 0) pe_int (fun _ _ => rfl)) pe_int) (pg_sub (pv 0) pe_int set_list))
  (pss_cons (ps_asg (pe_op op_mod (pe_callTy call_int1 (by rfl) T.n_int bo_int (pa_cons (pe_op op_add (pe_op op_mul (pe_ix ix_list (pv 0) pe_int (fun _ _ => rfl)) pe_int) (pv 2)) pa_nil)) pe_int) (pg_sub (pv 0) pe_int set_list))
  (pss_cons (ps_asg pe_int (pg_sub (pv 0) pe_int set_list))
  (pss_one (ps_if (pt_cmpR op_ge (pv 2) (pe_op op_pow pe_int pe_int) (nomark _))
    (pss_one (ps_asg (pv 2) (pg_sub (pv 0) pe_int set_list)))
    pss_nil))))))
  pss_nil)
(pss_cons (ps_if (pt_cmpR op_gt (pe_ix ix_list (pv 0) pe_int (fun _ _ => rfl)) pe_int (nomark _))
  (pss_cons (ps_set (i := 3) sc_law_draw.nd rfl (by first | exact Or.inl rfl | exact Or.inr rfl) (pe_op op_mod (pe_callTy call_int1 (by rfl) T.n_int bo_int (pa_cons (pe_ix ix_list (pv 0) pe_int (fun _ _ => rfl)) pa_nil)) (pv 1)))
  (pss_cons (ps_asg (pe_op op_fdiv (pe_ix ix_list (pv 0) pe_int (fun _ _ => rfl)) (pv 1)) (pg_sub (pv 0) pe_int set_list))
  (pss_cons (ps_asg pe_int (pg_sub (pv 0) pe_int set_list))
  (pss_one (ps_ret (pv 3))))))
  pss_nil)
(pss_cons (ps_asg (pe_op op_sub (pe_ix ix_list (pv 0) pe_int (fun _ _ => rfl)) pe_int) (pg_sub (pv 0) pe_int set_list))
(pss_cons (ps_asg (pe_op op_mod (pe_callTy call_int1 (by rfl) T.n_int bo_int (pa_cons (pe_op op_add (pe_op op_mul (pe_ix ix_list (pv 0) pe_int (fun _ _ => rfl)) pe_int) pe_int) pa_nil)) pe_int) (pg_sub (pv 0) pe_int set_list))
(pss_one (ps_ret (pe_op op_mod (pe_op op_mod (pe_callTy call_int1 (by rfl) T.n_int bo_int (pa_cons (pe_op op_add (pe_op op_mul (pe_ix ix_list (pv 0) pe_int (fun _ _ => rfl)) pe_int) pe_int) pa_nil)) pe_int) (pv 1)))))))), ?_⟩
    -- the state between the statements
    refine ⟨fun σ H' => ∃ (c : Option V) (j1 j2 j3 j4 j5 : Int), σ = [some (.ref p), some (.int size), c, none] ∧ H' p = some (.lst [.ref q, .int j1, .int j2, .int j3, .int j4, .int j5]) ∧ Keep [p] H H' ∧ 0 ≤ j1, ?_, ?_⟩
    · have stay : ∃ (c : Option V) (j1 j2 j3 j4 j5 : Int), ([some (.ref p), some (.int size), none, none] : List (Option V)) = [some (.ref p), some (.int size), c, none] ∧ H p = some (.lst [.ref q, .int j1, .int j2, .int j3, .int j4, .int j5]) ∧ Keep [p] H H ∧ 0 ≤ j1 :=
        ⟨_, i1, i2, i3, i4, i5, rfl, h1, Keep.refl _ _, hi1⟩
      refine ⟨_, rfl, _, _, _, _, rfl, rfl, SqL.of h1, rfl, _, _, rfl, rfl, _, rfl, iteD (fun _ => ?_) (fun _ => stay)⟩
      refine ⟨_, rfl, _, _, _, _, rfl, rfl, SqL.of h1, rfl, _, _, rfl, rfl, _, rfl, iteD (fun _ => ?_) (fun _ => stay)⟩
      refine ⟨_, rfl, _, _, _, _, rfl, rfl, SqL.of h1, rfl, _, rfl, _, _, _, _, rfl, rfl, SqL.of h1, rfl, _, _, rfl, .inl (SqL.of h2), _, _, rfl, rfl, _, rfl, iteD (fun hlt => ?_) (fun _ => stay)⟩
      obtain ⟨j, rfl⟩ : ∃ j : Nat, i1 = (j : Int) := ⟨i1.toNat, by omega⟩
      rw [List.length_map] at hlt
      have hj : j < ns.length := by omega
      have hc : (ns.map V.int)[j]? = some (.int ns[j]) := by rw [List.getElem?_map, List.getElem?_eq_getElem hj]; rfl
      refine ⟨_, rfl, _, _, _, _, rfl, rfl, SqL.of h1, rfl, _, rfl, _, _, _, _, rfl, rfl, SqL.of h1, rfl, _, _, _, _, rfl, rfl, SqL.of h2, atI_nat hc, ?_⟩
      refine ⟨_, rfl, _, _, _, _, rfl, rfl, SqL.of h1, rfl, _, _, rfl, rfl, _, rfl, _, _, _, _, rfl, rfl, h1, rfl, ?_⟩
      refine ⟨_, rfl, _, _, _, _, rfl, rfl, SqL.of upd_same, rfl, _, _, rfl, rfl, .inr ⟨by decide, by decide⟩, _, rfl, _, _, rfl, rfl, .inl ⟨_, rfl, _, _, rfl, rfl, hbig, _, rfl, _, _, _, _, rfl, rfl, upd_same, rfl, ?_⟩⟩
      refine ⟨_, rfl, _, _, _, _, rfl, rfl, upd_same, rfl, ?_⟩
      have kk : Keep [p] H (upd (upd (upd H p (.lst (List.set [.ref q, .int (j : Int), .int i2, .int i3, .int i4, .int i5] 1 (.int ((j : Int) + 1))))) p
        (.lst (List.set (List.set [.ref q, .int (j : Int), .int i2, .int i3, .int i4, .int i5] 1 (.int ((j : Int) + 1))) 3 (.int ((i3 * 31 + ns[j]) % 2147483647))))) p
        (.lst (List.set (List.set (List.set [.ref q, .int (j : Int), .int i2, .int i3, .int i4, .int i5] 1 (.int ((j : Int) + 1))) 3 (.int ((i3 * 31 + ns[j]) % 2147483647))) 4 (.int 7)))) :=
        ((Keep.at_ (List.mem_singleton.mpr rfl)).then_at (List.mem_singleton.mpr rfl)).then_at (List.mem_singleton.mpr rfl)
      refine ⟨_, rfl, _, _, rfl, rfl, ⟨by decide, by decide, by decide⟩, _, _, rfl, rfl, _, rfl, iteD (fun _ => ?_) (fun _ => ?_)⟩
      · refine ⟨_, rfl, _, rfl, _, _, _, _, rfl, rfl, upd_same, rfl, ?_⟩
        exact ⟨_, _, _, _, _, _, rfl, upd_same, kk.then_at (List.mem_singleton.mpr rfl), by omega⟩
      · exact ⟨_, _, _, _, _, _, rfl, upd_same, kk, by omega⟩
    · rintro σ' H' ⟨c, j1, j2, j3, j4, j5, rfl, g1, kk, hj1⟩
      have g2 : H' q = some (.lst (ns.map V.int)) := kk q _ h2 (by simpa using hqp)
      refine ⟨_, rfl, _, _, _, _, rfl, rfl, SqL.of g1, rfl, _, _, rfl, rfl, _, rfl, iteD (fun _ => ?_) (fun _ => ?_)⟩
      · refine ⟨_, rfl, _, _, _, _, rfl, rfl, SqL.of g1, rfl, .inl ⟨_, rfl, _, rfl, _, _, rfl, rfl, hs0, ?_⟩⟩
        refine ⟨_, rfl, _, _, _, _, rfl, rfl, SqL.of g1, rfl, _, rfl, _, _, rfl, rfl, ⟨hs0, hs1⟩, _, rfl, _, _, _, _, rfl, rfl, g1, rfl, ?_⟩
        refine ⟨_, rfl, _, _, _, _, rfl, rfl, upd_same, rfl, ?_⟩
        refine ⟨_, rfl, ?_⟩
        refine k _ _ (Int.emod_nonneg _ (by omega)) (Int.emod_lt_of_pos _ hs0) ⟨_, _, _, _, _, upd_same, ?_, hqp, hj1⟩ ((kk.then_at (List.mem_singleton.mpr rfl)).then_at (List.mem_singleton.mpr rfl))
        rw [upd_ne hqp, upd_ne hqp]; exact g2
      · refine ⟨_, rfl, _, _, _, _, rfl, rfl, SqL.of g1, rfl, _, _, rfl, rfl, _, rfl, _, _, _, _, rfl, rfl, g1, rfl, ?_⟩
        refine ⟨_, rfl, _, _, _, _, rfl, rfl, SqL.of upd_same, rfl, _, _, rfl, rfl, .inr ⟨by decide, by decide⟩, _, _, rfl, rfl, .inl ⟨_, rfl, _, _, rfl, rfl, hbig, _, rfl, _, _, _, _, rfl, rfl, upd_same, rfl, ?_⟩⟩
        refine ⟨_, rfl, _, _, _, _, rfl, rfl, SqL.of upd_same, rfl, _, _, rfl, rfl, .inr ⟨by decide, by decide⟩, _, _, rfl, rfl, .inl ⟨_, rfl, _, _, rfl, rfl, hbig, _, rfl, _, _, rfl, rfl, hs0, ?_⟩⟩
        refine k _ _ (Int.emod_nonneg _ (by omega)) (Int.emod_lt_of_pos _ hs0) ⟨_, _, _, _, _, upd_same, ?_, hqp, hj1⟩ ((kk.then_at (List.mem_singleton.mpr rfl)).then_at (List.mem_singleton.mpr rfl))
        rw [upd_ne hqp, upd_ne hqp]; exact g2
end

/-! texts: joined, split at blanks -/
theorem joinL_len (s : List Nat) : ∀ l : List (List Nat), (TL.joinL s l).length ≤ (l.map (·.length)).sum + l.length * s.length
  | [] => by simp [TL.joinL]
  | [p] => by simp [TL.joinL]
  | p :: q :: r => by
    have ih := joinL_len s (q :: r)
    show (p ++ (s ++ TL.joinL s (q :: r))).length ≤ _
    rw [List.length_append, List.length_append, List.map_cons, List.sum_cons, List.length_cons (a := p), Nat.add_mul, Nat.one_mul]
    omega
theorem lens_tl (ys : List Str) : (ys.map TL.tl).map (·.length) = ys.map (·.length) := by
  rw [List.map_map]
  exact List.map_congr_left fun y _ => (TL.len_tl y).symm
theorem join_len (y : Str) (ys : List Str) : (Txt.join y ys).length ≤ (ys.map (·.length)).sum + ys.length * y.length := by
  rw [TL.len_tl, TL.join_eq, TL.tl_join]
  have h := joinL_len (TL.tl y) (ys.map TL.tl)
  rw [lens_tl, List.length_map, ← TL.len_tl] at h
  exact h
theorem pre32 (c : Nat) (r : List Nat) : TL.pre [32] (c :: r) = decide (c = 32) := by
  unfold TL.pre
  show ([c] == [32]) = _
  by_cases h : c = 32
  · subst h; rfl
  · rw [decide_eq_false h]
    refine Bool.eq_false_iff.mpr fun q => h ?_
    have := eq_of_beq q
    exact (List.cons.inj this).1
theorem spl32_hit (acc r : List Nat) : TL.spl [32] 0 acc (32 :: r) = acc :: TL.spl [32] 0 [] r := TL.spl_hit (by rw [pre32]; rfl)
theorem spl32_miss {c : Nat} (h : ¬ c = 32) (acc r : List Nat) : TL.spl [32] 0 acc (c :: r) = TL.spl [32] 0 (acc ++ [c]) r := TL.spl_miss (by rw [pre32, decide_eq_false h])
theorem spl32_ne (l : List Nat) : ∀ acc, TL.spl [32] 0 acc l ≠ [] := by
  induction l with
  | nil => intro acc; rw [TL.spl_nil]; simp
  | cons c r ih =>
    intro acc
    by_cases h : c = 32
    · subst h; rw [spl32_hit]; simp
    · rw [spl32_miss h]; exact ih _
theorem join_spl32 (l : List Nat) : ∀ acc, TL.joinL [32] (TL.spl [32] 0 acc l) = acc ++ l := by
  induction l with
  | nil => intro acc; rw [TL.spl_nil, List.append_nil]; rfl
  | cons c r ih =>
    intro acc
    by_cases h : c = 32
    · subst h
      rw [spl32_hit]
      have e := ih []
      cases q : TL.spl [32] 0 [] r with
      | nil => exact absurd q (spl32_ne r [])
      | cons a b =>
        rw [q] at e
        show acc ++ ([32] ++ TL.joinL [32] (a :: b)) = _
        rw [e]; simp
    · rw [spl32_miss h, ih]; simp
theorem sum_spl32 (l : List Nat) : ∀ acc, ((TL.spl [32] 0 acc l).map (·.length)).sum + (TL.spl [32] 0 acc l).length = acc.length + l.length + 1 := by
  induction l with
  | nil => intro acc; rw [TL.spl_nil]; simp
  | cons c r ih =>
    intro acc
    by_cases h : c = 32
    · subst h
      rw [spl32_hit]
      have e := ih []
      simp only [List.map_cons, List.sum_cons, List.length_cons, List.length_nil] at e ⊢
      omega
    · rw [spl32_miss h, ih]; simp; omega
/-- the words of a text -/
def wordsOf (t : Str) : List Str := if t.length = 0 then [] else (TL.spl [32] 0 [] (TL.tl t)).map S
theorem sp_eq : (" " : Str) = S [32] := by decide +kernel
theorem tl_sp : TL.tl (" " : Str) = [32] := by decide +kernel
theorem split_words_eq (t : Str) : Txt.split t " " = (TL.spl [32] 0 [] (TL.tl t)).map S := by
  have e := split_S (a := TL.tl t) (b := [32]) (by simp) (by decide)
  rw [S_tl] at e
  rw [sp_eq]; exact e
theorem nil_of_len {t : Str} (h : t.length = 0) : TL.tl t = [] := by
  rw [TL.len_tl] at h
  exact List.eq_nil_of_length_eq_zero h
theorem join_words_eq (t : Str) : Txt.join " " (wordsOf t) = t := by
  refine TL.ext_tl ?_
  rw [TL.join_eq, TL.tl_join, tl_sp]
  unfold wordsOf
  split
  · rename_i h; rw [nil_of_len h]; rfl
  · rw [map_S_tl, join_spl32]; rfl
theorem words_sum (t : Str) : ((wordsOf t).map (·.length)).sum + (wordsOf t).length ≤ t.length + 1 := by
  unfold wordsOf
  split
  · simp
  · rw [lens, List.length_map, sum_spl32, TL.len_tl]; simp

/-! the law's look whether two values are the same: only the answer True is told -/
def SameV : Nat → Hp → V → V → Prop
  | 0, _, _, _ => False
  | n + 1, H, a, d => (a = d ∧ ((∃ x, d = .str x) ∨ (∃ i, d = .int i) ∨ (∃ b, d = .bl b) ∨ d = .non)) ∨
    ∃ p q xs ys, a = .ref p ∧ d = .ref q ∧ ((H p = some (.lst xs) ∧ H q = some (.lst ys)) ∨ (H p = some (.tup xs) ∧ H q = some (.tup ys))) ∧ xs.length = ys.length ∧ xs.length ≤ sizeLine ∧
      ∀ (i : Nat) x y, xs[i]? = some x → ys[i]? = some y → SameV n H x y
def sp_law_same (n : Nat) : Sp := fun vs H Q _ => ∃ a d, vs = [a, d] ∧ SameV n H a d ∧ Q (.bl true) H
theorem sameV_strs {n : Nat} {H : Hp} {p q : Addr} {ys : List Str} (h1 : H p = some (.lst (ys.map V.str))) (h2 : H q = some (.lst (ys.map V.str))) (hl : ys.length ≤ sizeLine) : SameV (n + 2) H (.ref p) (.ref q) := by
  refine .inr ⟨p, q, _, _, rfl, rfl, .inl ⟨h1, h2⟩, rfl, by rw [List.length_map]; exact hl, fun i x y hx hy => ?_⟩
  rw [hx] at hy; cases hy
  obtain ⟨z, _, rfl⟩ := strs_get hx
  exact .inl ⟨rfl, .inl ⟨z, rfl⟩⟩
theorem sameV_str {n : Nat} {H : Hp} (x : Str) : SameV (n + 1) H (.str x) (.str x) := .inl ⟨rfl, .inl ⟨x, rfl⟩⟩
section
variable {K : PySem.W.Frag}
theorem kLT : PySem.W.kitOne K (.type "list") (.type "tuple") = some false := kit_ty (by decide +kernel)
theorem kLL : PySem.W.kitOne K (.type "list") (.type "list") = some true := kit_ty (by decide +kernel)
theorem kTT : PySem.W.kitOne K (.type "tuple") (.type "tuple") = some true := kit_ty (by decide +kernel)
theorem kTL : PySem.W.kitOne K (.type "tuple") (.type "list") = some false := kit_ty (by decide +kernel)
theorem kST : PySem.W.kitOne K (.type "str") (.type "tuple") = some false := kit_ty (by decide +kernel)
theorem kSL : PySem.W.kitOne K (.type "str") (.type "list") = some false := kit_ty (by decide +kernel)
theorem kSB : PySem.W.kitOne K (.type "str") (.type "bool") = some false := kit_ty (by decide +kernel)
theorem kSI : PySem.W.kitOne K (.type "str") (.type "int") = some false := kit_ty (by decide +kernel)
theorem kSS : PySem.W.kitOne K (.type "str") (.type "str") = some true := kit_ty (by decide +kernel)
theorem kIT : PySem.W.kitOne K (.type "int") (.type "tuple") = some false := kit_ty (by decide +kernel)
theorem kIL : PySem.W.kitOne K (.type "int") (.type "list") = some false := kit_ty (by decide +kernel)
theorem kIB : PySem.W.kitOne K (.type "int") (.type "bool") = some false := kit_ty (by decide +kernel)
theorem kII : PySem.W.kitOne K (.type "int") (.type "int") = some true := kit_ty (by decide +kernel)
theorem kBT : PySem.W.kitOne K (.type "bool") (.type "tuple") = some false := kit_ty (by decide +kernel)
theorem kBL : PySem.W.kitOne K (.type "bool") (.type "list") = some false := kit_ty (by decide +kernel)
theorem kBB : PySem.W.kitOne K (.type "bool") (.type "bool") = some true := kit_ty (by decide +kernel)
theorem kBI : PySem.W.kitOne K (.type "bool") (.type "int") = some true := kit_ty (by decide +kernel)
theorem kNT : PySem.W.kitOne K (.type "NoneType") (.type "tuple") = some false := kit_ty (by decide +kernel)
theorem kNL : PySem.W.kitOne K (.type "NoneType") (.type "list") = some false := kit_ty (by decide +kernel)
theorem kNB : PySem.W.kitOne K (.type "NoneType") (.type "bool") = some false := kit_ty (by decide +kernel)
theorem kNI : PySem.W.kitOne K (.type "NoneType") (.type "int") = some false := kit_ty (by decide +kernel)
end
theorem paired_strs {K : PySem.W.Frag} {H : Hp} {n : Nat} : ∀ ys : List Str, Paired (EqV K H (n + 1)) (ys.map V.str) (ys.map V.str)
  | [] => .nil
  | y :: r => .cons (.inl ⟨rfl, rfl⟩) (paired_strs r)

section
variable {P : Program} {w : World} {K : PySem.W.Frag} {mg : Str → Option Value} {base : Heap}
theorem ok_law_same0 {f : Addr} {fd : FuncData} (D : C8.Def K mg "_law_same" s_law_same f fd) (b : Binds K fd ["actual", "due"] []) : C8.Cal P w K mg base 0 "_law_same" (sp_law_same 0) [] :=
  ⟨f, fd, ["actual", "due"], [], ⟨fun vs H Q E h => (by obtain ⟨a, d, rfl, _⟩ := h; rfl), fun A outer s H args us vs Q E _ _ _ _ h => (by obtain ⟨a, d, _, z, _⟩ := h; exact z.elim)⟩, D.mgf, D.kp, b, .nil⟩
theorem ok_law_same {f : Addr} {fd : FuncData} (D : C8.Def K mg "_law_same" s_law_same f fd) (b : Binds K fd ["actual", "due"] []) (T : Txt K mg) {n k : Nat} (c_law_same : C8.Cal P w K mg base k "_law_same" (sp_law_same n) []) :
    C8.Cal P w K mg base (k + 1) "_law_same" (sp_law_same (n + 1)) [] := by
  refine cal0 D b .nil sc_law_same (fun vs H Q E h => ?_) (fun cdv A outer s H vs Q E hr h => ?_)
  · obtain ⟨a, d, rfl, _⟩ := h
    rfl
  · obtain ⟨a, d, rfl, hs, k⟩ := h
    have hu := hu_of hr
    refine ⟨_, (pss_cons (ps_if (PW.pt (pw_or (pt_val (pe_callB call_isi (by rfl) T.n_isinstance bo_isinstance (pa_cons (pv 1) (pa_cons (pe_bltn (v := .ty "tuple") (by rfl) T.n_tuple bo_tuple rfl) pa_nil)))) (pw_or1 (pt_val (pe_callB call_isi (by rfl) T.n_isinstance bo_isinstance (pa_cons (pv 1) (pa_cons (pe_bltn (v := .ty "list") (by rfl) T.n_list bo_list rfl) pa_nil)))))))
  (pss_cons (ps_if (PW.pt (pw_or (pt_cmpR op_ne (pe_callB call_isi (by rfl) T.n_isinstance bo_isinstance (pa_cons (pv 1) (pa_cons (pe_bltn (v := .ty "tuple") (by rfl) T.n_tuple bo_tuple rfl) pa_nil))) (pe_callB call_isi (by rfl) T.n_isinstance bo_isinstance (pa_cons (pv 0) (pa_cons (pe_bltn (v := .ty "tuple") (by rfl) T.n_tuple bo_tuple rfl) pa_nil))) (nomark _)) (pw_or1 (pt_cmpR op_ne (pe_callB call_isi (by rfl) T.n_isinstance bo_isinstance (pa_cons (pv 1) (pa_cons (pe_bltn (v := .ty "list") (by rfl) T.n_list bo_list rfl) pa_nil))) (pe_callB call_isi (by rfl) T.n_isinstance bo_isinstance (pa_cons (pv 0) (pa_cons (pe_bltn (v := .ty "list") (by rfl) T.n_list bo_list rfl) pa_nil))) (nomark _)))))
    (pss_one (ps_ret pe_bl))
    pss_nil)
  (pss_cons (ps_if (pt_cmpR op_ne (pe_callB call_len_seq (by rfl) T.n_len bo_len (pa_cons (pv 0) pa_nil)) (pe_callB call_len_seq (by rfl) T.n_len bo_len (pa_cons (pv 1) pa_nil)) (nomark _))
    (pss_one (ps_ret pe_bl))
    pss_nil)
  (pss_cons (ps_for PassesOwn.never rfl (pi_range1 (by rfl) T.n_range (pa_cons (pe_callB call_len_seq (by rfl) T.n_len bo_len (pa_cons (pv 1) pa_nil)) pa_nil)) (pg_name (i := 2) sc_law_same.nd rfl (by first | exact Or.inl rfl | exact Or.inr rfl))
    (pss_one (ps_if (pt_not (pt_val (pe_c c_law_same hr (by first | exact Nat.le_refl _ | decide) rfl (pa_cons (pe_ix ix_seq (pv 0) (pv 2) (fun _ _ => rfl)) (pa_cons (pe_ix ix_seq (pv 1) (pv 2) (fun _ _ => rfl)) pa_nil)))))
      (pss_one (ps_ret pe_bl))
      pss_nil)))
  (pss_one (ps_ret pe_bl)))))
  pss_nil)
(pss_cons (ps_if (PW.pt (pw_or (pt_cmpR op_isN (pv 1) pe_non (nomark _)) (pw_or1 (pt_val (pe_callB call_isi (by rfl) T.n_isinstance bo_isinstance (pa_cons (pv 1) (pa_cons (pe_bltn (v := .ty "bool") (by rfl) T.n_bool bo_bool rfl) pa_nil)))))))
  (pss_one (ps_ret (pe_and (pe_cmpR op_eq (pe_cmpR op_isN (pv 0) pe_non (nomark _)) (pe_cmpR op_isN (pv 1) pe_non (nomark _)) (nomark _)) (pe_and (pe_or (pe_cmpR op_isN (pv 1) pe_non (nomark _)) (pe_one (pe_callB call_isi (by rfl) T.n_isinstance bo_isinstance (pa_cons (pv 0) (pa_cons (pe_bltn (v := .ty "bool") (by rfl) T.n_bool bo_bool rfl) pa_nil))))) (pe_one (pe_cmpR op_eq (pv 0) (pv 1) (nomark _)))))))
  pss_nil)
(pss_cons (ps_if (pt_val (pe_callB call_isi (by rfl) T.n_isinstance bo_isinstance (pa_cons (pv 1) (pa_cons (pe_bltn (v := .ty "int") (by rfl) T.n_int bo_int rfl) pa_nil))))
  (pss_one (ps_ret (pe_and (pe_callB call_isi (by rfl) T.n_isinstance bo_isinstance (pa_cons (pv 0) (pa_cons (pe_bltn (v := .ty "int") (by rfl) T.n_int bo_int rfl) pa_nil))) (pe_and (pe_not (pe_callB call_isi (by rfl) T.n_isinstance bo_isinstance (pa_cons (pv 0) (pa_cons (pe_bltn (v := .ty "bool") (by rfl) T.n_bool bo_bool rfl) pa_nil)))) (pe_one (pe_cmpR op_eq (pv 0) (pv 1) (nomark _)))))))
  pss_nil)
(pss_one (ps_ret (pe_and (pe_callB call_isi (by rfl) T.n_isinstance bo_isinstance (pa_cons (pv 0) (pa_cons (pe_bltn (v := .ty "str") (by rfl) T.n_str bo_str rfl) pa_nil))) (pe_one (pe_cmpR op_eq (pv 0) (pv 1) (nomark _))))))))), ?_⟩
    -- the part behind the lengths, for lists and for tuples
    rcases hs with ⟨rfl, ⟨x, rfl⟩ | ⟨x, rfl⟩ | ⟨x, rfl⟩ | rfl⟩ | ⟨p, q, xs, ys, rfl, rfl, hh, hl, hz, hall⟩
    · refine ⟨_, rfl, _, _, _, _, _, rfl, .ty _, .base (.str x), kST, _, rfl, iteF ⟨_, rfl, _, _, _, _, _, rfl, .ty _, .base (.str x), kSL, _, rfl, iteF ?_⟩⟩
      refine ⟨_, rfl, rfl, _, rfl, iteDF (by simp) ⟨_, rfl, _, _, _, _, _, rfl, .ty _, .base (.str x), kSB, _, rfl, iteF ?_⟩⟩
      refine ⟨_, rfl, _, _, _, _, _, rfl, .ty _, .base (.str x), kSI, _, rfl, iteF ?_⟩
      refine ⟨_, rfl, _, _, _, _, _, rfl, .ty _, .base (.str x), kSS, _, rfl, iteT ⟨_, rfl, _, rfl, rfl, ?_⟩⟩
      rw [decide_eq_true rfl]; exact k
    · refine ⟨_, rfl, _, _, _, _, _, rfl, .ty _, .base (.int x), kIT, _, rfl, iteF ⟨_, rfl, _, _, _, _, _, rfl, .ty _, .base (.int x), kIL, _, rfl, iteF ?_⟩⟩
      refine ⟨_, rfl, rfl, _, rfl, iteDF (by simp) ⟨_, rfl, _, _, _, _, _, rfl, .ty _, .base (.int x), kIB, _, rfl, iteF ?_⟩⟩
      refine ⟨_, rfl, _, _, _, _, _, rfl, .ty _, .base (.int x), kII, _, rfl, iteT ?_⟩
      refine ⟨_, rfl, _, _, _, _, _, rfl, .ty _, .base (.int x), kII, _, rfl, iteT ⟨_, rfl, _, _, _, _, _, rfl, .ty _, .base (.int x), kIB, _, rfl, _, rfl, iteT ⟨_, rfl, _, rfl, rfl, ?_⟩⟩⟩
      rw [decide_eq_true rfl]; exact k
    · refine ⟨_, rfl, _, _, _, _, _, rfl, .ty _, .base (.bl x), kBT, _, rfl, iteF ⟨_, rfl, _, _, _, _, _, rfl, .ty _, .base (.bl x), kBL, _, rfl, iteF ?_⟩⟩
      refine ⟨_, rfl, rfl, _, rfl, iteDF (by simp) ⟨_, rfl, _, _, _, _, _, rfl, .ty _, .base (.bl x), kBB, _, rfl, iteT ?_⟩⟩
      refine ⟨_, rfl, rfl, _, rfl, rfl, rfl, _, rfl, iteDT (by simp) ?_⟩
      refine ⟨_, rfl, rfl, _, rfl, iteDF (by simp) ?_⟩
      refine ⟨_, rfl, _, _, _, _, _, rfl, .ty _, .base (.bl x), kBB, ?_⟩
      refine ⟨_, rfl, iteT ⟨_, rfl, _, rfl, rfl, ?_⟩⟩
      rw [decide_eq_true rfl]; exact k
    · refine ⟨_, rfl, _, _, _, _, _, rfl, .ty _, .base .non, kNT, _, rfl, iteF ⟨_, rfl, _, _, _, _, _, rfl, .ty _, .base .non, kNL, _, rfl, iteF ?_⟩⟩
      refine ⟨_, rfl, rfl, _, rfl, iteDT (by simp) ?_⟩
      refine ⟨_, rfl, rfl, _, rfl, rfl, rfl, _, rfl, iteDT (by simp) ?_⟩
      refine ⟨_, rfl, rfl, _, rfl, iteDT (by simp) ?_⟩
      refine ⟨_, rfl, iteT ⟨_, rfl, _, rfl, rfl, ?_⟩⟩
      rw [decide_eq_true rfl]; exact k
    · obtain ⟨t, b1, b2, ty1, ty2, k1, k2, hb, sq⟩ : ∃ (t : Value) (b1 b2 : Bool), TyX K H (.ref p) t ∧ TyX K H (.ref q) t ∧ PySem.W.kitOne K t (.type "tuple") = some b1 ∧ PySem.W.kitOne K t (.type "list") = some b2 ∧ (b1 = true ∨ b2 = true) ∧
          ((SqL K H p xs ∧ SqL K H q ys) ∨ (SqT K H p xs ∧ SqT K H q ys)) := by
        rcases hh with ⟨h1, h2⟩ | ⟨h1, h2⟩
        · exact ⟨_, _, _, .base (.lst h1), .base (.lst h2), kLT, kLL, .inr rfl, .inl ⟨SqL.of h1, SqL.of h2⟩⟩
        · exact ⟨_, _, _, .base (.tup h1), .base (.tup h2), kTT, kTL, .inl rfl, .inr ⟨SqT.of h1, SqT.of h2⟩⟩
      have sqp : SqL K H p xs ∨ SqT K H p xs := sq.elim (fun z => .inl z.1) fun z => .inr z.1
      have sqq : SqL K H q ys ∨ SqT K H q ys := sq.elim (fun z => .inl z.2) fun z => .inr z.2
      have bz : (ys.length : Int) < 2 ^ 62 := by
        have e : sizeLine = 16777216 := sizeLine_eq
        have : ys.length ≤ 16777216 := by omega
        omega
      -- the part behind the first test
      have rest : ∀ {D : Ends} {t1 : TS}, t1 D [some (.ref p), some (.ref q), none] H → t1 D [some (.ref p), some (.ref q), none] H := fun z => z
      refine ⟨_, rfl, _, _, _, _, _, rfl, .ty _, ty2, k1, _, rfl, iteB (fun e1 => ?_) (fun e1 => ⟨_, rfl, _, _, _, _, _, rfl, .ty _, ty2, k2, _, rfl, iteB (fun e2 => ?_) (fun e2 => ?_)⟩)⟩
      rotate_left 2
      · rcases hb with z | z
        · rw [e1] at z; cases z
        · rw [e2] at z; cases z
      all_goals
        refine ⟨_, rfl, _, _, _, _, _, rfl, .ty _, ty2, k1, _, rfl, _, _, _, _, _, rfl, .ty _, ty1, k1, rfl, _, rfl, iteNF (by simp) ?_⟩
        refine ⟨_, rfl, _, _, _, _, _, rfl, .ty _, ty2, k2, _, rfl, _, _, _, _, _, rfl, .ty _, ty1, k2, rfl, _, rfl, iteNF (by simp) ?_⟩
        refine ⟨_, rfl, _, _, rfl, sqp, _, rfl, _, _, rfl, sqq, rfl, _, rfl, iteNF (by rw [hl]) ?_⟩
        refine ⟨_, rfl, _, _, rfl, sqq, _, rfl, by omega, bz, for_range (lo := 0) (n := ys.length) (fun i σ H' => ∃ kv, σ = [some (.ref p), some (.ref q), kv] ∧ H' = H) ⟨none, rfl, rfl⟩ ?_ ?_⟩
        · rintro i σ H' hi ⟨kv, rfl, rfl⟩
          have hx : xs[i]? = some (xs[i]'(by omega)) := List.getElem?_eq_getElem _
          have hy : ys[i]? = some ys[i] := List.getElem?_eq_getElem _
          have e0 : (0 : Int) + (i : Int) = (i : Int) := by omega
          rw [e0]
          rcases sq with ⟨s1, s2⟩ | ⟨s1, s2⟩
          · refine ⟨_, rfl, _, rfl, .inl ⟨_, _, _, _, rfl, rfl, s1, atI_nat hx, _, rfl, _, rfl, .inl ⟨_, _, _, _, rfl, rfl, s2, atI_nat hy, ?_⟩⟩⟩
            exact ⟨_, _, rfl, hall i _ _ hx hy, _, rfl, iteF ⟨_, rfl, rfl⟩⟩
          · refine ⟨_, rfl, _, rfl, .inr (.inl ⟨_, _, _, _, rfl, rfl, s1, atI_nat hx, _, rfl, _, rfl, .inr (.inl ⟨_, _, _, _, rfl, rfl, s2, atI_nat hy, ?_⟩)⟩)⟩
            exact ⟨_, _, rfl, hall i _ _ hx hy, _, rfl, iteF ⟨_, rfl, rfl⟩⟩
        · rintro σ H' ⟨kv, rfl, rfl⟩
          exact k
end

theorem bo_split_dummy : True := True.intro
section
variable {X : Cx}
/-- x * n: a text so many times -/
theorem foldl_size (z : Array Nat) : ∀ (m : Nat) (a : Array Nat), ((List.replicate m z).foldl (· ++ ·) a).size = a.size + m * z.size
  | 0, a => by simp
  | m + 1, a => by
    rw [List.replicate_succ, List.foldl_cons, foldl_size z m, Array.size_append, Nat.add_mul, Nat.one_mul]
    omega
theorem op_mul_str : OpR X (binaryOp .Mult) (fun x y H Q => ∃ (z : Str) (n : Int), x = .str z ∧ y = .int n ∧ 0 ≤ n ∧ n ≤ 1000 ∧ z.length ≤ 10000 ∧ ∀ u : Str, u.length ≤ z.length * n.toNat → Q (.str u) H) := by
  intro pins s σ H x y v u Q I rx ry h
  obtain ⟨z, n, rfl, rfl, h0, h1, hz, q⟩ := h
  obtain ⟨t, rfl⟩ := rx
  obtain ⟨t', rfl⟩ := ry
  have hn : n.toNat ≤ 1000 := by omega
  have hp : z.length * n.toNat ≤ 10000 * 1000 := Nat.mul_le_mul hz hn
  have el : sizeLine = 16777216 := sizeLine_eq
  refine PySem.P.mul_str ?_ (fun a _ => ?_) (fun _ _ => ?_) ?_
  · rw [decide_eq_false (by omega), decide_eq_false (by omega)]; rfl
  · have h9 : (1000000 : Int) ≤ (2 ^ 63 - 1) / n := by
      refine Int.le_ediv_of_mul_le (by omega) ?_
      omega
    omega
  · unfold Builtin.Str.tooLong
    refine decide_eq_false ?_
    omega
  · have done : ∀ (w : Str) (k : Nat) (tk : Tok), w.length ≤ z.length * n.toNat → EP X pins σ Q (.str w tk) { s with toks := k } := fun w k tk hw => ⟨.str w, H, I.tok _, ⟨_, rfl⟩, q w hw⟩
    by_cases e1 : n < 1
    · rw [if_pos e1]
      exact ⟨by decide, done _ _ _ (Nat.zero_le _)⟩
    · rw [if_neg e1]
      by_cases e2 : (n == 1 || z.length == 0) = true
      · rw [if_pos e2]
        refine done _ _ _ ?_
        rcases (Bool.or_eq_true _ _ ▸ e2) with e | e
        · have : n = 1 := eq_of_beq e
          subst this
          simp
        · have : z.length = 0 := eq_of_beq e
          omega
      · rw [if_neg e2]
        have hs : (⟨(List.replicate n.toNat z.cps).foldl (· ++ ·) #[]⟩ : Str).length ≤ z.length * n.toNat := by
          show ((List.replicate n.toNat z.cps).foldl (· ++ ·) #[]).size ≤ z.length * n.toNat
          rw [foldl_size]
          show 0 + n.toNat * z.length ≤ _
          rw [Nat.zero_add, Nat.mul_comm]
          exact Nat.le_refl _
        exact ⟨by omega, done _ _ _ hs⟩
end
def sp_law_char : Sp := fun vs H Q _ => ∃ p q ns, vs = [.ref p] ∧ Pool H p q ns ∧ ∀ (c : Nat) H', Pool H' p q ns → Keep [p] H H' → Q (.str ⟨#[c]⟩) H'
def sp_law_text : Sp := fun vs H Q _ => ∃ p q ns, vs = [.ref p] ∧ Pool H p q ns ∧ ∀ (t : Str) H', t.length ≤ 2000 → Pool H' p q ns → Keep [p] H H' → Q (.str t) H'
def sp_law_split : Sp := fun vs H Q _ => ∃ t : Str, vs = [.str t] ∧ t.length ≤ 2000 ∧ ∀ l H', H l = none → H' l = some (.lst ((wordsOf t).map V.str)) → Keep [] H H' → Q (.ref l) H'
def sp_join_words (K : PySem.W.Frag) : Sp := fun vs H Q _ => ∃ (l : Addr) (ys : List Str), vs = [.ref l] ∧ SqL K H l (ys.map V.str) ∧ (ys.map (·.length)).sum + ys.length ≤ 100000 ∧ Q (.str (Txt.join " " ys)) H
def sp_law_joins : Sp := fun vs H Q _ => ∃ (l : Addr) (ys : List Str), vs = [.ref l] ∧ H l = some (.lst (ys.map V.str)) ∧ (ys.map (·.length)).sum + ys.length ≤ 100000 ∧ ∀ H', Keep [] H H' → Q (.bl true) H'
section
variable {P : Program} {w : World} {K : PySem.W.Frag} {mg : Str → Option Value} {base : Heap}
theorem ok_law_char {f : Addr} {fd : FuncData} (D : C8.Def K mg "_law_char" s_law_char f fd) (b : Binds K fd ["pool"] []) (T : Txt K mg) (c_law_draw : C8.Cal P w K mg base 1 "_law_draw" sp_law_draw []) : C8.Cal P w K mg base 2 "_law_char" sp_law_char [] := by
  refine cal0 D b .nil sc_law_char (fun vs H Q E h => ?_) (fun cdv A outer s H vs Q E hr h => ?_)
  · obtain ⟨a, q, ns, rfl, _⟩ := h
    rfl
  · obtain ⟨p, q, ns, rfl, hP, k⟩ := h
    refine ⟨_, (pss_cons (ps_set (i := 1) sc_law_char.nd rfl (by first | exact Or.inl rfl | exact Or.inr rfl) pe_str)
(pss_cons (ps_if (pt_cmpR op_eq (pe_c c_law_draw hr (by first | exact Nat.le_refl _ | decide) rfl (pa_cons (pv 0) (pa_cons pe_int pa_nil))) pe_int (nomark _))
  (pss_one (ps_ret pe_str))
  pss_nil)
(pss_one (ps_ret (pe_ix ix_str (pv 1) (pe_c c_law_draw hr (by first | exact Nat.le_refl _ | decide) rfl (pa_cons (pv 0) (pa_cons (pe_callB call_len_str (by rfl) T.n_len bo_len (pa_cons (pv 1) pa_nil)) pa_nil))) (fun _ _ => rfl)))))), ?_⟩
    refine ⟨_, rfl, p, q, ns, 3, rfl, by decide, by decide, hP, fun r H1 r0 r1 P1 K1 => ⟨rfl, _, rfl, iteD (fun _ => ?_) (fun _ => ?_)⟩⟩
    · exact k 32 _ P1 K1
    · refine ⟨_, rfl, _, rfl, _, rfl, _, rfl, (by decide +kernel), p, q, ns, _, rfl, (by decide +kernel), (by decide +kernel), P1, fun j H2 j0 j1 P2 K2 => ?_⟩
      obtain ⟨m, rfl⟩ : ∃ m : Nat, j = (m : Int) := ⟨j.toNat, by omega⟩
      refine ⟨_, _, _, rfl, rfl, (by decide +kernel), atI_nat (List.getElem?_eq_getElem (by rw [← TL.len_tl]; omega)), k _ _ P2 (K1.trans K2)⟩
theorem ok_law_text {f : Addr} {fd : FuncData} (D : C8.Def K mg "_law_text" s_law_text f fd) (b : Binds K fd ["pool"] []) (T : Txt K mg) (c_law_draw : C8.Cal P w K mg base 1 "_law_draw" sp_law_draw [])
    (c_law_char : C8.Cal P w K mg base 2 "_law_char" sp_law_char []) : C8.Cal P w K mg base 3 "_law_text" sp_law_text [] := by
  refine cal0 D b .nil sc_law_text (fun vs H Q E h => ?_) (fun cdv A outer s H vs Q E hr h => ?_)
  · obtain ⟨a, q, ns, rfl, _⟩ := h
    rfl
  · obtain ⟨p, q, ns, rfl, hP, k⟩ := h
    refine ⟨_, (pss_cons (ps_set (i := 1) sc_law_text.nd rfl (by first | exact Or.inl rfl | exact Or.inr rfl) (pe_c c_law_draw hr (by first | exact Nat.le_refl _ | decide) rfl (pa_cons (pv 0) (pa_cons pe_int pa_nil))))
(pss_cut (ps_if (pt_cmpR op_eq (pe_c c_law_draw hr (by first | exact Nat.le_refl _ | decide) rfl (pa_cons (pv 0) (pa_cons pe_int pa_nil))) pe_int (nomark _))
  (pss_one (ps_set (i := 1) sc_law_text.nd rfl (by first | exact Or.inl rfl | exact Or.inr rfl) (pe_c c_law_draw hr (by first | exact Nat.le_refl _ | decide) rfl (pa_cons (pv 0) (pa_cons pe_int pa_nil)))))
  pss_nil)
(pss_cons (ps_set (i := 2) sc_law_text.nd rfl (by first | exact Or.inl rfl | exact Or.inr rfl) (pe_join pe_str (pe_lc (own := [("k", 3)]) (g := gName 3) (tt := tYes) rfl sc_law_text.nd (pi_range1 (by rfl) T.n_range (pa_cons (pv 1) pa_nil)) (blkOk_by (N := ["pool", "size", "text", "k"]) (sc := fnScope s_law_text) (by decide +kernel)) (fun _ _ _ _ _ => pg_name (i := 3) sc_law_text.nd rfl (Or.inl rfl)) (fun _ _ _ _ _ => pts_nil) (fun _ _ _ _ _ => (pe_c c_law_char hr (by first | exact Nat.le_refl _ | decide) rfl (pa_cons (pv 0) pa_nil))))))
(pss_cons (ps_if (PW.pt (pw_and (pt_cmpR op_lt (pv 1) pe_int (nomark _)) (pw_and1 (pt_cmpR op_eq (pe_c c_law_draw hr (by first | exact Nat.le_refl _ | decide) rfl (pa_cons (pv 0) (pa_cons pe_int pa_nil))) pe_int (nomark _)))))
  (pss_one (ps_ret (pe_op op_mul_str (pv 2) (pe_c c_law_draw hr (by first | exact Nat.le_refl _ | decide) rfl (pa_cons (pv 0) (pa_cons pe_int pa_nil))))))
  pss_nil)
(pss_one (ps_ret (pv 2))))))), ?_⟩
    refine ⟨_, rfl, p, q, ns, 13, rfl, by decide, by decide, hP, fun r H1 r0 r1 P1 K1 => ?_⟩
    -- size is at most 200
    refine ⟨fun σ H' => ∃ z : Int, σ = [some (.ref p), some (.int z), none, none] ∧ 0 ≤ z ∧ z ≤ 200 ∧ Pool H' p q ns ∧ Keep [p] H H', ?_, ?_⟩
    · refine ⟨_, rfl, p, q, ns, 4, rfl, by decide, by decide, P1, fun r2 H2 _ _ P2 K2 => ⟨rfl, _, rfl, iteD (fun _ => ?_) (fun _ => ?_)⟩⟩
      · refine ⟨_, rfl, p, q, ns, 201, rfl, by decide, by decide, P2, fun r3 H3 _ _ P3 K3 => ?_⟩
        exact ⟨r3, rfl, by omega, by omega, P3, (K1.trans K2).trans K3⟩
      · exact ⟨r, rfl, by omega, by omega, P2, K1.trans K2⟩
    · rintro σ' H2 ⟨z, rfl, z0, z1, P2, K2⟩
      refine ⟨⟨_, rfl⟩, ⟨_, rfl, _, rfl, by omega, by omega, fun L hL => ?_⟩⟩
      have hL0 : H L = none := P2.free K2 hL
      have nLp : L ≠ p := P2.nep hL
      have nLq : L ≠ q := P2.neq hL
      refine lc_range (n := z.toNat) (fun i H' => ∃ ys : List Str, H' L = some (.lst (ys.map V.str)) ∧ ys.length = i ∧ (∀ y ∈ ys, y.length = 1) ∧ Pool H' p q ns ∧ Keep [p] H H')
        ⟨[], upd_same, rfl, (fun _ q => by cases q), P2.new hL, K2.then_own hL0⟩ ?_ ?_
      · rintro i H' hi ⟨ys, hD, hlen, hone, P3, K3⟩
        refine ⟨rfl, yes_then ⟨_, rfl, p, q, ns, rfl, P3, fun c H4 P4 K4 => ?_⟩⟩
        have g : H4 L = some (.lst (ys.map V.str)) := K4 _ _ hD (by simpa using nLp)
        refine ⟨_, g, by rw [List.length_map]; exact smallL (by omega), ys ++ [⟨#[c]⟩], ?_, by simp [hlen], ?_, ?_, (K3.trans K4).then_own hL0⟩
        · rw [List.map_append]; exact upd_same
        · intro y hy
          rcases List.mem_append.mp hy with q | q
          · exact hone y q
          · rw [List.mem_singleton.mp q]; rfl
        · exact P4.own nLp nLq
      · rintro H' ⟨ys, hD, hlen, hone, P3, K3⟩
        have hsum : (ys.map (·.length)).sum = ys.length := by
          have : ∀ l : List Str, (∀ y ∈ l, y.length = 1) → (l.map (·.length)).sum = l.length := by
            intro l
            induction l with
            | nil => intro _; rfl
            | cons a r ih => intro h; rw [List.map_cons, List.sum_cons, ih fun y hy => h y (List.mem_cons_of_mem _ hy), h a (List.mem_cons_self ..), List.length_cons]; omega
          exact this ys hone
        have hjl := join_len ("" : Str) ys
        have e0 : ("" : Str).length = 0 := by decide +kernel
        rw [hsum, e0, Nat.mul_zero] at hjl
        refine ⟨_, _, ys, rfl, rfl, .inl (SqL.of hD), by rw [hsum, e0]; omega, ?_⟩
        refine ⟨_, rfl, _, _, rfl, rfl, _, rfl, iteD (fun h31 => ?_) (fun _ => ?_)⟩
        · refine ⟨_, rfl, p, q, ns, 8, rfl, by decide, by decide, P3, fun r4 H4 _ _ P4 K4 => ⟨rfl, _, rfl, iteD (fun _ => ?_) (fun _ => ?_)⟩⟩
          · refine ⟨_, rfl, _, rfl, p, q, ns, 41, rfl, by decide, by decide, P4, fun r5 H5 z5 y5 P5 K5 => ?_⟩
            refine ⟨_, _, rfl, rfl, z5, by omega, by omega, fun u hu => k u H5 ?_ P5 ((K3.trans K4).trans K5)⟩
            refine Nat.le_trans hu (Nat.le_trans (Nat.mul_le_mul (show _ ≤ 31 by omega) (show r5.toNat ≤ 41 by omega)) (by decide))
          · exact ⟨_, rfl, k _ _ (by omega) P4 (K3.trans K4)⟩
        · exact ⟨_, rfl, k _ _ (by omega) P3 K3⟩
theorem ok_split_words {f : Addr} {fd : FuncData} (D : C8.Def K mg "split_words" s_split_words f fd) (b : Binds K fd ["text"] []) (T : Txt K mg) : C8.Cal P w K mg base 1 "split_words" sp_law_split [] := by
  refine cal0 D b .nil sc_split_words (fun vs H Q E h => ?_) (fun cdv A outer s H vs Q E hr h => ?_)
  · obtain ⟨a, rfl, _⟩ := h
    rfl
  · obtain ⟨t, rfl, ht, k⟩ := h
    refine ⟨_, (pss_cons (ps_if (pt_cmpR op_eq (pv 0) pe_str (nomark _))
  (pss_one (ps_ret (pe_lst pa_nil)))
  pss_nil)
(pss_one (ps_ret (pe_split (pv 0) pe_str)))), ?_⟩
    have e0 : ("" : Str).length = 0 := by decide +kernel
    refine ⟨_, rfl, rfl, _, rfl, iteD (fun e => ?_) (fun e => ?_)⟩
    · have e' : t = ("" : Str) := V.str.inj e
      subst e'
      refine ⟨by show 0 ≤ sizeLine; decide, fun p hp => k p _ hp ?_ (Keep.new hp)⟩
      have ew : wordsOf ("" : Str) = [] := by unfold wordsOf; rw [if_pos e0]
      rw [ew]; exact upd_same
    · refine ⟨_, rfl, ⟨_, rfl⟩, _, _, rfl, rfl, by decide +kernel, smallM (by omega), fun p hp => k p _ hp ?_ (Keep.new hp)⟩
      have hne : ¬ t.length = 0 := fun z => e (congrArg V.str (TL.ext_tl ((nil_of_len z).trans (nil_of_len e0).symm)))
      have ew : Txt.split t " " = wordsOf t := by unfold wordsOf; rw [if_neg hne, split_words_eq]
      rw [← ew]; exact upd_same
theorem ok_join_words {f : Addr} {fd : FuncData} (D : C8.Def K mg "join_words" s_join_words f fd) (b : Binds K fd ["words"] []) (T : Txt K mg) : C8.Cal P w K mg base 1 "join_words" (sp_join_words K) [] := by
  refine cal0 D b .nil sc_join_words (fun vs H Q E h => ?_) (fun cdv A outer s H vs Q E hr h => ?_)
  · obtain ⟨a, ys, rfl, _⟩ := h
    rfl
  · obtain ⟨l, ys, rfl, hS, hl, k⟩ := h
    refine ⟨_, (pss_one (ps_ret (pe_join pe_str (pv 0)))), ?_⟩
    have e1 : (" " : Str).length = 1 := by decide +kernel
    exact ⟨⟨_, rfl⟩, _, rfl, _, _, ys, rfl, rfl, .inl hS, by rw [e1]; omega, k⟩
theorem ok_law_split {f : Addr} {fd : FuncData} (D : C8.Def K mg "_law_split" s_law_split f fd) (b : Binds K fd ["text"] []) (T : Txt K mg) : C8.Cal P w K mg base 1 "_law_split" sp_law_split [] := by
  refine cal0 D b .nil sc_law_split (fun vs H Q E h => ?_) (fun cdv A outer s H vs Q E hr h => ?_)
  · obtain ⟨a, rfl, _⟩ := h
    rfl
  · obtain ⟨t, rfl, ht, k⟩ := h
    refine ⟨_, (pss_cons (ps_if (pt_cmpR op_eq (pe_callB call_len_str (by rfl) T.n_len bo_len (pa_cons (pv 0) pa_nil)) pe_int (nomark _))
  (pss_one (ps_ret (pe_lst pa_nil)))
  pss_nil)
(pss_cons (ps_set (i := 1) sc_law_split.nd rfl (by first | exact Or.inl rfl | exact Or.inr rfl) (pe_lst (pa_cons pe_str pa_nil)))
(pss_cons (ps_for PassesOwn.never rfl (pi_str (pv 0)) (pg_name (i := 2) sc_law_split.nd rfl (by first | exact Or.inl rfl | exact Or.inr rfl))
  (pss_one (ps_if (pt_cmpR op_eq (pv 2) pe_str (nomark _))
    (pss_one (ps_expr (pe_bm PySem.F.plainAttrs_list PySem.F.slot_list_append PySem.F.type_list_append mt_append (pv 1) (pa_cons pe_str pa_nil))))
    (pss_one (ps_asg (pe_op op_add_str (pe_ix ix_list (pv 1) (pe_op op_sub (pe_callB call_len_seq (by rfl) T.n_len bo_len (pa_cons (pv 1) pa_nil)) pe_int) (fun _ _ => rfl)) (pv 2)) (pg_sub (pv 1) (pe_op op_sub (pe_callB call_len_seq (by rfl) T.n_len bo_len (pa_cons (pv 1) pa_nil)) pe_int) set_list))))))
(pss_one (ps_ret (pv 1)))))), ?_⟩
    refine ⟨_, rfl, t, rfl, smallM (by omega), rfl, _, rfl, iteD (fun e => ?_) (fun e => ?_)⟩
    · have e' : t.length = 0 := by have := V.int.inj e; omega
      refine ⟨by show 0 ≤ sizeLine; decide, fun p hp => k p _ hp ?_ (Keep.new hp)⟩
      have ew : wordsOf t = [] := by unfold wordsOf; rw [if_pos e']
      rw [ew]; exact upd_same
    · have hne : ¬ t.length = 0 := fun z => e (by rw [z]; rfl)
      have ew : wordsOf t = (TL.spl [32] 0 [] (TL.tl t)).map S := by unfold wordsOf; rw [if_neg hne]
      have hts : (TL.tl t).length = t.cps.size := by rw [Array.length_toList]
      have hsz : t.cps.size = t.length := rfl
      refine ⟨by show 1 ≤ sizeLine; decide, fun p hp => ?_⟩
      refine ⟨_, rfl, _, rfl, for_it walk_str (fun i σ H' => ∃ (done : List (List Nat)) (cur : List Nat) (c : Option V), σ = [some (.str t), some (.ref p), c] ∧ H' p = some (.lst ((done ++ [cur]).map fun z => V.str (S z))) ∧ Keep [] H H' ∧
          TL.spl [32] 0 [] (TL.tl t) = done ++ TL.spl [32] 0 cur ((TL.tl t).drop i) ∧ done.length ≤ i ∧ cur.length ≤ i)
        ⟨[], [], none, rfl, upd_same, Keep.new hp, rfl, Nat.le_refl _, Nat.le_refl _⟩ (fun _ _ _ _ _ => trivial) ?_ ?_⟩
      · rintro i x σ H' H'' hi ⟨done, cur, c, rfl, hD, hK, hE, hd1, hd2⟩ ⟨rfl, z, hz, rfl⟩
        have hi' : i < (TL.tl t).length := by omega
        have hzz : (TL.tl t)[i]? = some z := by rw [← hz]; exact Array.getElem?_toList
        have hdrop : (TL.tl t).drop i = z :: (TL.tl t).drop (i + 1) := by
          rw [List.drop_eq_getElem_cons hi']
          congr 1
          exact Option.some.inj ((List.getElem?_eq_getElem hi').symm.trans hzz)
        rw [hdrop] at hE
        refine ⟨_, rfl, rfl, _, rfl, iteD (fun e => ?_) (fun e => ?_)⟩
        · have ez : z = 32 := by
            have h3 : (⟨#[z]⟩ : Str) = S [32] := (V.str.inj e).trans sp_eq
            have h4 := S_inj (a := [z]) (b := [32]) h3
            exact (List.cons.inj h4).1
          subst ez
          rw [spl32_hit] at hE
          refine ⟨_, rfl, .inl ⟨rfl, _, SqL.of hD⟩, _, _, _, rfl, rfl, hD, by rw [List.length_map, List.length_append]; exact smallL (by simp; omega), ?_⟩
          refine ⟨done ++ [cur], [], _, rfl, ?_, hK.then_own hp, ?_, by simp; omega, Nat.zero_le _⟩
          · rw [List.map_append (l₁ := done ++ [cur])]; exact upd_same
          · rw [hE, List.append_assoc]; rfl
        · have hne2 : ¬ z = 32 := fun q => e (by subst q; exact congrArg V.str sp_eq.symm)
          rw [spl32_miss hne2] at hE
          have lenW : ((done ++ [cur]).map fun z => V.str (S z)).length = done.length + 1 := by simp
          have eix : ((((done ++ [cur]).map fun z => V.str (S z)).length : Nat) : Int) - 1 = ((done.length : Nat) : Int) := by rw [lenW]; omega
          have hat : ((done ++ [cur]).map fun z => V.str (S z))[done.length]? = some (V.str (S cur)) := by simp
          have hat' : atI ((done ++ [cur]).map fun z => V.str (S z)) (((((done ++ [cur]).map fun z => V.str (S z)).length : Nat) : Int) - 1) = some (V.str (S cur)) := by rw [eix]; exact atI_nat hat
          have hix : ixN ((done ++ [cur]).map fun z => V.str (S z)).length (((((done ++ [cur]).map fun z => V.str (S z)).length : Nat) : Int) - 1) = some done.length := by
            rw [eix]; unfold ixN; rw [if_pos (by omega), lenW, if_pos (by omega)]; simp
          refine ⟨_, rfl, _, rfl, _, _, rfl, .inl (SqL.of hD), _, _, rfl, rfl, _, _, _, _, rfl, rfl, SqL.of hD, hat', _, rfl, _, _, rfl, rfl, ?_, _, rfl, _, rfl, _, _, rfl, .inl (SqL.of hD), _, _, rfl, rfl, _, _, _, _, rfl, rfl, hD, hix, ?_⟩
          · show (S cur).length + 1 ≤ sizeLine
            rw [S_len]; exact smallM (by omega)
          · refine ⟨done, cur ++ [z], _, rfl, ?_, hK.then_own hp, hE, by omega, by simp; omega⟩
            have eset : ((done ++ [cur]).map fun z => V.str (S z)).set done.length (V.str (S cur ++ (⟨#[z]⟩ : Str))) = (done ++ [cur ++ [z]]).map fun z => V.str (S z) := by
              have e1 : S cur ++ (⟨#[z]⟩ : Str) = S (cur ++ [z]) := S_cat cur [z]
              rw [e1, List.map_append, List.map_append, List.set_append_right _ _ (by rw [List.length_map]; exact Nat.le_refl _), List.length_map, Nat.sub_self]; rfl
            rw [← eset]
            exact upd_same
      · rintro σ H' ⟨done, cur, c, rfl, hD, hK, hE, hd1, hd2⟩
        rw [← hts, List.drop_length, TL.spl_nil] at hE
        refine ⟨_, rfl, k p H' hp ?_ hK⟩
        rw [ew, hE, List.map_map]
        exact hD
end

section
variable {P : Program} {w : World} {K : PySem.W.Frag} {mg : Str → Option Value} {base : Heap}
theorem ok_law_joins {f : Addr} {fd : FuncData} (D : C8.Def K mg "_law_joins" s_law_joins f fd) (b : Binds K fd ["words"] []) (T : Txt K mg) (c_law_same : C8.Cal P w K mg base 2 "_law_same" (sp_law_same 2) [])
    (c_join_words : C8.Cal P w K mg base 1 "join_words" (sp_join_words K) []) : C8.Cal P w K mg base 3 "_law_joins" sp_law_joins [] := by
  refine cal0 D b .nil sc_law_joins (fun vs H Q E h => ?_) (fun cdv A outer s H vs Q E hr h => ?_)
  · obtain ⟨a, ys, rfl, _⟩ := h
    rfl
  · obtain ⟨l, ys, rfl, hl, hn, k⟩ := h
    refine ⟨_, (pss_cons (ps_set (i := 1) sc_law_joins.nd rfl (by first | exact Or.inl rfl | exact Or.inr rfl) (pe_callTy call_list_of (by rfl) T.n_list bo_list (pa_cons (pv 0) pa_nil)))
(pss_one (ps_ret (pe_and (pe_c c_law_same hr (by first | exact Nat.le_refl _ | decide) rfl (pa_cons (pe_c c_join_words hr (by first | exact Nat.le_refl _ | decide) rfl (pa_cons (pv 1) pa_nil)) (pa_cons (pe_join pe_str (pv 0)) pa_nil))) (pe_one (pe_cmpR (op_eqV hr.units) (pv 1) (pv 0) (nomark _))))))), ?_⟩
    have e1 : (" " : Str).length = 1 := by decide +kernel
    refine ⟨_, rfl, _, _, rfl, .inl (SqL.of hl), fun m hm => ?_⟩
    have hml : l ≠ m := ne_of_none hl hm
    have hl2 : upd H m (.lst (ys.map V.str)) l = some (.lst (ys.map V.str)) := by rw [upd_ne hml]; exact hl
    refine ⟨_, rfl, _, ys, rfl, SqL.of upd_same, hn, ⟨_, rfl⟩, _, rfl, _, _, ys, rfl, rfl, .inl (SqL.of hl2), by rw [e1]; omega, ?_⟩
    refine ⟨_, _, rfl, sameV_str _, _, rfl, iteT ?_⟩
    exact ⟨_, rfl, _, rfl, 1, by decide, .inl ⟨_, _, _, _, rfl, rfl, SqL.of upd_same, SqL.of hl2, paired_strs ys⟩, k _ (Keep.new hm)⟩
def sp_law (K : PySem.W.Frag) : Sp := fun vs H Q _ => ∃ (a : Addr) (ns : List Int), vs = [.ref a] ∧ SqL K H a (ns.map V.int) ∧ ∀ H', Q (.bl true) H'
theorem ok_law {f : Addr} {fd : FuncData} (F : C8.Fun K "law" "law" s_law f fd) (T : Txt K mg) (c_law_same : C8.Cal P w K mg base 2 "_law_same" (sp_law_same 2) [])
    (c_join_words : C8.Cal P w K mg base 1 "join_words" (sp_join_words K) []) (c_law_joins : C8.Cal P w K mg base 3 "_law_joins" sp_law_joins []) (c_law_pool : C8.Cal P w K mg base 1 "_law_pool" (sp_law_pool K) [])
    (c_law_text : C8.Cal P w K mg base 3 "_law_text" sp_law_text []) (c_law_split : C8.Cal P w K mg base 1 "_law_split" sp_law_split []) (c_split_words : C8.Cal P w K mg base 1 "split_words" sp_law_split []) :
    FnOk P w K mg base C8.CX0 4 f fd ["script"] (sp_law K) := by
  refine C8.fn0 F sc_law (fun vs H Q E h => ?_) (fun cdv A outer s H vs Q E hr h => ?_)
  · obtain ⟨a, ns, rfl, _⟩ := h
    rfl
  · obtain ⟨a, ns, rfl, hS, k⟩ := h
    refine ⟨_, (pss_cons (ps_set (i := 1) sc_law.nd rfl (by first | exact Or.inl rfl | exact Or.inr rfl) (pe_c c_law_pool hr (by first | exact Nat.le_refl _ | decide) rfl (pa_cons (pv 0) (pa_cons pe_int pa_nil))))
(pss_cons (ps_set (i := 2) sc_law.nd rfl (by first | exact Or.inl rfl | exact Or.inr rfl) (pe_lst pa_nil))
(pss_cons (ps_for PassesOwn.never rfl (pi_range1 (by rfl) T.n_range (pa_cons pe_int pa_nil)) (pg_name (i := 3) sc_law.nd rfl (by first | exact Or.inl rfl | exact Or.inr rfl))
  (pss_cons (ps_set (i := 4) sc_law.nd rfl (by first | exact Or.inl rfl | exact Or.inr rfl) (pe_c c_law_text hr (by first | exact Nat.le_refl _ | decide) rfl (pa_cons (pv 1) pa_nil)))
  (pss_cons (ps_set (i := 5) sc_law.nd rfl (by first | exact Or.inl rfl | exact Or.inr rfl) (pe_c c_law_split hr (by first | exact Nat.le_refl _ | decide) rfl (pa_cons (pv 4) pa_nil)))
  (pss_cons (ps_set (i := 6) sc_law.nd rfl (by first | exact Or.inl rfl | exact Or.inr rfl) (pe_c c_split_words hr (by first | exact Nat.le_refl _ | decide) rfl (pa_cons (pv 4) pa_nil)))
  (pss_cons (ps_if (pt_not (pt_val (pe_c c_law_same hr (by first | exact Nat.le_refl _ | decide) rfl (pa_cons (pv 6) (pa_cons (pv 5) pa_nil)))))
    (pss_one (ps_ret pe_bl))
    pss_nil)
  (pss_cons (ps_expr (pe_bm PySem.F.plainAttrs_list PySem.F.slot_list_append PySem.F.type_list_append mt_append (pv 6) (pa_cons pe_str pa_nil)))
  (pss_cons (ps_asg pe_str (pg_sub (pv 6) pe_int set_list))
  (pss_one (ps_expr (pe_bm PySem.F.plainAttrs_list PySem.F.slot_list_append PySem.F.type_list_append mt_append (pv 2) (pa_cons (pe_tup (pa_cons (pv 4) (pa_cons (pv 5) pa_nil))) pa_nil)))))))))))
(pss_cons (ps_for PassesOwn.never rfl (pi_list (pv 2)) (pg_tup (by rfl) (pgs_cons (pg_name (i := 4) sc_law.nd rfl (by first | exact Or.inl rfl | exact Or.inr rfl)) (pgs_cons (pg_name (i := 5) sc_law.nd rfl (by first | exact Or.inl rfl | exact Or.inr rfl)) pgs_nil)))
  (pss_one (ps_if (PW.pt (pw_or (pt_not (pt_val (pe_c c_law_same hr (by first | exact Nat.le_refl _ | decide) rfl (pa_cons (pe_c c_split_words hr (by first | exact Nat.le_refl _ | decide) rfl (pa_cons (pv 4) pa_nil)) (pa_cons (pv 5) pa_nil))))) (pw_or (pt_not (pt_val (pe_c c_law_joins hr (by first | exact Nat.le_refl _ | decide) rfl (pa_cons (pv 5) pa_nil)))) (pw_or1 (pt_not (pt_val (pe_c c_law_same hr (by first | exact Nat.le_refl _ | decide) rfl (pa_cons (pe_c c_join_words hr (by first | exact Nat.le_refl _ | decide) rfl (pa_cons (pv 5) pa_nil)) (pa_cons (pv 4) pa_nil)))))))))
    (pss_one (ps_ret pe_bl))
    pss_nil)))
(pss_one (ps_ret (pe_and (pe_c c_law_joins hr (by first | exact Nat.le_refl _ | decide) rfl (pa_cons (pe_lst (pa_cons pe_str pa_nil)) pa_nil)) (pe_one (pe_c c_law_joins hr (by first | exact Nat.le_refl _ | decide) rfl (pa_cons (pe_op op_cat (pe_op op_cat (pe_ix ix_tup (pe_ix ix_list (pv 2) pe_int (fun _ _ => rfl)) pe_int (fun _ _ => rfl)) (pe_ix ix_tup (pe_ix ix_list (pv 2) pe_int (fun _ _ => rfl)) pe_int (fun _ _ => rfl))) (pe_lst (pa_cons pe_str (pa_cons pe_str pa_nil)))) pa_nil)))))))))), ?_⟩
    refine ⟨_, rfl, a, ns, 0, rfl, hS, fun p q H1 hp1 P1 K1 => ⟨by show 0 ≤ sizeLine; decide, fun M hM => ?_⟩⟩
    have nMp : M ≠ p := P1.nep hM
    have nMq : M ≠ q := P1.neq hM
    -- the texts so far: at M the pairs, each a tuple of a text and its words' list
    let Made : List (Addr × Str × Addr) → Hp → Prop := fun L H' => H' M = some (.lst (L.map fun z => V.ref z.1)) ∧ ∀ z ∈ L, z.2.1.length ≤ 2000 ∧ H' z.1 = some (.tup [.str z.2.1, .ref z.2.2]) ∧ H' z.2.2 = some (.lst ((wordsOf z.2.1).map V.str)) ∧ z.1 ≠ p ∧ z.2.2 ≠ p ∧ z.1 ≠ M ∧ z.2.2 ≠ M
    have made_keep : ∀ {L : List (Addr × Str × Addr)} {H' H'' : Hp}, Made L H' → Keep [] H' H'' → Made L H'' := fun {L H' H''} hm hk => ⟨hk _ _ hm.1 (by simp), fun z hz => by
      obtain ⟨m0, m1, m2, m3, m4, m5, m6⟩ := hm.2 z hz
      exact ⟨m0, hk _ _ m1 (by simp), hk _ _ m2 (by simp), m3, m4, m5, m6⟩⟩
    have made_keepp : ∀ {L : List (Addr × Str × Addr)} {H' H'' : Hp}, Made L H' → Keep [p] H' H'' → Made L H'' := fun {L H' H''} hm hk => ⟨hk _ _ hm.1 (by simpa using nMp), fun z hz => by
      obtain ⟨m0, m1, m2, m3, m4, m5, m6⟩ := hm.2 z hz
      exact ⟨m0, hk _ _ m1 (by simpa using m3), hk _ _ m2 (by simpa using m4), m3, m4, m5, m6⟩⟩
    refine ⟨3, rfl, by decide, by decide, for_range (lo := 0) (n := 3) (fun i σ H' => ∃ (L : List (Addr × Str × Addr)) (v1 v2 v3 v4 : Option V), σ = [some (.ref a), some (.ref p), some (.ref M), v1, v2, v3, v4] ∧ L.length = i ∧ Pool H' p q ns ∧ Made L H')
      ⟨[], none, none, none, none, rfl, rfl, P1.new hM, upd_same, fun _ z => by cases z⟩ ?_ ?_⟩
    · rintro i σ H2 hi ⟨L, v1, v2, v3, v4, rfl, hL, P2, M2⟩
      refine ⟨_, rfl, p, q, ns, rfl, P2, fun t H3 ht P3 K3 => ?_⟩
      have M3 := made_keepp M2 K3
      refine ⟨_, rfl, t, rfl, ht, fun d H4 hd1 hd2 K4 => ?_⟩
      have M4 := made_keep M3 K4
      have P4 := P3.keep0 K4
      have ndp : d ≠ p := P3.nep hd1
      have ndM : d ≠ M := (ne_of_none M3.1 hd1).symm
      refine ⟨_, rfl, t, rfl, ht, fun e H5 he1 he2 K5 => ?_⟩
      have M5 := made_keep M4 K5
      have P5 := P4.keep0 K5
      have hd5 : H5 d = some (.lst ((wordsOf t).map V.str)) := K5 _ _ hd2 (by simp)
      have nep : e ≠ p := P4.nep he1
      have neq_ : e ≠ q := P4.neq he1
      have neM : e ≠ M := (ne_of_none M4.1 he1).symm
      have ned : e ≠ d := (ne_of_none hd2 he1).symm
      have hws := words_sum t
      have hwl : (wordsOf t).length ≤ sizeLine := smallM (by omega)
      refine ⟨_, rfl, _, rfl, _, _, rfl, sameV_strs he2 hd5 hwl, _, rfl, iteF ?_⟩
      -- actual.append('spoilt'); actual[0] = 'spoilt'; texts.append((text, due))
      refine ⟨_, rfl, .inl ⟨rfl, _, SqL.of he2⟩, _, _, _, rfl, rfl, he2, by rw [List.length_map]; exact smallL (by omega), ?_⟩
      have hix : ixN ((wordsOf t).map V.str ++ [V.str "spoilt"]).length 0 = some 0 := by
        unfold ixN; rw [if_pos (by decide), if_pos (by rw [List.length_append]; simp; try omega)]; rfl
      refine ⟨_, rfl, _, _, _, _, rfl, rfl, upd_same, hix, ?_⟩
      have keep6 : ∀ (o1 o2 : HO) (b : Addr), b ≠ e → (upd (upd H5 e o1) e o2) b = H5 b := fun o1 o2 b hb => by rw [upd_ne hb, upd_ne hb]
      refine ⟨_, rfl, .inl ⟨rfl, _, SqL.of (by rw [keep6 _ _ _ neM.symm]; exact M5.1)⟩, _, rfl, _, rfl, by show 2 ≤ sizeLine; decide, fun tp htp => ?_⟩
      have htp5 : H5 tp = none := by
        by_cases z : tp = e
        · subst z; rw [upd_same] at htp; cases htp
        · rw [keep6 _ _ _ z] at htp; exact htp
      have nte : tp ≠ e := fun z => by subst z; rw [upd_same] at htp; cases htp
      have ntp : tp ≠ p := P5.nep htp5
      have ntq : tp ≠ q := P5.neq htp5
      have ntM : tp ≠ M := (ne_of_none M5.1 htp5).symm
      have keep7 : ∀ (o1 o2 o3 : HO) (b : Addr), b ≠ e → b ≠ tp → (upd (upd (upd H5 e o1) e o2) tp o3) b = H5 b := fun o1 o2 o3 b hb hc => by rw [upd_ne hc, upd_ne hb, upd_ne hb]
      refine ⟨_, _, _, rfl, rfl, (by rw [keep7 _ _ _ _ neM.symm ntM.symm]; exact M5.1), by rw [List.length_map]; exact smallL (by omega), ?_⟩
      have keep8 : ∀ (o1 o2 o3 o4 : HO) (b : Addr), b ≠ e → b ≠ tp → b ≠ M → (upd (upd (upd (upd H5 e o1) e o2) tp o3) M o4) b = H5 b := fun o1 o2 o3 o4 b hb hc hd => by rw [upd_ne hd, upd_ne hc, upd_ne hb, upd_ne hb]
      refine ⟨L ++ [(tp, t, d)], _, _, _, _, rfl, by rw [List.length_append, hL]; rfl, ?_, ?_, ?_⟩
      · obtain ⟨i1, i2, i3, i4, i5, g1, g2, g3, g4⟩ := P5
        exact ⟨i1, i2, i3, i4, i5, by rw [keep8 _ _ _ _ _ nep.symm ntp.symm nMp.symm]; exact g1, by rw [keep8 _ _ _ _ _ neq_.symm ntq.symm nMq.symm]; exact g2, g3, g4⟩
      · rw [List.map_append]; exact upd_same
      · intro z hz
        rcases List.mem_append.mp hz with hz | hz
        · obtain ⟨m0, m1, m2, m3, m4, m5, m6⟩ := M5.2 z hz
          obtain ⟨_, q1, q2, _⟩ := M4.2 z hz
          have a1 : z.1 ≠ e := ne_of_none q1 he1
          have a2 : z.2.2 ≠ e := ne_of_none q2 he1
          have b1 : z.1 ≠ tp := ne_of_none m1 htp5
          have b2 : z.2.2 ≠ tp := ne_of_none m2 htp5
          exact ⟨m0, by rw [keep8 _ _ _ _ _ a1 b1 m5]; exact m1, by rw [keep8 _ _ _ _ _ a2 b2 m6]; exact m2, m3, m4, m5, m6⟩
        · rw [List.mem_singleton.mp hz]
          have dt : d ≠ tp := ne_of_none hd5 htp5
          exact ⟨ht, by rw [upd_ne ntM]; exact upd_same, by rw [keep8 _ _ _ _ _ ned.symm dt ndM]; exact hd5, ntp, ndp, ntM, ndM⟩
    · rintro σ H2 ⟨L, v1, v2, v3, v4, rfl, hL, P2, M2⟩
      refine ⟨_, rfl, M, rfl, ⟨_, SqL.of M2.1⟩, for_list (K := K) (a := M) (xs := L.map fun z => V.ref z.1) (fun i σ H' => ∃ (v1 v2 v3 v4 : Option V), σ = [some (.ref a), some (.ref p), some (.ref M), v1, v2, v3, v4] ∧ Made L H')
        ⟨_, _, _, _, rfl, M2⟩ (fun i σ H' _ ⟨_, _, _, _, _, m⟩ => SqL.of m.1) ?_ ?_⟩
      · rintro i x σ H3 hx ⟨v1, v2, v3, v4, rfl, M3⟩
        obtain ⟨z, hz, rfl⟩ : ∃ z, z ∈ L ∧ x = V.ref z.1 := by
          rw [List.getElem?_map] at hx
          cases e : L[i]? with
          | none => rw [e] at hx; cases hx
          | some z => rw [e] at hx; exact ⟨z, List.mem_of_getElem? e, (Option.some.inj hx).symm⟩
        obtain ⟨m0, m1, m2, m3, m4, m5, m6⟩ := M3.2 z hz
        have hws := words_sum z.2.1
        refine ⟨_, _, rfl, SqT.of m1, rfl, _, _, rfl, _, _, rfl, rfl, ?_⟩
        refine ⟨_, rfl, z.2.1, rfl, m0, fun e H4 he1 he2 K4 => ?_⟩
        have M4 := made_keep M3 K4
        obtain ⟨_, n1, n2, _⟩ := M4.2 z hz
        refine ⟨_, rfl, _, _, rfl, sameV_strs he2 n2 (smallM (by omega)), _, rfl, iteF ?_⟩
        refine ⟨_, rfl, _, _, rfl, n2, by omega, fun H5 K5 => ⟨_, rfl, iteF ?_⟩⟩
        have M5 := made_keep M4 K5
        obtain ⟨_, o1, o2, _⟩ := M5.2 z hz
        refine ⟨_, rfl, _, _, rfl, SqL.of o2, by omega, ?_⟩
        refine ⟨_, rfl, _, _, rfl, (by rw [join_words_eq]; exact sameV_str _), _, rfl, iteF ?_⟩
        exact ⟨_, _, _, _, rfl, M5⟩
      · rintro σ H3 ⟨v1, v2, v3, v4, rfl, M3⟩
        obtain ⟨z0, z1, z2, rfl⟩ : ∃ z0 z1 z2, L = [z0, z1, z2] := by
          match L, hL with
          | [z0, z1, z2], _ => exact ⟨z0, z1, z2, rfl⟩
        refine ⟨by show 1 ≤ sizeLine; decide, fun e he => ?_⟩
        have M4 := made_keep M3 (Keep.new (o := .lst [V.str ""]) he)
        refine ⟨e, [("" : Str)], rfl, upd_same, by decide +kernel, fun H4 K4 => ⟨_, rfl, iteT ?_⟩⟩
        have M5 := made_keep M4 K4
        obtain ⟨a0, a1, a2, _⟩ := M5.2 z0 (by simp)
        obtain ⟨b0, b1, b2, _⟩ := M5.2 z1 (by simp)
        have hw0 := words_sum z0.2.1
        have hw1 := words_sum z1.2.1
        refine ⟨_, rfl, _, _, _, _, rfl, rfl, SqL.of M5.1, rfl, _, _, _, _, rfl, rfl, SqT.of a1, rfl, ?_⟩
        refine ⟨_, rfl, _, _, _, _, rfl, rfl, SqL.of M5.1, rfl, _, _, _, _, rfl, rfl, SqT.of b1, rfl, ?_⟩
        refine ⟨_, _, _, _, rfl, rfl, a2, b2, by simp only [List.length_map]; exact smallM (by omega), fun c hc => ?_⟩
        refine ⟨by show 2 ≤ sizeLine; decide, fun g hg => ?_⟩
        have ncg : c ≠ g := ne_of_none (H := upd H4 c _) upd_same hg
        refine ⟨_, _, _, _, rfl, rfl, (by rw [upd_ne ncg]; exact upd_same), upd_same, by simp only [List.length_append, List.length_map]; exact smallM (by simp; omega), fun j hj => ?_⟩
        refine ⟨j, wordsOf z0.2.1 ++ wordsOf z1.2.1 ++ [("" : Str), ("a" : Str)], rfl, ?_, ?_, fun H6 _ => k H6⟩
        · rw [List.map_append, List.map_append]; exact upd_same
        · have l0 : ("" : Str).length = 0 := by decide +kernel
          have l1 : ("a" : Str).length = 1 := by decide +kernel
          simp only [List.map_append, List.map_cons, List.map_nil, List.sum_append, List.sum_cons, List.sum_nil, List.length_append, List.length_cons, List.length_nil, l0, l1]
          omega
end

theorem all_mk {l : PySem.W.OpenLaw} {w : World} {K : PySem.W.Frag} {h : Heap} {mg : Str → Option Value} {fa : Addr} (X : K.In h) (G : h.Ns mainGlobals mg) (hfa : mg "law" = some (.ref fa))
    {f_law_pool : Addr} {od_law_pool an_law_pool : Option Addr} {sl_law_pool : Array (Option Value)} {oc_law_pool kV_law_pool dc_law_pool pm_law_pool cd_law_pool ct_law_pool : Value}
    {f_law_draw : Addr} {od_law_draw an_law_draw : Option Addr} {sl_law_draw : Array (Option Value)} {oc_law_draw kV_law_draw dc_law_draw pm_law_draw cd_law_draw ct_law_draw : Value}
    {f_law_same : Addr} {od_law_same an_law_same : Option Addr} {sl_law_same : Array (Option Value)} {oc_law_same kV_law_same dc_law_same pm_law_same cd_law_same ct_law_same : Value}
    {f_law_char : Addr} {od_law_char an_law_char : Option Addr} {sl_law_char : Array (Option Value)} {oc_law_char kV_law_char dc_law_char pm_law_char cd_law_char ct_law_char : Value}
    {f_law_text : Addr} {od_law_text an_law_text : Option Addr} {sl_law_text : Array (Option Value)} {oc_law_text kV_law_text dc_law_text pm_law_text cd_law_text ct_law_text : Value}
    {f_law_split : Addr} {od_law_split an_law_split : Option Addr} {sl_law_split : Array (Option Value)} {oc_law_split kV_law_split dc_law_split pm_law_split cd_law_split ct_law_split : Value}
    {f_split_words : Addr} {od_split_words an_split_words : Option Addr} {sl_split_words : Array (Option Value)} {oc_split_words kV_split_words dc_split_words pm_split_words cd_split_words ct_split_words : Value}
    {f_join_words : Addr} {od_join_words an_join_words : Option Addr} {sl_join_words : Array (Option Value)} {oc_join_words kV_join_words dc_join_words pm_join_words cd_join_words ct_join_words : Value}
    {f_law_joins : Addr} {od_law_joins an_law_joins : Option Addr} {sl_law_joins : Array (Option Value)} {oc_law_joins kV_law_joins dc_law_joins pm_law_joins cd_law_joins ct_law_joins : Value}
    {f_law : Addr} {od_law an_law : Option Addr} {sl_law : Array (Option Value)} {oc_law kV_law dc_law pm_law cd_law ct_law : Value}
    (a_law_pool : PySem.W.nsIn K mainGlobals "_law_pool" = some (some (.ref f_law_pool))) (l_law_pool : K.lookup f_law_pool = some ⟨oc_law_pool, od_law_pool, .func (PySem.W.fnOf "_law_pool" "_law_pool" (fnArgs s_law_pool) (fnBody s_law_pool) (fnScope s_law_pool) .none kV_law_pool dc_law_pool pm_law_pool an_law_pool cd_law_pool ct_law_pool), sl_law_pool⟩) (c_law_pool : PySem.W.codeIn K cd_law_pool "_law_pool" = true) (k_law_pool : PySem.W.keepIn K (.ref f_law_pool) = true)
    (a_law_draw : PySem.W.nsIn K mainGlobals "_law_draw" = some (some (.ref f_law_draw))) (l_law_draw : K.lookup f_law_draw = some ⟨oc_law_draw, od_law_draw, .func (PySem.W.fnOf "_law_draw" "_law_draw" (fnArgs s_law_draw) (fnBody s_law_draw) (fnScope s_law_draw) .none kV_law_draw dc_law_draw pm_law_draw an_law_draw cd_law_draw ct_law_draw), sl_law_draw⟩) (c_law_draw : PySem.W.codeIn K cd_law_draw "_law_draw" = true) (k_law_draw : PySem.W.keepIn K (.ref f_law_draw) = true)
    (a_law_same : PySem.W.nsIn K mainGlobals "_law_same" = some (some (.ref f_law_same))) (l_law_same : K.lookup f_law_same = some ⟨oc_law_same, od_law_same, .func (PySem.W.fnOf "_law_same" "_law_same" (fnArgs s_law_same) (fnBody s_law_same) (fnScope s_law_same) .none kV_law_same dc_law_same pm_law_same an_law_same cd_law_same ct_law_same), sl_law_same⟩) (c_law_same : PySem.W.codeIn K cd_law_same "_law_same" = true) (k_law_same : PySem.W.keepIn K (.ref f_law_same) = true)
    (a_law_char : PySem.W.nsIn K mainGlobals "_law_char" = some (some (.ref f_law_char))) (l_law_char : K.lookup f_law_char = some ⟨oc_law_char, od_law_char, .func (PySem.W.fnOf "_law_char" "_law_char" (fnArgs s_law_char) (fnBody s_law_char) (fnScope s_law_char) .none kV_law_char dc_law_char pm_law_char an_law_char cd_law_char ct_law_char), sl_law_char⟩) (c_law_char : PySem.W.codeIn K cd_law_char "_law_char" = true) (k_law_char : PySem.W.keepIn K (.ref f_law_char) = true)
    (a_law_text : PySem.W.nsIn K mainGlobals "_law_text" = some (some (.ref f_law_text))) (l_law_text : K.lookup f_law_text = some ⟨oc_law_text, od_law_text, .func (PySem.W.fnOf "_law_text" "_law_text" (fnArgs s_law_text) (fnBody s_law_text) (fnScope s_law_text) .none kV_law_text dc_law_text pm_law_text an_law_text cd_law_text ct_law_text), sl_law_text⟩) (c_law_text : PySem.W.codeIn K cd_law_text "_law_text" = true) (k_law_text : PySem.W.keepIn K (.ref f_law_text) = true)
    (a_law_split : PySem.W.nsIn K mainGlobals "_law_split" = some (some (.ref f_law_split))) (l_law_split : K.lookup f_law_split = some ⟨oc_law_split, od_law_split, .func (PySem.W.fnOf "_law_split" "_law_split" (fnArgs s_law_split) (fnBody s_law_split) (fnScope s_law_split) .none kV_law_split dc_law_split pm_law_split an_law_split cd_law_split ct_law_split), sl_law_split⟩) (c_law_split : PySem.W.codeIn K cd_law_split "_law_split" = true) (k_law_split : PySem.W.keepIn K (.ref f_law_split) = true)
    (a_split_words : PySem.W.nsIn K mainGlobals "split_words" = some (some (.ref f_split_words))) (l_split_words : K.lookup f_split_words = some ⟨oc_split_words, od_split_words, .func (PySem.W.fnOf "split_words" "split_words" (fnArgs s_split_words) (fnBody s_split_words) (fnScope s_split_words) .none kV_split_words dc_split_words pm_split_words an_split_words cd_split_words ct_split_words), sl_split_words⟩) (c_split_words : PySem.W.codeIn K cd_split_words "split_words" = true) (k_split_words : PySem.W.keepIn K (.ref f_split_words) = true)
    (a_join_words : PySem.W.nsIn K mainGlobals "join_words" = some (some (.ref f_join_words))) (l_join_words : K.lookup f_join_words = some ⟨oc_join_words, od_join_words, .func (PySem.W.fnOf "join_words" "join_words" (fnArgs s_join_words) (fnBody s_join_words) (fnScope s_join_words) .none kV_join_words dc_join_words pm_join_words an_join_words cd_join_words ct_join_words), sl_join_words⟩) (c_join_words : PySem.W.codeIn K cd_join_words "join_words" = true) (k_join_words : PySem.W.keepIn K (.ref f_join_words) = true)
    (a_law_joins : PySem.W.nsIn K mainGlobals "_law_joins" = some (some (.ref f_law_joins))) (l_law_joins : K.lookup f_law_joins = some ⟨oc_law_joins, od_law_joins, .func (PySem.W.fnOf "_law_joins" "_law_joins" (fnArgs s_law_joins) (fnBody s_law_joins) (fnScope s_law_joins) .none kV_law_joins dc_law_joins pm_law_joins an_law_joins cd_law_joins ct_law_joins), sl_law_joins⟩) (c_law_joins : PySem.W.codeIn K cd_law_joins "_law_joins" = true) (k_law_joins : PySem.W.keepIn K (.ref f_law_joins) = true)
    (a_law : PySem.W.nsIn K mainGlobals "law" = some (some (.ref f_law))) (l_law : K.lookup f_law = some ⟨oc_law, od_law, .func (PySem.W.fnOf "law" "law" (fnArgs s_law) (fnBody s_law) (fnScope s_law) .none kV_law dc_law pm_law an_law cd_law ct_law), sl_law⟩) (c_law : PySem.W.codeIn K cd_law "law" = true) (k_law : PySem.W.keepIn K (.ref f_law) = true)
    (z_bool : PySem.W.nsIn K mainGlobals "bool" = some none)
    (z_int : PySem.W.nsIn K mainGlobals "int" = some none)
    (z_isinstance : PySem.W.nsIn K mainGlobals "isinstance" = some none)
    (z_len : PySem.W.nsIn K mainGlobals "len" = some none)
    (z_list : PySem.W.nsIn K mainGlobals "list" = some none)
    (z_range : PySem.W.nsIn K mainGlobals "range" = some none)
    (z_str : PySem.W.nsIn K mainGlobals "str" = some none)
    (z_tuple : PySem.W.nsIn K mainGlobals "tuple" = some none)
    : ∃ fd : FuncData, (∀ (s : Shared) (v : Value), BindsTo s fd ⟨[v], []⟩ [("script", v)]) ∧ ∀ base : Heap, K.In base → base.Ns mainGlobals mg → FnOk l.prog w K mg base C8.CX0 4 fa fd ["script"] (sp_law K) := by
  have e := hfa.symm.trans (PySem.W.mg_of X G a_law)
  cases e
  have T : Txt K mg := ⟨PySem.W.mg_none_of X G z_bool, PySem.W.mg_none_of X G z_int, PySem.W.mg_none_of X G z_isinstance, PySem.W.mg_none_of X G z_len, PySem.W.mg_none_of X G z_list, PySem.W.mg_none_of X G z_range, PySem.W.mg_none_of X G z_str, PySem.W.mg_none_of X G z_tuple, True.intro⟩
  have D_law_pool : C8.Def K mg "_law_pool" s_law_pool _ _ := ⟨⟨⟨_, _, _, _, _, _, _, _, _, _, rfl, l_law_pool, c_law_pool⟩⟩, PySem.W.mg_of X G a_law_pool, k_law_pool⟩
  have b_law_pool : Binds K _ ["script", "budget"] [] := C8.Fun.binds D_law_pool.fn rfl fun _ _ _ _ _ _ us hl => match us, hl with | [_, _], _ => rfl
  have D_law_draw : C8.Def K mg "_law_draw" s_law_draw _ _ := ⟨⟨⟨_, _, _, _, _, _, _, _, _, _, rfl, l_law_draw, c_law_draw⟩⟩, PySem.W.mg_of X G a_law_draw, k_law_draw⟩
  have b_law_draw : Binds K _ ["pool", "size"] [] := C8.Fun.binds D_law_draw.fn rfl fun _ _ _ _ _ _ us hl => match us, hl with | [_, _], _ => rfl
  have D_law_same : C8.Def K mg "_law_same" s_law_same _ _ := ⟨⟨⟨_, _, _, _, _, _, _, _, _, _, rfl, l_law_same, c_law_same⟩⟩, PySem.W.mg_of X G a_law_same, k_law_same⟩
  have b_law_same : Binds K _ ["actual", "due"] [] := C8.Fun.binds D_law_same.fn rfl fun _ _ _ _ _ _ us hl => match us, hl with | [_, _], _ => rfl
  have D_law_char : C8.Def K mg "_law_char" s_law_char _ _ := ⟨⟨⟨_, _, _, _, _, _, _, _, _, _, rfl, l_law_char, c_law_char⟩⟩, PySem.W.mg_of X G a_law_char, k_law_char⟩
  have b_law_char : Binds K _ ["pool"] [] := C8.Fun.binds D_law_char.fn rfl fun _ _ _ _ _ _ us hl => match us, hl with | [_], _ => rfl
  have D_law_text : C8.Def K mg "_law_text" s_law_text _ _ := ⟨⟨⟨_, _, _, _, _, _, _, _, _, _, rfl, l_law_text, c_law_text⟩⟩, PySem.W.mg_of X G a_law_text, k_law_text⟩
  have b_law_text : Binds K _ ["pool"] [] := C8.Fun.binds D_law_text.fn rfl fun _ _ _ _ _ _ us hl => match us, hl with | [_], _ => rfl
  have D_law_split : C8.Def K mg "_law_split" s_law_split _ _ := ⟨⟨⟨_, _, _, _, _, _, _, _, _, _, rfl, l_law_split, c_law_split⟩⟩, PySem.W.mg_of X G a_law_split, k_law_split⟩
  have b_law_split : Binds K _ ["text"] [] := C8.Fun.binds D_law_split.fn rfl fun _ _ _ _ _ _ us hl => match us, hl with | [_], _ => rfl
  have D_split_words : C8.Def K mg "split_words" s_split_words _ _ := ⟨⟨⟨_, _, _, _, _, _, _, _, _, _, rfl, l_split_words, c_split_words⟩⟩, PySem.W.mg_of X G a_split_words, k_split_words⟩
  have b_split_words : Binds K _ ["text"] [] := C8.Fun.binds D_split_words.fn rfl fun _ _ _ _ _ _ us hl => match us, hl with | [_], _ => rfl
  have D_join_words : C8.Def K mg "join_words" s_join_words _ _ := ⟨⟨⟨_, _, _, _, _, _, _, _, _, _, rfl, l_join_words, c_join_words⟩⟩, PySem.W.mg_of X G a_join_words, k_join_words⟩
  have b_join_words : Binds K _ ["words"] [] := C8.Fun.binds D_join_words.fn rfl fun _ _ _ _ _ _ us hl => match us, hl with | [_], _ => rfl
  have D_law_joins : C8.Def K mg "_law_joins" s_law_joins _ _ := ⟨⟨⟨_, _, _, _, _, _, _, _, _, _, rfl, l_law_joins, c_law_joins⟩⟩, PySem.W.mg_of X G a_law_joins, k_law_joins⟩
  have b_law_joins : Binds K _ ["words"] [] := C8.Fun.binds D_law_joins.fn rfl fun _ _ _ _ _ _ us hl => match us, hl with | [_], _ => rfl
  have F_law : C8.Fun K "law" "law" s_law _ _ := ⟨⟨_, _, _, _, _, _, _, _, _, _, rfl, l_law, c_law⟩⟩
  refine ⟨PySem.W.fnOf "law" "law" (fnArgs s_law) (fnBody s_law) (fnScope s_law) .none kV_law dc_law pm_law an_law cd_law ct_law, fun s v => .of_eq rfl, fun base _ _ => ?_⟩
  have c_law_pool := ok_law_pool (P := l.prog) (w := w) (base := base) D_law_pool b_law_pool T
  have c_law_draw := ok_law_draw (P := l.prog) (w := w) (base := base) D_law_draw b_law_draw T
  have c_law_same0 := ok_law_same0 (P := l.prog) (w := w) (base := base) D_law_same b_law_same
  have c_law_same1 := ok_law_same D_law_same b_law_same T c_law_same0
  have c_law_same := ok_law_same D_law_same b_law_same T c_law_same1
  have c_law_char := ok_law_char D_law_char b_law_char T c_law_draw
  have c_law_text := ok_law_text D_law_text b_law_text T c_law_draw c_law_char
  have c_law_split := ok_law_split (P := l.prog) (w := w) (base := base) D_law_split b_law_split T
  have c_split_words := ok_split_words (P := l.prog) (w := w) (base := base) D_split_words b_split_words T
  have c_join_words := ok_join_words (P := l.prog) (w := w) (base := base) D_join_words b_join_words T
  have c_law_joins := ok_law_joins D_law_joins b_law_joins T c_law_same c_join_words
  exact ok_law F_law T c_law_same c_join_words c_law_joins c_law_pool c_law_text c_law_split c_split_words
theorem walk {l : PySem.W.OpenLaw} {q : Program} {loose : List Str} {XP : (Str → Option Value) → Heap → Prop} {YP : World → Heap → Prop} {d : DefRec} {K : Params → PySem.W.Frag} (hn : l.most = some 63) (hdf : d.params.defaults = [])
    (hY : ∀ (w : World) (h : Heap), YP w h → (K w.params).In h)
    (F : ∀ (w : World) (mg : Str → Option Value) (fa : Addr) (h : Heap), (K w.params).In h → h.Ns mainGlobals mg → mg d.name = some (.ref fa) →
      ∃ fd : FuncData, (∀ (s : Shared) (u : Value), BindsTo s fd ⟨[u], []⟩ [("script", u)]) ∧ ∀ base : Heap, (K w.params).In base → base.Ns mainGlobals mg → FnOk l.prog w (K w.params) mg base C8.CX0 4 fa fd ["script"] (sp_law (K w.params))) :
    PySem.W.WalkO q loose XP YP l.row.toRowW d [] (fun f vs => PySem.call f vs) :=
  L2.walk_ofB (n := 63) (k := 4) (x := "script") (CX := fun _ => C8.CX0) (sp := fun w => sp_law (K w.params)) hn (by decide) hdf ⟨rfl, by decide, by decide⟩ hY F (fun _ _ a ns hl hb _ hS => ⟨a, ns, rfl, hS, fun _ => rfl⟩) fun _ _ _ _ _ z => z
end My
open PySem PySem.W PyProof.Rows
set_option maxRecDepth 100000 in
set_option maxHeartbeats 0 in
theorem PySem.Challenge.cw_bothgain_k10_words_of_a_text_holds : PySem.Challenge.rw_bothgain_k10_words_of_a_text.Holds := by
  w_on; o_law; k_head; (case hw => w_witness2)
  k_fill
  refine My.walk (l := PySem.Challenge.rw_bothgain_k10_words_of_a_text) rfl rfl (fun w h Y => PySem.W.kIn_of Y) ?F
  case F =>
    intro w mg fa h KX G hmg
    refine' My.all_mk KX G hmg ?a_law_pool ?l_law_pool ?c_law_pool ?k_law_pool ?a_law_draw ?l_law_draw ?c_law_draw ?k_law_draw ?a_law_same ?l_law_same ?c_law_same ?k_law_same ?a_law_char ?l_law_char ?c_law_char ?k_law_char ?a_law_text ?l_law_text ?c_law_text ?k_law_text ?a_law_split ?l_law_split ?c_law_split ?k_law_split ?a_split_words ?l_split_words ?c_split_words ?k_split_words ?a_join_words ?l_join_words ?c_join_words ?k_join_words ?a_law_joins ?l_law_joins ?c_law_joins ?k_law_joins ?a_law ?l_law ?c_law ?k_law ?z_bool ?z_int ?z_isinstance ?z_len ?z_list ?z_range ?z_str ?z_tuple
    (case a_law_pool => k_is)
    (case l_law_pool => k_is)
    (case c_law_pool => k_is)
    (case k_law_pool => k_is)
    (case a_law_draw => k_is)
    (case l_law_draw => k_is)
    (case c_law_draw => k_is)
    (case k_law_draw => k_is)
    (case a_law_same => k_is)
    (case l_law_same => k_is)
    (case c_law_same => k_is)
    (case k_law_same => k_is)
    (case a_law_char => k_is)
    (case l_law_char => k_is)
    (case c_law_char => k_is)
    (case k_law_char => k_is)
    (case a_law_text => k_is)
    (case l_law_text => k_is)
    (case c_law_text => k_is)
    (case k_law_text => k_is)
    (case a_law_split => k_is)
    (case l_law_split => k_is)
    (case c_law_split => k_is)
    (case k_law_split => k_is)
    (case a_split_words => k_is)
    (case l_split_words => k_is)
    (case c_split_words => k_is)
    (case k_split_words => k_is)
    (case a_join_words => k_is)
    (case l_join_words => k_is)
    (case c_join_words => k_is)
    (case k_join_words => k_is)
    (case a_law_joins => k_is)
    (case l_law_joins => k_is)
    (case c_law_joins => k_is)
    (case k_law_joins => k_is)
    (case a_law => k_is)
    (case l_law => k_is)
    (case c_law => k_is)
    (case k_law => k_is)
    (case z_bool => k_is)
    (case z_int => k_is)
    (case z_isinstance => k_is)
    (case z_len => k_is)
    (case z_list => k_is)
    (case z_range => k_is)
    (case z_str => k_is)
    (case z_tuple => k_is)

