
import PyProof.Rows.All
import Wide.All
import OpenK.AllK
import Wide.FinOn
import HandS.ForMost
import HandS.Codes
import HandS.IsInst
import HandS.EndBits
import HandS.Walk
import HandS.DeepEq
import HandS.Gcd
import HandS.Wide
import HandS.Defaults
import HandS.OwnEq
import PySem.Challenge.RW_bothgain_k06_common_form
set_option Elab.async false
set_option linter.all false
set_option maxRecDepth 100000
set_option maxHeartbeats 4000000

namespace My
open PySem L2 C8 SX
/-! own base: tests, heaps -/
theorem bo_len : bootBuiltins "len" = some (.builtin "len") := by decide +kernel
theorem bo_isinstance : bootBuiltins "isinstance" = some (.builtin "isinstance") := by decide +kernel
theorem bo_min : bootBuiltins "min" = some (.builtin "min") := by decide +kernel
theorem bo_max : bootBuiltins "max" = some (.builtin "max") := by decide +kernel
theorem bo_abs : bootBuiltins "abs" = some (.builtin "abs") := by decide +kernel
theorem bo_int : bootBuiltins "int" = some (.type "int") := by decide +kernel
theorem bo_str : bootBuiltins "str" = some (.type "str") := by decide +kernel
theorem bo_bool : bootBuiltins "bool" = some (.type "bool") := by decide +kernel
theorem bo_list : bootBuiltins "list" = some (.type "list") := by decide +kernel
theorem bo_tuple : bootBuiltins "tuple" = some (.type "tuple") := by decide +kernel
theorem iteD {p A B : Prop} [Decidable p] (h1 : p → A) (h2 : ¬ p → B) : if decide p = true then A else B := by
  by_cases h : p
  · rw [decide_eq_true h]; exact iteT (h1 h)
  · rw [decide_eq_false h]; exact iteF (h2 h)
theorem iteN {p A B : Prop} [Decidable p] (h1 : ¬ p → A) (h2 : p → B) : if (!decide p) = true then A else B := by
  by_cases h : p
  · rw [decide_eq_true h]; exact iteF (h2 h)
  · rw [decide_eq_false h]; exact iteT (h1 h)
theorem iteDT {p A B : Prop} [Decidable p] (h : p) (k : A) : if decide p = true then A else B := iteD (fun _ => k) fun z => absurd h z
theorem iteDF {p A B : Prop} [Decidable p] (h : ¬ p) (k : B) : if decide p = true then A else B := iteD (fun z => absurd z h) fun _ => k
theorem iteNT {p A B : Prop} [Decidable p] (h : ¬ p) (k : A) : if (!decide p) = true then A else B := iteN (fun _ => k) fun z => absurd z h
theorem iteNF {p A B : Prop} [Decidable p] (h : p) (k : B) : if (!decide p) = true then A else B := iteN (fun z => absurd h z) fun _ => k
theorem iteB {b : Bool} {A B : Prop} (h1 : b = true → A) (h2 : b = false → B) : if b = true then A else B := by
  cases b with
  | true => exact iteT (h1 rfl)
  | false => exact iteF (h2 rfl)
/-- in a comprehension without a test -/
theorem yes_then {σ : St} {H : Hp} {F G : Hp → Prop} (h : F H) : tYes σ H (fun b H3 => if b = true then F H3 else G H3) := h
/-- all that was tracked stands, but at W -/
def Keep (W : List Addr) (H H' : Hp) : Prop := ∀ b o, H b = some o → b ∉ W → H' b = some o
theorem Keep.refl (W : List Addr) (H : Hp) : Keep W H H := fun _ _ h _ => h
theorem Keep.trans {W : List Addr} {H H1 H2 : Hp} (a : Keep W H H1) (b : Keep W H1 H2) : Keep W H H2 := fun c o h w => b c o (a c o h w) w
theorem Keep.mono {W W' : List Addr} {H H1 : Hp} (a : Keep W H H1) (h : ∀ b, b ∈ W → b ∈ W') : Keep W' H H1 := fun c o q w => a c o q fun z => w (h c z)
theorem Keep.new {W : List Addr} {H : Hp} {p : Addr} {o : HO} (h : H p = none) : Keep W H (upd H p o) := fun b u q _ => by
  rw [upd_ne (ne_of_none q h)]; exact q
theorem Keep.at_ {W : List Addr} {H : Hp} {p : Addr} {o : HO} (h : p ∈ W) : Keep W H (upd H p o) := fun b u q w => by
  rw [upd_ne (fun z => w (by rw [z]; exact h))]; exact q
theorem Keep.then_new {W : List Addr} {H H1 : Hp} {p : Addr} {o : HO} (a : Keep W H H1) (h : H1 p = none) : Keep W H (upd H1 p o) := a.trans (Keep.new h)
theorem Keep.then_at {W : List Addr} {H H1 : Hp} {p : Addr} {o : HO} (a : Keep W H H1) (h : p ∈ W) : Keep W H (upd H1 p o) := a.trans (Keep.at_ h)
/-- what was new since H is not among the kept -/
theorem Keep.then_own {W : List Addr} {H H1 : Hp} {p : Addr} {o : HO} (a : Keep W H H1) (h : H p = none) : Keep W H (upd H1 p o) := fun b u q w => by
  rw [upd_ne (ne_of_none q h)]; exact a b u q w
theorem Keep.free {H H' : Hp} (e : Keep [] H H') {l : Addr} (h : H' l = none) : H l = none := by
  cases q : H l with
  | none => rfl
  | some o => rw [e l o q (by simp)] at h; cases h
theorem Keep.free1 {H H' : Hp} {p : Addr} {o : HO} (e : Keep [p] H H') (hp : H' p = some o) {l : Addr} (h : H' l = none) : H l = none := by
  cases q : H l with
  | none => rfl
  | some u =>
    by_cases z : l = p
    · subst z; rw [hp] at h; cases h
    · rw [e l u q (by simpa using z)] at h; cases h
theorem Keep.seqL {W : List Addr} {K : PySem.W.Frag} {H H' : Hp} {a : Addr} {xs : List V} (e : Keep W H H') (h : SqL K H a xs) (w : a ∉ W) : SqL K H' a xs := by
  rcases h with (h | ⟨o, h⟩) | h
  · exact .inl (.inl (e _ _ h w))
  · exact .inl (.inr ⟨o, e _ _ h w⟩)
  · exact .inr h
theorem Keep.seqT {W : List Addr} {K : PySem.W.Frag} {H H' : Hp} {a : Addr} {xs : List V} (e : Keep W H H') (h : SqT K H a xs) (w : a ∉ W) : SqT K H' a xs := by
  rcases h with (h | ⟨o, h⟩) | h
  · exact .inl (.inl (e _ _ h w))
  · exact .inl (.inr ⟨o, e _ _ h w⟩)
  · exact .inr h
theorem Keep.same {H H' : Hp} (e : Keep [] H H') : Same H H' := fun b o h => e b o h (by simp)
theorem ints_get {ns : List Int} {i : Nat} {v : V} (h : (ns.map V.int)[i]? = some v) : ∃ z, ns[i]? = some z ∧ v = V.int z := by
  rw [List.getElem?_map] at h
  cases e : ns[i]? with
  | none => rw [e] at h; cases h
  | some z => rw [e] at h; exact ⟨z, rfl, (Option.some.inj h).symm⟩
theorem strs_get {ns : List Str} {i : Nat} {v : V} (h : (ns.map V.str)[i]? = some v) : ∃ z, ns[i]? = some z ∧ v = V.str z := by
  rw [List.getElem?_map] at h
  cases e : ns[i]? with
  | none => rw [e] at h; cases h
  | some z => rw [e] at h; exact ⟨z, rfl, (Option.some.inj h).symm⟩
theorem smallM {n : Nat} (h : n ≤ 1000000) : n ≤ sizeLine := Nat.le_trans h (by decide)
theorem smallL {n : Nat} (h : n ≤ 1000000) : n < sizeLine := Nat.lt_of_le_of_lt h (by decide)
/-- a promise that asks the impossible: any def at all keeps it -/
def spNo : Sp := fun _ _ _ _ => False
/-! the same rules with the written part named (within a comprehension) -/
section
variable {X : Cx} {K : PySem.W.Frag}
theorem pe_fldK {e : Expr} {f : Str} {pos : Pos} {ta : TE} (he : PE X e ta) (hb : attributeBase e f X.env (eval e X.env) = eval e X.env) (hK : X.K = K := by rfl) : PE X (.Attribute e f pos) (tFld K ta f) := hK ▸ pe_fld he hb
theorem ix_listK (hK : X.K = K := by rfl) : IxR X (rIxL K) := hK ▸ ix_list
theorem ix_tupK (hK : X.K = K := by rfl) : IxR X (rIxT K) := hK ▸ ix_tup
theorem sl_listK (hK : X.K = K := by rfl) : SlR X (rSlL K) := hK ▸ sl_list
theorem sl_tupK (hK : X.K = K := by rfl) : SlR X (rSlT K) := hK ▸ sl_tup
theorem call_len_seqK (hK : X.K = K := by rfl) : CallR X (.builtin "len") (fun xs H Q => ∃ p ys, xs = [.ref p] ∧ (SqL K H p ys ∨ SqT K H p ys) ∧ Q (.int ys.length) H) := hK ▸ call_len_seq
theorem call_list_ofK (hK : X.K = K := by rfl) : CallR X (.type "list") (fun xs H Q => ∃ p ys, xs = [.ref p] ∧ (SqL K H p ys ∨ SqT K H p ys) ∧ ∀ l, H l = none → Q (.ref l) (upd H l (.lst ys))) := hK ▸ call_list_of
theorem call_isiK2 (hK : X.K = K := by rfl) : CallR X (.builtin "isinstance") (rIsi K) := hK ▸ call_isi
end
/-- behind the making of an instance -/
theorem keep_made {H H2 : Hp} {x dx : Addr} {o : HO} (hx : H x = none) (hd : H dx = none) (k : Keep [x] (upd (upd H dx (.own x)) x o) H2) : Keep [] H H2 := fun b u e _ =>
  k b u (by rw [upd_ne (ne_of_none e hx), upd_ne (ne_of_none e hd)]; exact e) (by simpa using ne_of_none e hx)
theorem kitSelf {K : PySem.W.Frag} {C : Addr} : PySem.W.kitOne K (.ref C) (.ref C) = some true := by
  unfold PySem.W.kitOne
  simp

/-! the text by places -/
def top (i : Nat) : Stmt := PySem.Challenge.pw_bothgain_k06_common_form.main.body.getD i (.Pass ⟨0, 0, 0, 0⟩)
abbrev s_Ratio___init : Stmt := L2.inClass (top 8) 0
theorem sc_Ratio___init : FnScope ["self", "num", "den", "part"] ["self", "num", "den"] (fnScope s_Ratio___init) := fnScope_by (by decide +kernel)
abbrev s_common : Stmt := top 3
theorem sc_common : FnScope ["ratios", "den", "ratio"] ["ratios"] (fnScope s_common) := fnScope_by (by decide +kernel)
abbrev s_law_is_integer : Stmt := top 10
theorem sc_law_is_integer : FnScope ["actual"] ["actual"] (fnScope s_law_is_integer) := fnScope_by (by decide +kernel)
abbrev s_law_gcd : Stmt := top 11
theorem sc_law_gcd : FnScope ["a", "b", "k", "c"] ["a", "b"] (fnScope s_law_gcd) := fnScope_by (by decide +kernel)
abbrev s_law_is_ratio : Stmt := top 12
theorem sc_law_is_ratio : FnScope ["actual", "num", "den", "part"] ["actual", "num", "den"] (fnScope s_law_is_ratio) := fnScope_by (by decide +kernel)
abbrev s_law_great : Stmt := top 13
theorem sc_law_great : FnScope ["cell", "most"] ["cell", "most"] (fnScope s_law_great) := fnScope_by (by decide +kernel)
abbrev s_law : Stmt := top 14
theorem sc_law : FnScope ["script", "terms", "great", "cell", "num", "den", "ratios", "actual", "part", "k", "numbers", "told", "again", "term"] ["script"] (fnScope s_law) := fnScope_by (by decide +kernel)
/-- what the walk asks of the module -/
structure Txt (K : PySem.W.Frag) (mg : Str → Option Value) (C_Ratio : Addr) : Prop where
  n_abs : mg "abs" = none
  n_bool : mg "bool" = none
  n_int : mg "int" = none
  n_isinstance : mg "isinstance" = none
  n_len : mg "len" = none
  n_list : mg "list" = none
  n_range : mg "range" = none
  n_tuple : mg "tuple" = none
  f_gcd : mg "gcd" = some (.builtin "math.gcd")
  f_lcm : mg "lcm" = some (.builtin "math.lcm")
  cl_Ratio : Cls K C_Ratio
  m_Ratio : mg "Ratio" = some (.ref C_Ratio)
  i_Ratio : InsC K C_Ratio
  a_Ratio_num : NoAttr K C_Ratio "num"
  a_Ratio_den : NoAttr K C_Ratio "den"
  ok : True
/-! ratios: an own object of two ints -/
theorem kND : ¬ (("num" : Str) = "den") := by decide +kernel
theorem kDN : ¬ (("den" : Str) = "num") := by decide +kernel
def rf (n d : Int) : List (Str × V) := putF "den" (.int d) (putF "num" (.int n) [])
theorem rf_num (n d : Int) : (rf n d).lookup ("num" : Str) = some (.int n) := by
  unfold rf
  rw [lookup_putF, if_neg kND, lookup_putF, if_pos rfl]
theorem rf_den (n d : Int) : (rf n d).lookup ("den" : Str) = some (.int d) := by
  unfold rf
  rw [lookup_putF, if_pos rfl]
theorem rf_no (n d : Int) {m : Str} (h1 : ¬ m = "num") (h2 : ¬ m = "den") : (rf n d).lookup m = none := by
  unfold rf
  rw [lookup_putF, if_neg h2, lookup_putF, if_neg h1]; rfl
/-- a Ratio stands at p -/
def RatAt (C : Addr) (H : Hp) (p : Addr) (n d : Int) : Prop := ∃ dx, H p = some (.ins C dx (rf n d))
theorem RatAt.keep {C p : Addr} {H H' : Hp} {W : List Addr} {n d : Int} (h : RatAt C H p n d) (k : Keep W H H') (w : p ∉ W) : RatAt C H' p n d := by
  obtain ⟨dx, h⟩ := h
  exact ⟨dx, k _ _ h w⟩
theorem RatAt.keep0 {C p : Addr} {H H' : Hp} {n d : Int} (h : RatAt C H p n d) (k : Keep [] H H') : RatAt C H' p n d := h.keep k (by simp)
/-- the sign of the divisor stands with the common part -/
def sg (n d : Int) : Int := if d < 0 then -((Nat.gcd n.natAbs d.natAbs : Nat) : Int) else ((Nat.gcd n.natAbs d.natAbs : Nat) : Int)
def redN (n d : Int) : Int := n.fdiv (sg n d)
def redD (n d : Int) : Int := d.fdiv (sg n d)
theorem gcd_pos_of {n d : Int} (h : d ≠ 0) : 0 < Nat.gcd n.natAbs d.natAbs := Nat.gcd_pos_of_pos_right _ (by omega)
theorem sg_ne {n d : Int} (h : d ≠ 0) : sg n d ≠ 0 := by
  have := gcd_pos_of (n := n) h
  unfold sg
  split <;> omega
theorem sg_dvd_n (n d : Int) : sg n d ∣ n := by
  have h : ((Nat.gcd n.natAbs d.natAbs : Nat) : Int) ∣ n := Int.ofNat_dvd_left.mpr (Nat.gcd_dvd_left _ _)
  unfold sg
  split
  · exact Int.neg_dvd.mpr h
  · exact h
theorem sg_dvd_d (n d : Int) : sg n d ∣ d := by
  have h : ((Nat.gcd n.natAbs d.natAbs : Nat) : Int) ∣ d := Int.ofNat_dvd_left.mpr (Nat.gcd_dvd_right _ _)
  unfold sg
  split
  · exact Int.neg_dvd.mpr h
  · exact h
theorem fdiv_of_mul {m c s : Int} (hs : s ≠ 0) (h : m = s * c) : m.fdiv s = c := by
  subst h; exact Int.mul_fdiv_cancel_left c hs
theorem red_n {n d : Int} (h : d ≠ 0) : redN n d * sg n d = n := by
  obtain ⟨c, hc⟩ := sg_dvd_n n d
  unfold redN
  rw [fdiv_of_mul (sg_ne h) hc, Int.mul_comm]; exact hc.symm
theorem red_d {n d : Int} (h : d ≠ 0) : redD n d * sg n d = d := by
  obtain ⟨c, hc⟩ := sg_dvd_d n d
  unfold redD
  rw [fdiv_of_mul (sg_ne h) hc, Int.mul_comm]; exact hc.symm
theorem redD_pos {n d : Int} (h : d ≠ 0) : 0 < redD n d := by
  have e := red_d (n := n) h
  have g := gcd_pos_of (n := n) h
  have hne : redD n d ≠ 0 := fun z => by rw [z, Int.zero_mul] at e; exact h e.symm
  rcases Int.lt_or_gt_of_ne hne with hl | hl
  · exfalso
    unfold sg at e
    split at e
    · rename_i hd
      have : 0 ≤ redD n d * -((Nat.gcd n.natAbs d.natAbs : Nat) : Int) := Int.mul_nonneg_of_nonpos_of_nonpos (by omega) (by omega)
      omega
    · rename_i hd
      have : redD n d * ((Nat.gcd n.natAbs d.natAbs : Nat) : Int) < 0 := Int.mul_neg_of_neg_of_pos hl (by omega)
      omega
  · exact hl
/-- the same ratio -/
theorem red_cross {n d : Int} (h : d ≠ 0) : redN n d * d = n * redD n d := by
  have e1 := red_n (n := n) h
  have e2 := red_d (n := n) h
  calc redN n d * d = redN n d * (redD n d * sg n d) := by rw [e2]
    _ = redN n d * sg n d * redD n d := by rw [Int.mul_comm (redD n d), Int.mul_assoc]
    _ = n * redD n d := by rw [e1]
theorem red_gcd {n d : Int} (h : d ≠ 0) : Nat.gcd (redN n d).natAbs (redD n d).natAbs = 1 := by
  have e1 : (redN n d).natAbs * (sg n d).natAbs = n.natAbs := by rw [← Int.natAbs_mul, red_n h]
  have e2 : (redD n d).natAbs * (sg n d).natAbs = d.natAbs := by rw [← Int.natAbs_mul, red_d h]
  have e3 : (sg n d).natAbs = Nat.gcd n.natAbs d.natAbs := by unfold sg; split <;> omega
  have e4 := Nat.gcd_mul_right (redN n d).natAbs (sg n d).natAbs (redD n d).natAbs
  rw [e1, e2, e3] at e4
  have g := gcd_pos_of (n := n) h
  exact Nat.eq_of_mul_eq_mul_right g (by omega)
theorem red_abs_n {n d : Int} (h : d ≠ 0) : (redN n d).natAbs ≤ n.natAbs := by
  have e1 : (redN n d).natAbs * (sg n d).natAbs = n.natAbs := by rw [← Int.natAbs_mul, red_n h]
  have : 0 < (sg n d).natAbs := by have := sg_ne (n := n) h; omega
  rw [← e1]
  exact Nat.le_mul_of_pos_right _ this
theorem red_dvd {n d : Int} (h : d ≠ 0) : redD n d ∣ d := ⟨sg n d, (red_d h).symm⟩
/-- what the rules ask of numbers below a power of two -/
theorem log2_lt9 {i : Int} {b : Nat} (h : i.natAbs < 2 ^ b) (h0 : 0 < b) : i.natAbs.log2 < b := PySem.Flt.log2_lt_of h0 h
section
variable {X : Cx}
def CDivG (_ j : Int) : Prop := j ≠ 0 ∧ j.natAbs.log2 < 9000
theorem op_fdivG : OpR X (binaryOp .FloorDiv) (rI CDivG fun i j => .int (i.fdiv j)) := opI fun i j _ _ _ _ _ hc q =>
  PyProof.Rows.floordiv_int hc.1 q (.inl (PyProof.noPylong_of_log2 hc.2))
def CPowB (i j : Int) : Prop := 2 ≤ i.natAbs ∧ 1 ≤ j ∧ (Builtin.Int.intBits i : Int) * j ≤ 100000000
theorem op_mulO : OpR X (binaryOp .Mult) (rI IntMulOk fun i j => .int (i * j)) := opI fun _ _ _ _ _ _ _ hc q => PyProof.Rows.mul_int q hc
end
def sp_rat (C : Addr) : Sp := fun vs H Q _ => ∃ (x dx : Addr) (n d : Int), vs = [.ref x, .int n, .int d] ∧ d ≠ 0 ∧ d.natAbs < 2 ^ 8000 ∧ H x = some (.ins C dx []) ∧
  ∀ H', Keep [x] H H' → H' x = some (.ins C dx (rf (redN n d) (redD n d))) → Q .non H'

section
variable {P : Program} {w : World} {K : PySem.W.Frag} {mg : Str → Option Value} {base : Heap}
theorem ok_rat_init {f C : Addr} {fd : FuncData} {ds : List Value} {dvs : List V} (M : Mk K C f) (F : C8.Fun K "__init__" "Ratio.__init__" s_Ratio___init f fd) (b : Binds K fd ["self", "num", "den"] ds) (d : Vals dvs ds) (T : Txt K mg C) :
    C8.Mak P w K mg base 1 "Ratio" C (sp_rat C) dvs := by
  refine mak0 M T.m_Ratio F b d sc_Ratio___init (fun vs H Q E h => ?_) (fun cdv A outer s H vs Q E hr h => ?_)
  · obtain ⟨x, dx, n, d, rfl, _⟩ := h
    rfl
  · obtain ⟨x, dx, n, d, rfl, hd0, hdb, hx, k⟩ := h
    refine ⟨_, (pss_cons (ps_if (pt_cmpR op_eq (pv 2) pe_int (nomark _))
  (pss_one ps_never)
  pss_nil)
(pss_cons (ps_set (i := 3) sc_Ratio___init.nd rfl (by first | exact Or.inl rfl | exact Or.inr rfl) (pe_callBfun cr_gcd (by rfl) T.f_gcd (pa_cons (pv 1) (pa_cons (pv 2) pa_nil))))
(pss_cut (ps_if (pt_cmpR op_lt (pv 2) pe_int (nomark _))
  (pss_one (ps_set (i := 3) sc_Ratio___init.nd rfl (by first | exact Or.inl rfl | exact Or.inr rfl) (pe_un un_neg (pv 3))))
  pss_nil)
(pss_cons (ps_fld (pv 0) (pe_op op_fdivG (pv 1) (pv 3)) rfl)
(pss_one (ps_fld (pv 0) (pe_op op_fdivG (pv 2) (pv 3)) rfl)))))), ?_⟩
    refine ⟨_, rfl, rfl, _, rfl, iteDF (fun z => hd0 (V.int.inj z)) ?_⟩
    refine ⟨_, rfl, _, rfl, _, _, rfl, ?_⟩
    have hg := gcd_pos_of (n := n) hd0
    have hgb : Nat.gcd n.natAbs d.natAbs < 2 ^ 8000 := Nat.lt_of_le_of_lt (Nat.le_of_dvd (by omega) (Nat.gcd_dvd_right _ _)) hdb
    -- part is the sign's part
    refine ⟨fun σ H' => σ = [some (.ref x), some (.int n), some (.int d), some (.int (sg n d))] ∧ H' = H, ?_, ?_⟩
    · refine ⟨_, rfl, _, _, rfl, rfl, _, rfl, iteD (fun hn => ?_) (fun hn => ?_)⟩
      · refine ⟨_, rfl, _, rfl, ?_, rfl⟩
        unfold sg; rw [if_pos hn]; rfl
      · refine ⟨?_, rfl⟩
        unfold sg; rw [if_neg hn]; rfl
    · rintro σ H' ⟨rfl, rfl⟩
      have hs := sg_ne (n := n) hd0
      have hsb : CDivG n (sg n d) := ⟨hs, by
        refine Nat.lt_trans (log2_lt9 (b := 8000) ?_ (by decide)) (by decide)
        have : (sg n d).natAbs = Nat.gcd n.natAbs d.natAbs := by unfold sg; split <;> omega
        omega⟩
      refine ⟨_, rfl, _, rfl, _, _, rfl, rfl, hsb, _, rfl, x, C, dx, [], rfl, hx, T.cl_Ratio, T.a_Ratio_num, by show 0 < 1000; decide, ?_⟩
      refine ⟨_, rfl, _, rfl, _, _, rfl, rfl, hsb, _, rfl, x, C, dx, _, rfl, upd_same, T.cl_Ratio, T.a_Ratio_den, by show 1 < 1000; decide, ?_⟩
      exact k _ ((Keep.at_ (List.mem_singleton.mpr rfl)).then_at (List.mem_singleton.mpr rfl)) upd_same
end

set_option exponentiation.threshold 100000
/-! great ints: lcm, a fourth power -/
section
variable {X : Cx}
def rLcm : List V → Hp → VK → Prop := fun vs H Q => ∃ a b : Int, vs = [.int a, .int b] ∧ a.natAbs < 2 ^ 6000 ∧ b.natAbs < 2 ^ 6000 ∧ Q (.int ((Nat.lcm a.natAbs b.natAbs : Nat) : Int)) H
theorem cr_lcm : CallR X (.builtin "math.lcm") rLcm := by
  intro pins s σ H vs us Q I r h
  obtain ⟨a, b, rfl, ha, hb, q⟩ := h
  obtain ⟨t, u, rfl⟩ := Vals.int2 r
  have e1 : Nat.lcm 1 a.natAbs = a.natAbs := PySem.W.mc_lcm_one _
  have l1 : (max 1 a.natAbs).log2 < 6001 := by
    refine PySem.Flt.log2_lt_of (by decide) ?_
    have : (1 : Nat) < 2 ^ 6001 := Nat.one_lt_two_pow (by decide)
    have : a.natAbs < 2 ^ 6001 := Nat.lt_trans ha (Nat.pow_lt_pow_right (by decide) (by decide))
    omega
  have l2 : (max a.natAbs b.natAbs).log2 < 6000 := PySem.Flt.log2_lt_of (by decide) (by omega)
  refine call_function_meets PySem.W.MGF.kind_lcm PySem.W.MGF.plain_lcm PySem.W.MGF.entry_lcm (PySem.W.MGF.args_lcm _ _) (PySem.W.mg_run_lcm a t b u (by omega) (by omega) ?_).meets ⟨.int _, H, I.tok _, ⟨_, rfl⟩, by rw [e1]; exact q⟩
  rw [e1, Int.natAbs_natCast]
  have h1 : Nat.lcm a.natAbs b.natAbs < 2 ^ 12000 := by
    refine Nat.lt_of_le_of_lt (PySem.W.mc_lcm_le _ _) ?_
    have e : (2 : Nat) ^ 12000 = 2 ^ 6000 * 2 ^ 6000 := by rw [← Nat.pow_add]
    rw [e]
    exact Nat.mul_lt_mul'' ha hb
  have h2 := PySem.Flt.log2_lt_of (k := 12000) (by decide) h1
  have e : bitsLine = 134217728 := by decide
  omega
/-- a ** 4 -/
theorem op_pow4 : OpR X (binaryOp .Pow) (fun x y H Q => ∃ i : Int, x = .int i ∧ y = .int 4 ∧ Builtin.Int.intBits i ≤ 2000000 ∧ Q (.int (i ^ 4)) H) := by
  intro pins s σ H x y v u Q I rx ry h
  obtain ⟨i, rfl, rfl, hb, q⟩ := h
  obtain ⟨t, rfl⟩ := rx
  obtain ⟨t', rfl⟩ := ry
  have fin : ∀ z : Int, z = i ^ 4 → ∀ k tk, EP X pins σ Q (.int z tk) { s with toks := k } := fun z e k tk => ⟨.int z, H, I.tok _, ⟨_, rfl⟩, by rw [e]; exact q⟩
  by_cases h1 : (i == 0 || i == 1) = true
  · refine AutoIntOps.pow_1 (by decide) (by decide) h1 (fin i ?_ _ _)
    rcases (Bool.or_eq_true _ _ ▸ h1) with e | e
    · have := eq_of_beq e; subst this; rfl
    · have := eq_of_beq e; subst this; rfl
  · by_cases h2 : (i == -1) = true
    · refine AutoIntOps.pow_2 (by decide) (by decide) h1 h2 (fin _ ?_ _ _)
      have := eq_of_beq h2; subst this; rfl
    · refine AutoIntOps.pow_4 (by decide) (by decide) h1 h2 ?_ (fin _ ?_ _ _)
      · unfold Builtin.Int.intTooBig
        have e : bitsLine = 134217728 := by decide
        intro z
        have z := of_decide_eq_true z
        rw [e] at z
        omega
      · rfl
end

/-! the law's look whether two values are the same: only the answer True is told -/
def SameV : Nat → Hp → V → V → Prop
  | 0, _, _, _ => False
  | n + 1, H, a, d => (a = d ∧ ((∃ x, d = .str x) ∨ (∃ i, d = .int i) ∨ (∃ b, d = .bl b) ∨ d = .non)) ∨
    ∃ p q xs ys, a = .ref p ∧ d = .ref q ∧ ((H p = some (.lst xs) ∧ H q = some (.lst ys)) ∨ (H p = some (.tup xs) ∧ H q = some (.tup ys))) ∧ xs.length = ys.length ∧ xs.length ≤ sizeLine ∧
      ∀ (i : Nat) x y, xs[i]? = some x → ys[i]? = some y → SameV n H x y
def sp_law_same (n : Nat) : Sp := fun vs H Q _ => ∃ a d, vs = [a, d] ∧ SameV n H a d ∧ Q (.bl true) H
theorem sameV_strs {n : Nat} {H : Hp} {p q : Addr} {ys : List Str} (h1 : H p = some (.lst (ys.map V.str))) (h2 : H q = some (.lst (ys.map V.str))) (hl : ys.length ≤ sizeLine) : SameV (n + 2) H (.ref p) (.ref q) := by
  refine .inr ⟨p, q, _, _, rfl, rfl, .inl ⟨h1, h2⟩, rfl, by rw [List.length_map]; exact hl, fun i x y hx hy => ?_⟩
  rw [hx] at hy; cases hy
  obtain ⟨z, _, rfl⟩ := strs_get hx
  exact .inl ⟨rfl, .inl ⟨z, rfl⟩⟩
theorem sameV_str {n : Nat} {H : Hp} (x : Str) : SameV (n + 1) H (.str x) (.str x) := .inl ⟨rfl, .inl ⟨x, rfl⟩⟩
section
variable {K : PySem.W.Frag}
theorem kLT : PySem.W.kitOne K (.type "list") (.type "tuple") = some false := kit_ty (by decide +kernel)
theorem kLL : PySem.W.kitOne K (.type "list") (.type "list") = some true := kit_ty (by decide +kernel)
theorem kTT : PySem.W.kitOne K (.type "tuple") (.type "tuple") = some true := kit_ty (by decide +kernel)
theorem kTL : PySem.W.kitOne K (.type "tuple") (.type "list") = some false := kit_ty (by decide +kernel)
theorem kST : PySem.W.kitOne K (.type "str") (.type "tuple") = some false := kit_ty (by decide +kernel)
theorem kSL : PySem.W.kitOne K (.type "str") (.type "list") = some false := kit_ty (by decide +kernel)
theorem kSB : PySem.W.kitOne K (.type "str") (.type "bool") = some false := kit_ty (by decide +kernel)
theorem kSI : PySem.W.kitOne K (.type "str") (.type "int") = some false := kit_ty (by decide +kernel)
theorem kSS : PySem.W.kitOne K (.type "str") (.type "str") = some true := kit_ty (by decide +kernel)
theorem kIT : PySem.W.kitOne K (.type "int") (.type "tuple") = some false := kit_ty (by decide +kernel)
theorem kIL : PySem.W.kitOne K (.type "int") (.type "list") = some false := kit_ty (by decide +kernel)
theorem kIB : PySem.W.kitOne K (.type "int") (.type "bool") = some false := kit_ty (by decide +kernel)
theorem kII : PySem.W.kitOne K (.type "int") (.type "int") = some true := kit_ty (by decide +kernel)
theorem kBT : PySem.W.kitOne K (.type "bool") (.type "tuple") = some false := kit_ty (by decide +kernel)
theorem kBL : PySem.W.kitOne K (.type "bool") (.type "list") = some false := kit_ty (by decide +kernel)
theorem kBB : PySem.W.kitOne K (.type "bool") (.type "bool") = some true := kit_ty (by decide +kernel)
theorem kBI : PySem.W.kitOne K (.type "bool") (.type "int") = some true := kit_ty (by decide +kernel)
theorem kNT : PySem.W.kitOne K (.type "NoneType") (.type "tuple") = some false := kit_ty (by decide +kernel)
theorem kNL : PySem.W.kitOne K (.type "NoneType") (.type "list") = some false := kit_ty (by decide +kernel)
theorem kNB : PySem.W.kitOne K (.type "NoneType") (.type "bool") = some false := kit_ty (by decide +kernel)
theorem kNI : PySem.W.kitOne K (.type "NoneType") (.type "int") = some false := kit_ty (by decide +kernel)
end
theorem paired_strs {K : PySem.W.Frag} {H : Hp} {n : Nat} : ∀ ys : List Str, Paired (EqV K H (n + 1)) (ys.map V.str) (ys.map V.str)
  | [] => .nil
  | y :: r => .cons (.inl ⟨rfl, rfl⟩) (paired_strs r)
theorem canLay_intsL : ∀ l : List Int, PyData.canLayAll0 (l.map PyData.int) = true
  | [] => rfl
  | a :: r => by simp [PyData.canLayAll0, PyData.canLay0, canLay_intsL r]
theorem depth_intsL : ∀ l : List Int, PyData.depthAll (l.map PyData.int) ≤ 1
  | [] => by simp [PyData.depthAll]
  | a :: r => by
    have := depth_intsL r
    simp only [List.map_cons, PyData.depthAll, PyData.depth]
    omega
theorem shaped_ints (ys : List Int) : SeqAt.shaped (.list (ys.map PyData.int)) = true := by
  unfold SeqAt.shaped
  have h := depth_intsL ys
  rw [Bool.and_eq_true]
  refine ⟨by simp only [PyData.canLay0]; exact canLay_intsL ys, decide_eq_true ?_⟩
  simp only [PyData.depth]
  omega
theorem eqv_ints (ys : List Int) : PyData.eqv (.list (ys.map PyData.int)) (.list (ys.map PyData.int)) = true := SeqAt.eqv_refl _ (SeqAt.canLay_of_shaped (shaped_ints ys))
theorem dp_ints {K : PySem.W.Frag} {H : Hp} : ∀ (ys : List Int), DpAll K H (ys.map V.int) (ys.map PyData.int)
  | [] => .nil
  | y :: r => .cons (.int y) (dp_ints r)

/-! the law's greatest common divisor: Euclid, 4,000 turns -/
theorem two_halves {a b : Nat} (h : b ≤ a) : b * (a % b) * 2 ≤ a * b := by
  rcases Nat.eq_zero_or_pos b with hb | hb
  · subst hb; simp
  · have h1 : a % b < b := Nat.mod_lt _ hb
    have h2 : a % b + b ≤ a := by
      have h3 := Nat.div_add_mod a b
      have h4 : 1 ≤ a / b := (Nat.one_le_div_iff hb).mpr h
      have h5 : b * 1 ≤ b * (a / b) := Nat.mul_le_mul_left _ h4
      omega
    have h6 : (a % b) * 2 ≤ a := by omega
    calc b * (a % b) * 2 = b * ((a % b) * 2) := Nat.mul_assoc _ _ _
      _ ≤ b * a := Nat.mul_le_mul_left _ h6
      _ = a * b := Nat.mul_comm _ _
def sp_law_gcd : Sp := fun vs H Q _ => ∃ a b : Int, vs = [.int a, .int b] ∧ a.natAbs * b.natAbs < 2 ^ 3900 ∧ Q (.int ((Nat.gcd a.natAbs b.natAbs : Nat) : Int)) H
def sp_law_great : Sp := fun vs H Q _ => ∃ c m : Int, vs = [.int c, .int m] ∧ Builtin.Int.intBits c ≤ 1048576 ∧ 0 < m ∧ ∀ z, 0 ≤ z → z < m → Q (.int z) H
def sp_law_is_integer : Sp := fun vs H Q _ => ∃ z : Int, vs = [.int z] ∧ Q (.bl true) H
def sp_law_is_ratio (C : Addr) : Sp := fun vs H Q _ => ∃ (p : Addr) (n d : Int), vs = [.ref p, .int n, .int d] ∧ d ≠ 0 ∧ n.natAbs < 2 ^ 1900 ∧ d.natAbs < 2 ^ 1900 ∧ RatAt C H p (redN n d) (redD n d) ∧ Q (.bl true) H
section
variable {P : Program} {w : World} {K : PySem.W.Frag} {mg : Str → Option Value} {base : Heap} {C : Addr}
theorem ok_law_gcd {f : Addr} {fd : FuncData} (D : C8.Def K mg "_law_gcd" s_law_gcd f fd) (b : Binds K fd ["a", "b"] []) (T : Txt K mg C) : C8.Cal P w K mg base 1 "_law_gcd" sp_law_gcd [] := by
  refine cal0 D b .nil sc_law_gcd (fun vs H Q E h => ?_) (fun cdv A outer s H vs Q E hr h => ?_)
  · obtain ⟨a, b, rfl, _⟩ := h
    rfl
  · obtain ⟨a, b, rfl, ha, k⟩ := h
    refine ⟨_, (pss_cons (ps_set (i := 0) sc_law_gcd.nd rfl (by first | exact Or.inl rfl | exact Or.inr rfl) (pe_callB call_abs (by rfl) T.n_abs bo_abs (pa_cons (pv 0) pa_nil)))
(pss_cons (ps_set (i := 1) sc_law_gcd.nd rfl (by first | exact Or.inl rfl | exact Or.inr rfl) (pe_callB call_abs (by rfl) T.n_abs bo_abs (pa_cons (pv 1) pa_nil)))
(pss_cons (ps_for PassesOwn.never rfl (pi_range1 (by rfl) T.n_range (pa_cons pe_int pa_nil)) (pg_name (i := 2) sc_law_gcd.nd rfl (by first | exact Or.inl rfl | exact Or.inr rfl))
  (pss_cons (ps_if (pt_cmpR op_eq (pv 1) pe_int (nomark _))
    (pss_one (ps_ret (pv 0)))
    pss_nil)
  (pss_cons (ps_set (i := 3) sc_law_gcd.nd rfl (by first | exact Or.inl rfl | exact Or.inr rfl) (pe_op op_mod (pe_callTy call_int1 (by rfl) T.n_int bo_int (pa_cons (pv 0) pa_nil)) (pv 1)))
  (pss_cons (ps_set (i := 0) sc_law_gcd.nd rfl (by first | exact Or.inl rfl | exact Or.inr rfl) (pv 1))
  (pss_one (ps_set (i := 1) sc_law_gcd.nd rfl (by first | exact Or.inl rfl | exact Or.inr rfl) (pv 3)))))))
(pss_one (ps_ret (pv 0)))))), ?_⟩
    have abs_eq : ∀ z : Int, (if z < 0 then -z else z) = ((z.natAbs : Nat) : Int) := fun z => by split <;> omega
    refine ⟨_, rfl, _, rfl, _, rfl, _, rfl, 4000, rfl, by decide, by decide, ?_⟩
    show (∃ W : Nat → Nat → L2.St → Hp → Prop, (∃ m, W 0 m [some (.int (if a < 0 then -a else a)), some (.int (if b < 0 then -b else b)), none, none] H) ∧ _)
    rw [abs_eq, abs_eq]
    refine for_range (lo := 0) (n := 4000) (fun i σ H' => H' = H ∧ ∃ (x y : Nat) (o2 o3 : Option V), σ = [some (.int (x : Int)), some (.int (y : Int)), o2, o3] ∧ Nat.gcd x y = Nat.gcd a.natAbs b.natAbs ∧
        (i = 0 ∨ y ≤ x) ∧ x * y * 2 ^ (i - 1) < 2 ^ 3900)
      ⟨rfl, a.natAbs, b.natAbs, none, none, rfl, rfl, .inl rfl, ?_⟩ ?_ ?_
    · show a.natAbs * b.natAbs * 1 < _
      rw [Nat.mul_one]; exact ha
    · rintro i σ H' hi ⟨rfl, x, y, o2, o3, rfl, hg, hxy, hp⟩
      refine ⟨_, rfl, rfl, _, rfl, iteD (fun e => ?_) (fun e => ?_)⟩
      · have hy : y = 0 := by have := V.int.inj e; omega
        subst hy
        refine ⟨_, rfl, ?_⟩
        have : ((Nat.gcd a.natAbs b.natAbs : Nat) : Int) = (x : Int) := by rw [← hg, Nat.gcd_zero_right]
        rw [← this]; exact k
      · have hy : 0 < y := by
          have : ¬ ((y : Nat) : Int) = 0 := fun z => e (congrArg V.int z)
          omega
        refine ⟨_, rfl, .inl ⟨_, rfl, _, rfl, _, _, rfl, rfl, (by show (0 : Int) < _; omega), ?_⟩⟩
        refine ⟨_, rfl, _, rfl, rfl, y, x % y, _, _, rfl, ?_, .inr (Nat.le_of_lt (Nat.mod_lt _ hy)), ?_⟩
        · rw [Nat.gcd_comm x y, Nat.gcd_rec] at hg
          rw [Nat.gcd_comm]; exact hg
        · show y * (x % y) * 2 ^ (i + 1 - 1) < _
          rw [Nat.add_sub_cancel]
          rcases hxy with h0 | h0
          · subst h0
            have h1 : y * (x % y) ≤ x * y := by rw [Nat.mul_comm x y]; exact Nat.mul_le_mul_left _ (Nat.mod_le _ _)
            exact Nat.lt_of_le_of_lt (Nat.mul_le_mul_right _ h1) hp
          · cases i with
            | zero =>
              have h1 : y * (x % y) ≤ x * y := by rw [Nat.mul_comm x y]; exact Nat.mul_le_mul_left _ (Nat.mod_le _ _)
              exact Nat.lt_of_le_of_lt (Nat.mul_le_mul_right _ h1) hp
            | succ j =>
              rw [Nat.add_sub_cancel] at hp
              have h1 := two_halves h0
              rw [Nat.pow_succ, Nat.mul_comm (2 ^ j) 2, ← Nat.mul_assoc]
              exact Nat.lt_of_le_of_lt (Nat.mul_le_mul_right _ h1) hp
    · rintro σ H' ⟨rfl, x, y, o2, o3, rfl, hg, hxy, hp⟩
      have hyx : y ≤ x := hxy.resolve_left (by decide)
      have hy : y = 0 := by
        rcases Nat.eq_zero_or_pos y with h0 | h0
        · exact h0
        · exfalso
          have h1 : 1 ≤ x * y := Nat.mul_pos (by omega) h0
          have h2 : 1 * 2 ^ (4000 - 1) ≤ x * y * 2 ^ (4000 - 1) := Nat.mul_le_mul_right _ h1
          have h3 : (2 : Nat) ^ 3900 ≤ 2 ^ (4000 - 1) := Nat.pow_le_pow_right (by decide) (by decide)
          omega
      subst hy
      refine ⟨_, rfl, ?_⟩
      have : ((Nat.gcd a.natAbs b.natAbs : Nat) : Int) = (x : Int) := by rw [← hg, Nat.gcd_zero_right]
      rw [← this]; exact k
theorem ok_law_great {f : Addr} {fd : FuncData} (D : C8.Def K mg "_law_great" s_law_great f fd) (b : Binds K fd ["cell", "most"] []) (T : Txt K mg C) : C8.Cal P w K mg base 1 "_law_great" sp_law_great [] := by
  refine cal0 D b .nil sc_law_great (fun vs H Q E h => ?_) (fun cdv A outer s H vs Q E hr h => ?_)
  · obtain ⟨a, b, rfl, _⟩ := h
    rfl
  · obtain ⟨c, m, rfl, hb, hm, k⟩ := h
    refine ⟨_, (pss_one (ps_ret (pe_op op_mod (pe_callTy call_int1 (by rfl) T.n_int bo_int (pa_cons (pe_op op_add (pe_op op_mul (pe_op op_pow4 (pv 0) pe_int) pe_int) (pe_op op_fdiv (pv 0) pe_int)) pa_nil)) (pv 1)))), ?_⟩
    refine ⟨_, rfl, c, rfl, rfl, by omega, _, _, rfl, rfl, .inr ⟨by decide, by decide⟩, _, rfl, _, _, rfl, rfl, ⟨by decide, by decide⟩, _, _, rfl, rfl, .inl ⟨_, rfl, _, rfl, _, _, rfl, rfl, hm, ?_⟩⟩
    exact k _ (Int.emod_nonneg _ (by omega)) (Int.emod_lt_of_pos _ hm)
theorem ok_law_is_integer {f : Addr} {fd : FuncData} (D : C8.Def K mg "_law_is_integer" s_law_is_integer f fd) (b : Binds K fd ["actual"] []) (T : Txt K mg C) : C8.Cal P w K mg base 1 "_law_is_integer" sp_law_is_integer [] := by
  refine cal0 D b .nil sc_law_is_integer (fun vs H Q E h => ?_) (fun cdv A outer s H vs Q E hr h => ?_)
  · obtain ⟨a, rfl, _⟩ := h
    rfl
  · obtain ⟨z, rfl, k⟩ := h
    refine ⟨_, (pss_one (ps_ret (pe_and (pe_callB call_isi (by rfl) T.n_isinstance bo_isinstance (pa_cons (pv 0) (pa_cons (pe_bltn (v := .ty "int") (by rfl) T.n_int bo_int rfl) pa_nil))) (pe_one (pe_not (pe_callB call_isi (by rfl) T.n_isinstance bo_isinstance (pa_cons (pv 0) (pa_cons (pe_bltn (v := .ty "bool") (by rfl) T.n_bool bo_bool rfl) pa_nil)))))))), ?_⟩
    exact ⟨_, rfl, _, _, _, _, _, rfl, .ty _, .base (.int z), kII, _, rfl, iteT ⟨_, rfl, _, _, _, _, _, rfl, .ty _, .base (.int z), kIB, _, rfl, k⟩⟩
theorem ok_law_is_ratio {f : Addr} {fd : FuncData} (D : C8.Def K mg "_law_is_ratio" s_law_is_ratio f fd) (b : Binds K fd ["actual", "num", "den"] []) (T : Txt K mg C) (c_law_is_integer : C8.Cal P w K mg base 1 "_law_is_integer" sp_law_is_integer [])
    (c_law_gcd : C8.Cal P w K mg base 1 "_law_gcd" sp_law_gcd []) : C8.Cal P w K mg base 2 "_law_is_ratio" (sp_law_is_ratio C) [] := by
  refine cal0 D b .nil sc_law_is_ratio (fun vs H Q E h => ?_) (fun cdv A outer s H vs Q E hr h => ?_)
  · obtain ⟨p, n, d, rfl, _⟩ := h
    rfl
  · obtain ⟨p, n, d, rfl, hd0, hn, hd, ⟨dx, hp⟩, k⟩ := h
    refine ⟨_, (pss_cons (ps_if (pt_not (pt_val (pe_callB (call_isC T.i_Ratio) (by rfl) T.n_isinstance bo_isinstance (pa_cons (pv 0) (pa_cons (pe_glob (v := .ref _) rfl T.m_Ratio rfl) pa_nil)))))
  (pss_one (ps_ret pe_bl))
  pss_nil)
(pss_cons (ps_if (PW.pt (pw_or (pt_not (pt_val (pe_c c_law_is_integer hr (by first | exact Nat.le_refl _ | decide) rfl (pa_cons (pe_fld (pv 0) rfl) pa_nil)))) (pw_or1 (pt_not (pt_val (pe_c c_law_is_integer hr (by first | exact Nat.le_refl _ | decide) rfl (pa_cons (pe_fld (pv 0) rfl) pa_nil)))))))
  (pss_one (ps_ret pe_bl))
  pss_nil)
(pss_cons (ps_set (i := 3) sc_law_is_ratio.nd rfl (by first | exact Or.inl rfl | exact Or.inr rfl) (pe_c c_law_gcd hr (by first | exact Nat.le_refl _ | decide) rfl (pa_cons (pv 1) (pa_cons (pv 2) pa_nil))))
(pss_cut (ps_if (pt_cmpR op_lt (pv 2) pe_int (nomark _))
  (pss_one (ps_set (i := 3) sc_law_is_ratio.nd rfl (by first | exact Or.inl rfl | exact Or.inr rfl) (pe_un un_neg (pv 3))))
  pss_nil)
(pss_one (ps_ret (pe_and (pe_cmpR op_eq (pe_fld (pv 0) rfl) (pe_op op_fdivG (pv 1) (pv 3)) (nomark _)) (pe_one (pe_cmpR op_eq (pe_fld (pv 0) rfl) (pe_op op_fdivG (pv 2) (pv 3)) (nomark _)))))))))), ?_⟩
    refine ⟨_, rfl, p, dx, _, rfl, hp, _, rfl, iteF ?_⟩
    refine ⟨_, rfl, p, C, dx, _, _, rfl, hp, T.cl_Ratio, T.a_Ratio_num, rf_num _ _, _, rfl, _, rfl, iteF ?_⟩
    refine ⟨_, rfl, p, C, dx, _, _, rfl, hp, T.cl_Ratio, T.a_Ratio_den, rf_den _ _, _, rfl, _, rfl, iteF ?_⟩
    refine ⟨_, rfl, _, rfl, n, d, rfl, ?_, ?_⟩
    · refine Nat.lt_of_lt_of_le (Nat.mul_lt_mul'' hn hd) ?_
      rw [← Nat.pow_add]; exact Nat.pow_le_pow_right (by decide) (by decide)
    have hs := sg_ne (n := n) hd0
    have hgb : Nat.gcd n.natAbs d.natAbs < 2 ^ 1900 := Nat.lt_of_le_of_lt (Nat.le_of_dvd (by omega) (Nat.gcd_dvd_right _ _)) hd
    have hsb : CDivG n (sg n d) := ⟨hs, by
      refine Nat.lt_trans (log2_lt9 (b := 1900) ?_ (by decide)) (by decide)
      have : (sg n d).natAbs = Nat.gcd n.natAbs d.natAbs := by unfold sg; split <;> omega
      omega⟩
    refine ⟨fun σ H' => σ = [some (.ref p), some (.int n), some (.int d), some (.int (sg n d))] ∧ H' = H, ?_, ?_⟩
    · refine ⟨_, rfl, _, _, rfl, rfl, _, rfl, iteD (fun hneg => ?_) (fun hneg => ?_)⟩
      · refine ⟨_, rfl, _, rfl, ?_, rfl⟩
        unfold sg; rw [if_pos hneg]; rfl
      · refine ⟨?_, rfl⟩
        unfold sg; rw [if_neg hneg]; rfl
    · rintro σ H' ⟨rfl, rfl⟩
      refine ⟨_, rfl, p, C, dx, _, _, rfl, hp, T.cl_Ratio, T.a_Ratio_num, rf_num _ _, _, rfl, _, rfl, _, _, rfl, rfl, hsb, rfl, _, rfl, iteDT rfl ?_⟩
      refine ⟨_, rfl, p, C, dx, _, _, rfl, hp, T.cl_Ratio, T.a_Ratio_den, rf_den _ _, _, rfl, _, rfl, _, _, rfl, rfl, hsb, rfl, ?_⟩
      show Q (V.bl (decide (V.int (redD n d) = V.int (redD n d)))) H'
      rw [decide_eq_true rfl]; exact k
end

/-! the common form -/
abbrev Rt := Int × Int
def lcmD (d : Nat) (r : Rt) : Nat := Nat.lcm d r.2.natAbs
def comD (rs : List Rt) : Nat := rs.foldl lcmD 1
def comN (rs : List Rt) : List Int := rs.map fun r => r.1 * ((comD rs : Nat) : Int).fdiv r.2
theorem comD_snoc (l : List Rt) (r : Rt) : comD (l ++ [r]) = lcmD (comD l) r := by unfold comD; rw [List.foldl_append]; rfl
theorem foldl_dvd_start : ∀ (l : List Rt) (d : Nat), d ∣ l.foldl lcmD d
  | [], d => Nat.dvd_refl d
  | r :: l, d => Nat.dvd_trans (Nat.dvd_lcm_left d r.2.natAbs) (foldl_dvd_start l (lcmD d r))
theorem foldl_dvd_mem : ∀ (l : List Rt) (d : Nat) {r : Rt}, r ∈ l → r.2.natAbs ∣ l.foldl lcmD d
  | r' :: l, d, r, h => by
    rcases List.mem_cons.mp h with e | e
    · subst e
      exact Nat.dvd_trans (Nat.dvd_lcm_right d r.2.natAbs) (foldl_dvd_start l (lcmD d r))
    · exact foldl_dvd_mem l (lcmD d r') e
theorem foldl_dvd_of : ∀ (l : List Rt) (d m : Nat), d ∣ m → (∀ r ∈ l, r.2.natAbs ∣ m) → l.foldl lcmD d ∣ m
  | [], d, m, h, _ => h
  | r :: l, d, m, h, hl => foldl_dvd_of l (lcmD d r) m (Nat.lcm_dvd h (hl r (List.mem_cons_self ..))) fun z hz => hl z (List.mem_cons_of_mem _ hz)
theorem comD_mem {rs : List Rt} {r : Rt} (h : r ∈ rs) : r.2.natAbs ∣ comD rs := foldl_dvd_mem rs 1 h
theorem comD_of {rs : List Rt} {m : Nat} (h : ∀ r ∈ rs, r.2.natAbs ∣ m) : comD rs ∣ m := foldl_dvd_of rs 1 m (Nat.one_dvd m) h
def sp_common (K : PySem.W.Frag) (C : Addr) : Sp := fun vs H Q _ => ∃ (a : Addr) (ps : List Addr) (rs : List Rt) (B : Nat), vs = [.ref a] ∧ SqL K H a (ps.map V.ref) ∧ ps.length = rs.length ∧ (∀ (i : Nat) p r, ps[i]? = some p → rs[i]? = some r → RatAt C H p r.1 r.2) ∧
  (∀ r ∈ rs, 0 < r.2 ∧ r.2.natAbs ∣ B ∧ r.1.natAbs < 2 ^ 300) ∧ 0 < B ∧ B < 2 ^ 1800 ∧ rs.length ≤ 1000 ∧
  ∀ l t H', H l = none → Keep [] H H' → H' l = some (.lst ((comN rs).map V.int)) → H' t = some (.tup [.ref l, .int (comD rs : Nat)]) → Q (.ref t) H'
section
variable {P : Program} {w : World} {K : PySem.W.Frag} {mg : Str → Option Value} {base : Heap} {C : Addr}
theorem ok_common {f : Addr} {fd : FuncData} (D : C8.Def K mg "common" s_common f fd) (b : Binds K fd ["ratios"] []) (T : Txt K mg C) : C8.Cal P w K mg base 1 "common" (sp_common K C) [] := by
  refine cal0 D b .nil sc_common (fun vs H Q E h => ?_) (fun cdv A outer s H vs Q E hr h => ?_)
  · obtain ⟨a, ps, rs, B, rfl, _⟩ := h
    rfl
  · obtain ⟨a, ps, rs, B, rfl, hS, hlen, hrat, hrs, hB0, hB1, hn, k⟩ := h
    refine ⟨_, (pss_cons (ps_set (i := 1) sc_common.nd rfl (by first | exact Or.inl rfl | exact Or.inr rfl) pe_int)
(pss_cons (ps_for PassesOwn.never rfl (pi_list (pv 0)) (pg_name (i := 2) sc_common.nd rfl (by first | exact Or.inl rfl | exact Or.inr rfl))
  (pss_one (ps_set (i := 1) sc_common.nd rfl (by first | exact Or.inl rfl | exact Or.inr rfl) (pe_callBfun cr_lcm (by rfl) T.f_lcm (pa_cons (pv 1) (pa_cons (pe_fld (pv 2) rfl) pa_nil))))))
(pss_one (ps_ret (pe_tup (pa_cons (pe_lc (own := [("ratio", 2)]) (g := gName 2) (tt := tYes) rfl sc_common.nd (pi_list (pv 0)) (blkOk_by (N := ["ratios", "den", "ratio"]) (sc := fnScope s_common) (by decide +kernel)) (fun _ _ _ _ _ => pg_name (i := 2) sc_common.nd rfl (Or.inl rfl)) (fun _ _ _ _ _ => pts_nil) (fun _ _ _ _ _ => (pe_op op_mulO (pe_fldK (K := K) (pv 2) rfl) (pe_op op_fdivG (pv 1) (pe_fldK (K := K) (pv 2) rfl))))) (pa_cons (pv 1) pa_nil))))))), ?_⟩
    have bound : ∀ i, comD (rs.take i) < 2 ^ 1800 := fun i => Nat.lt_of_le_of_lt (Nat.le_of_dvd hB0 (comD_of fun r hr => (hrs r (List.mem_of_mem_take hr)).2.1)) hB1
    have big : ∀ {n : Nat}, n < 2 ^ 1800 → n < 2 ^ 6000 := fun h => Nat.lt_trans h (Nat.pow_lt_pow_right (by decide) (by decide))
    have rbound : ∀ r ∈ rs, r.2.natAbs < 2 ^ 1800 := fun r hr => Nat.lt_of_le_of_lt (Nat.le_of_dvd hB0 (hrs r hr).2.1) hB1
    refine ⟨_, rfl, a, rfl, ⟨_, hS⟩, for_list (K := K) (a := a) (xs := ps.map V.ref) (fun i σ H' => H' = H ∧ ∃ o2, σ = [some (.ref a), some (.int ((comD (rs.take i) : Nat) : Int)), o2])
      ⟨rfl, none, rfl⟩ (fun i σ H' _ ⟨e, _⟩ => by rw [e]; exact hS) ?_ ?_⟩
    · rintro i x σ H' hi ⟨rfl, o2, rfl⟩
      obtain ⟨p, hp, rfl⟩ : ∃ p, ps[i]? = some p ∧ x = V.ref p := by
        rw [List.getElem?_map] at hi
        cases e : ps[i]? with
        | none => rw [e] at hi; cases hi
        | some p => rw [e] at hi; exact ⟨p, rfl, (Option.some.inj hi).symm⟩
      have hil : i < rs.length := by have := (List.getElem?_eq_some_iff.mp hp).1; omega
      have hr : rs[i]? = some rs[i] := List.getElem?_eq_getElem hil
      obtain ⟨dx, hpx⟩ := hrat i p _ hp hr
      have hm := List.getElem_mem hil
      refine ⟨_, rfl, _, rfl, p, C, dx, _, _, rfl, hpx, T.cl_Ratio, T.a_Ratio_den, rf_den _ _, _, _, rfl, big (by rw [Int.natAbs_natCast]; exact bound i), big (rbound _ hm), ?_⟩
      refine ⟨rfl, some (.ref p), ?_⟩
      have e1 : rs.take (i + 1) = rs.take i ++ [rs[i]] := by rw [List.take_add_one, hr]; rfl
      rw [e1, comD_snoc]
      rfl
    · rintro σ H0 ⟨rfl, o2, rfl⟩
      have et : rs.take (ps.map V.ref).length = rs := by rw [List.length_map, hlen, List.take_length]
      rw [et]
      have hD := bound rs.length
      rw [List.take_length] at hD
      refine ⟨_, rfl, a, rfl, ⟨_, hS⟩, fun L hL => ?_⟩
      refine lc_list (K := K) (a := a) (xs := ps.map V.ref) (fun i H' => H' L = some (.lst (((comN rs).take i).map V.int)) ∧ Keep [] H0 H')
        ⟨upd_same, Keep.new hL⟩ (fun i H' _ ⟨_, kk⟩ => kk.seqL hS (by simp)) ?_ ?_
      · rintro i x H' hi ⟨hDL, kk⟩
        obtain ⟨p, hp, rfl⟩ : ∃ p, ps[i]? = some p ∧ x = V.ref p := by
          rw [List.getElem?_map] at hi
          cases e : ps[i]? with
          | none => rw [e] at hi; cases hi
          | some p => rw [e] at hi; exact ⟨p, rfl, (Option.some.inj hi).symm⟩
        have hil : i < rs.length := by have := (List.getElem?_eq_some_iff.mp hp).1; omega
        have hr : rs[i]? = some rs[i] := List.getElem?_eq_getElem hil
        obtain ⟨dx, hpx⟩ := (hrat i p _ hp hr).keep0 kk
        have hm := List.getElem_mem hil
        obtain ⟨hp0, hpd, hpn⟩ := hrs _ hm
        have hfd : ((((comD rs : Nat) : Int).fdiv rs[i].2)).natAbs < 2 ^ 1800 := by
          rw [Int.fdiv_eq_ediv_of_nonneg _ (by omega)]
          refine Nat.lt_of_le_of_lt (Int.natAbs_ediv_le_natAbs _ _) ?_
          rw [Int.natAbs_natCast]; exact hD
        have cd : CDivG ((comD rs : Nat) : Int) rs[i].2 := ⟨by omega, Nat.lt_trans (log2_lt9 (rbound _ hm) (by decide)) (by decide)⟩
        have cm : IntMulOk rs[i].1 (((comD rs : Nat) : Int).fdiv rs[i].2) := IntMulOk.of_le (m := 300) (n := 1800) (intBits_le_iff.mpr hpn) (intBits_le_iff.mpr hfd) (by decide)
        refine ⟨rfl, yes_then ⟨_, rfl, p, C, dx, _, _, rfl, hpx, T.cl_Ratio, T.a_Ratio_num, rf_num _ _, _, rfl, _, rfl, p, C, dx, _, _, rfl, hpx, T.cl_Ratio, T.a_Ratio_den, rf_den _ _, _, _, rfl, rfl, cd, _, _, rfl, rfl, cm, ?_⟩⟩
        refine ⟨_, hDL, by rw [List.length_map, List.length_take]; exact smallL (by omega), ?_, kk.then_own hL⟩
        have e1 : (comN rs)[i]? = some (rs[i].1 * (((comD rs : Nat) : Int).fdiv rs[i].2)) := by unfold comN; rw [List.getElem?_map, hr]; rfl
        rw [List.take_add_one, e1, List.map_append]
        exact upd_same
      · rintro H' ⟨hDL, kk⟩
        have e2 : (comN rs).take (ps.map V.ref).length = comN rs := by
          refine List.take_of_length_le ?_
          unfold comN; rw [List.length_map, List.length_map, hlen]; exact Nat.le_refl _
        rw [e2] at hDL
        refine ⟨_, rfl, by show 2 ≤ sizeLine; decide, fun t ht => ?_⟩
        exact k L t _ hL (kk.then_new ht) (by rw [upd_ne (ne_of_none hDL ht)]; exact hDL) upd_same
end

/-- tuples stand -/
def TK (H H' : Hp) : Prop := ∀ b xs, H b = some (.tup xs) → H' b = some (.tup xs)
theorem TK.refl (H : Hp) : TK H H := fun _ _ h => h
theorem TK.trans {H H1 H2 : Hp} (a : TK H H1) (b : TK H1 H2) : TK H H2 := fun c xs h => b c xs (a c xs h)
theorem TK.new {H : Hp} {p : Addr} {o : HO} (h : H p = none) : TK H (upd H p o) := fun b xs q => by rw [upd_ne (ne_of_none q h)]; exact q
theorem TK.lst {H : Hp} {p : Addr} {o : HO} {ys : List V} (h : H p = some (.lst ys)) : TK H (upd H p o) := fun b xs q => by
  rw [upd_ne (ne_of q h (by intro z; cases z))]; exact q
theorem Keep.tk {H H' : Hp} (k : Keep [] H H') : TK H H' := fun b xs q => k b _ q (by simp)
theorem Keep.tk1 {H H' : Hp} {p : Addr} {ys : List V} (k : Keep [p] H H') (h : H p = some (.lst ys)) : TK H H' := fun b xs q => k b _ q (by
  have := ne_of q h (by intro z; cases z)
  simpa using this)

def M60 : Nat := 9690712164777231700912800
theorem m60 : ∀ d, d < 61 → 0 < d → d ∣ M60 := by decide +kernel
theorem p59 : (10 : Int) ^ (Int.toNat 59) = 100000000000000000000000000000000000000000000000000000000000 := by decide +kernel
theorem p60 : (10 : Int) ^ (Int.toNat 60) = 1000000000000000000000000000000000000000000000000000000000000 := by decide +kernel
theorem t250 : (2 : Nat) ^ 250 = 1809251394333065553493296640760748560207343510400633813116524750123642650624 := by decide +kernel
theorem q60 : (10 : Nat) ^ 60 = 1000000000000000000000000000000000000000000000000000000000000 := by decide +kernel
theorem capB : M60 * 10 ^ 480 < 2 ^ 1800 := by decide +kernel
/-- the terms so far, g of them great -/
def TOk (ts : List Rt) (g : Nat) : Prop := ∃ G : Nat, 0 < G ∧ G ≤ 10 ^ (60 * g) ∧ ∀ t ∈ ts, 0 < t.2 ∧ t.2.natAbs ∣ M60 * G ∧ t.1.natAbs < 2 ^ 250
theorem TOk.small {ts : List Rt} {g : Nat} (h : TOk ts g) {n d : Int} (hd0 : 0 < d) (hd1 : d ≤ 60) (hn : n.natAbs < 2 ^ 250) : TOk (ts ++ [(n, d)]) g := by
  obtain ⟨G, h0, h1, h2⟩ := h
  refine ⟨G, h0, h1, fun t ht => ?_⟩
  rcases List.mem_append.mp ht with q | q
  · exact h2 t q
  · rw [List.mem_singleton.mp q]
    exact ⟨hd0, Nat.dvd_trans (m60 d.natAbs (by omega) (by omega)) (Nat.dvd_mul_right _ _), hn⟩
theorem TOk.great {ts : List Rt} {g : Nat} (h : TOk ts g) {n d : Int} (hd0 : 0 < d) (hd1 : d.natAbs ≤ 10 ^ 60) (hn : n.natAbs < 2 ^ 250) : TOk (ts ++ [(n, d)]) (g + 1) := by
  obtain ⟨G, h0, h1, h2⟩ := h
  refine ⟨G * d.natAbs, Nat.mul_pos h0 (by omega), ?_, fun t ht => ?_⟩
  · rw [Nat.mul_add, Nat.mul_one, Nat.pow_add]
    exact Nat.mul_le_mul h1 hd1
  · rcases List.mem_append.mp ht with q | q
    · obtain ⟨a, b, c⟩ := h2 t q
      exact ⟨a, by rw [← Nat.mul_assoc]; exact Nat.dvd_trans b (Nat.dvd_mul_right _ _), c⟩
    · rw [List.mem_singleton.mp q]
      exact ⟨hd0, by rw [← Nat.mul_assoc]; exact Nat.dvd_mul_left _ _, hn⟩
def redR (t : Rt) : Rt := (redN t.1 t.2, redD t.1 t.2)
theorem TOk.bound {ts : List Rt} {g : Nat} (h : TOk ts g) (hg : g ≤ 8) : ∃ B, 0 < B ∧ B < 2 ^ 1800 ∧ ∀ t ∈ ts, 0 < t.2 ∧ t.2.natAbs ∣ B ∧ t.1.natAbs < 2 ^ 250 := by
  obtain ⟨G, h0, h1, h2⟩ := h
  refine ⟨M60 * G, Nat.mul_pos (by decide) h0, ?_, h2⟩
  refine Nat.lt_of_le_of_lt (Nat.mul_le_mul_left _ (Nat.le_trans h1 (Nat.pow_le_pow_right (by decide) (show 60 * g ≤ 480 by omega)))) capB
/-! the plain law: the numbers and the denominator have no common divisor -/
theorem gcd_all {rs : List Rt} (h0 : ∀ r ∈ rs, 0 < r.2 ∧ Nat.gcd r.1.natAbs r.2.natAbs = 1) {g : Nat} (hg : g ∣ comD rs) (hn : ∀ r ∈ rs, g ∣ (r.1 * ((comD rs : Nat) : Int).fdiv r.2).natAbs) (hD : 0 < comD rs) : g = 1 := by
  obtain ⟨c, hc⟩ := hg
  have hc0 : 0 < c := by
    rcases Nat.eq_zero_or_pos c with q | q
    · subst q; omega
    · exact q
  have hdvd : comD rs ∣ c := comD_of fun r hr => by
    obtain ⟨r0, r1⟩ := h0 r hr
    obtain ⟨e, he⟩ := comD_mem hr
    have hfd : ((comD rs : Nat) : Int).fdiv r.2 = (e : Int) := by
      refine fdiv_of_mul (by omega) ?_
      rw [he, Int.natCast_mul, Int.natAbs_of_nonneg (by omega)]
    have hge : g ∣ e := by
      have h1 : g ∣ r.1.natAbs * e := by
        have := hn r hr
        rw [hfd, Int.natAbs_mul, Int.natAbs_natCast] at this
        exact this
      have h2 : g ∣ r.2.natAbs * e := by rw [← he]; exact ⟨c, hc⟩
      have h3 := Nat.dvd_gcd h1 h2
      rw [Nat.gcd_mul_right, r1, Nat.one_mul] at h3
      exact h3
    obtain ⟨e', he'⟩ := hge
    have hg0 : 0 < g := by
      rcases Nat.eq_zero_or_pos g with q | q
      · subst q; simp at hc; omega
      · exact q
    refine ⟨e', Nat.eq_of_mul_eq_mul_left hg0 ?_⟩
    rw [← hc, he, he']
    rw [← Nat.mul_assoc, ← Nat.mul_assoc, Nat.mul_comm r.2.natAbs g]
  have hle := Nat.le_of_dvd hc0 hdvd
  rw [hc] at hle
  have hg0 : 0 < g := by
    rcases Nat.eq_zero_or_pos g with q | q
    · subst q; simp at hc; omega
    · exact q
  have : g * c ≤ 1 * c := by omega
  have := Nat.le_of_mul_le_mul_right this hc0
  omega
/-- the numbers over the denominator are the ratios -/
theorem cross_all {t : Rt} (ht : t.2 ≠ 0) {D : Nat} (hd : (redD t.1 t.2).natAbs ∣ D) : (redN t.1 t.2 * ((D : Nat) : Int).fdiv (redD t.1 t.2)) * t.2 = t.1 * (D : Int) := by
  obtain ⟨e, he⟩ := hd
  have hp := redD_pos (n := t.1) ht
  have hfd : ((D : Nat) : Int).fdiv (redD t.1 t.2) = (e : Int) := by
    refine fdiv_of_mul (by omega) ?_
    rw [he, Int.natCast_mul, Int.natAbs_of_nonneg (by omega)]
  rw [hfd, he, Int.natCast_mul, Int.natAbs_of_nonneg (by omega)]
  calc redN t.1 t.2 * (e : Int) * t.2 = redN t.1 t.2 * t.2 * (e : Int) := by rw [Int.mul_assoc, Int.mul_comm (e : Int), ← Int.mul_assoc]
    _ = t.1 * redD t.1 t.2 * (e : Int) := by rw [red_cross ht]
    _ = t.1 * (redD t.1 t.2 * (e : Int)) := Int.mul_assoc _ _ _
/-- the law's common divisor, turn by turn -/
def gcdUp (D : Nat) (l : List Int) : Nat := l.foldl (fun g z => Nat.gcd g z.natAbs) D
theorem gcdUp_dvd : ∀ (l : List Int) (D : Nat), gcdUp D l ∣ D ∧ ∀ z ∈ l, gcdUp D l ∣ z.natAbs
  | [], D => ⟨Nat.dvd_refl D, fun _ h => by cases h⟩
  | a :: l, D => by
    obtain ⟨h1, h2⟩ := gcdUp_dvd l (Nat.gcd D a.natAbs)
    refine ⟨Nat.dvd_trans h1 (Nat.gcd_dvd_left _ _), fun z hz => ?_⟩
    rcases List.mem_cons.mp hz with e | e
    · subst e; exact Nat.dvd_trans h1 (Nat.gcd_dvd_right _ _)
    · exact h2 z e
theorem gcdUp_snoc (D : Nat) (l : List Int) (z : Int) : gcdUp D (l ++ [z]) = Nat.gcd (gcdUp D l) z.natAbs := by unfold gcdUp; rw [List.foldl_append]; rfl
def sp_law (K : PySem.W.Frag) : Sp := fun vs H Q _ => ∃ (a : Addr) (ns : List Int), vs = [.ref a] ∧ SqL K H a (ns.map V.int) ∧ ns.length ≤ 63 ∧ (∀ z ∈ ns, Builtin.Int.intBits z ≤ 1048576) ∧ ∀ H', Q (.bl true) H'
section
variable {P : Program} {w : World} {K : PySem.W.Frag} {mg : Str → Option Value} {base : Heap} {C : Addr}
theorem ok_law {f : Addr} {fd : FuncData} (F : C8.Fun K "law" "law" s_law f fd) (T : Txt K mg C) (c_Ratio : C8.Mak P w K mg base 1 "Ratio" C (sp_rat C) []) (c_common : C8.Cal P w K mg base 1 "common" (sp_common K C) [])
    (c_law_is_integer : C8.Cal P w K mg base 1 "_law_is_integer" sp_law_is_integer []) (c_law_gcd : C8.Cal P w K mg base 1 "_law_gcd" sp_law_gcd []) (c_law_is_ratio : C8.Cal P w K mg base 2 "_law_is_ratio" (sp_law_is_ratio C) [])
    (c_law_great : C8.Cal P w K mg base 1 "_law_great" sp_law_great []) : FnOk P w K mg base C8.CX0 3 f fd ["script"] (sp_law K) := by
  refine C8.fn0 F sc_law (fun vs H Q E h => ?_) (fun cdv A outer s H vs Q E hr h => ?_)
  · obtain ⟨a, ns, rfl, _⟩ := h
    rfl
  · obtain ⟨a, ns, rfl, hS, hn, hbits, k⟩ := h
    refine ⟨_, (pss_cons (ps_set (i := 1) sc_law.nd rfl (by first | exact Or.inl rfl | exact Or.inr rfl) (pe_lst pa_nil))
(pss_cons (ps_set (i := 2) sc_law.nd rfl (by first | exact Or.inl rfl | exact Or.inr rfl) pe_int)
(pss_cons (ps_for PassesOwn.never rfl (pi_list (pe_slice sl_list (pv 0) po_none (po_some pe_int))) (pg_name (i := 3) sc_law.nd rfl (by first | exact Or.inl rfl | exact Or.inr rfl))
  (pss_cons (ps_set (i := 4) sc_law.nd rfl (by first | exact Or.inl rfl | exact Or.inr rfl) (pe_op op_sub (pe_op op_mod (pe_op op_fdiv (pv 3) pe_int) pe_int) pe_int))
  (pss_cons (ps_set (i := 5) sc_law.nd rfl (by first | exact Or.inl rfl | exact Or.inr rfl) (pe_op op_add pe_int (pe_op op_mod (pe_callTy call_int1 (by rfl) T.n_int bo_int (pa_cons (pv 3) pa_nil)) pe_int)))
  (pss_cut (ps_if (PW.pt (pw_and (pt_cmpR op_eq (pe_op op_mod (pe_callTy call_int1 (by rfl) T.n_int bo_int (pa_cons (pv 3) pa_nil)) pe_int) pe_int (nomark _)) (pw_and1 (pt_cmpR op_lt (pv 2) pe_int (nomark _)))))
    (pss_cons (ps_set (i := 2) sc_law.nd rfl (by first | exact Or.inl rfl | exact Or.inr rfl) (pe_op op_add (pv 2) pe_int))
    (pss_cons (ps_set (i := 4) sc_law.nd rfl (by first | exact Or.inl rfl | exact Or.inr rfl) (pe_op op_sub (pe_c c_law_great hr (by first | exact Nat.le_refl _ | decide) rfl (pa_cons (pe_op op_fdiv (pv 3) pe_int) (pa_cons (pe_op op_mul pe_int (pe_op op_pow pe_int pe_int)) pa_nil))) (pe_op op_pow pe_int pe_int)))
    (pss_one (ps_set (i := 5) sc_law.nd rfl (by first | exact Or.inl rfl | exact Or.inr rfl) (pe_op op_add pe_int (pe_c c_law_great hr (by first | exact Nat.le_refl _ | decide) rfl (pa_cons (pv 3) (pa_cons (pe_op op_sub (pe_op op_pow pe_int pe_int) pe_int) pa_nil))))))))
    pss_nil)
  (pss_one (ps_expr (pe_bm PySem.F.plainAttrs_list PySem.F.slot_list_append PySem.F.type_list_append mt_append (pv 1) (pa_cons (pe_tup (pa_cons (pv 4) (pa_cons (pv 5) pa_nil))) pa_nil))))))))
(pss_cons (ps_setLc (i := 6) (own := [("term", 13)]) (g := gName 13) (tt := tYes) rfl sc_law.nd rfl rfl (sw_true rfl rfl rfl (by decide +kernel)) (pi_list (pv 1)) (blkOk_by (N := ["script", "terms", "great", "cell", "num", "den", "ratios", "actual", "part", "k", "numbers", "told", "again", "term"]) (sc := fnScope s_law) (by decide +kernel)) (fun _ _ _ _ _ => pg_name (i := 13) sc_law.nd rfl (Or.inl rfl)) (fun _ _ _ _ _ => pts_nil) (fun _ _ _ _ _ => (pe_mk c_Ratio hr (by first | exact Nat.le_refl _ | decide) rfl (pa_cons (pe_ix (ix_tupK (K := K)) (pv 13) pe_int (fun _ _ => rfl)) (pa_cons (pe_ix (ix_tupK (K := K)) (pv 13) pe_int (fun _ _ => rfl)) pa_nil)))))
(pss_cons (ps_set (i := 7) sc_law.nd rfl (by first | exact Or.inl rfl | exact Or.inr rfl) (pe_c c_common hr (by first | exact Nat.le_refl _ | decide) rfl (pa_cons (pv 6) pa_nil)))
(pss_cons (ps_if (PW.pt (pw_or (pt_not (pt_val (pe_callB call_isi (by rfl) T.n_isinstance bo_isinstance (pa_cons (pv 7) (pa_cons (pe_bltn (v := .ty "tuple") (by rfl) T.n_tuple bo_tuple rfl) pa_nil))))) (pw_or (pt_cmpR op_ne (pe_callB call_len_seq (by rfl) T.n_len bo_len (pa_cons (pv 7) pa_nil)) pe_int (nomark _)) (pw_or1 (pt_not (pt_val (pe_callB call_isi (by rfl) T.n_isinstance bo_isinstance (pa_cons (pe_ix ix_tup (pv 7) pe_int (fun _ _ => rfl)) (pa_cons (pe_bltn (v := .ty "list") (by rfl) T.n_list bo_list rfl) pa_nil)))))))))
  (pss_one (ps_ret pe_bl))
  pss_nil)
(pss_cons (ps_if (PW.pt (pw_or (pt_not (pt_val (pe_c c_law_is_integer hr (by first | exact Nat.le_refl _ | decide) rfl (pa_cons (pe_ix ix_tup (pv 7) pe_int (fun _ _ => rfl)) pa_nil)))) (pw_or (pt_cmpR op_lt (pe_ix ix_tup (pv 7) pe_int (fun _ _ => rfl)) pe_int (nomark _)) (pw_or1 (pt_cmpR op_ne (pe_callB call_len_seq (by rfl) T.n_len bo_len (pa_cons (pe_ix ix_tup (pv 7) pe_int (fun _ _ => rfl)) pa_nil)) (pe_callB call_len_seq (by rfl) T.n_len bo_len (pa_cons (pv 1) pa_nil)) (nomark _))))))
  (pss_one (ps_ret pe_bl))
  pss_nil)
(pss_cons (ps_set (i := 8) sc_law.nd rfl (by first | exact Or.inl rfl | exact Or.inr rfl) (pe_ix ix_tup (pv 7) pe_int (fun _ _ => rfl)))
(pss_cons (ps_for PassesOwn.never rfl (pi_range1 (by rfl) T.n_range (pa_cons (pe_callB call_len_seq (by rfl) T.n_len bo_len (pa_cons (pv 1) pa_nil)) pa_nil)) (pg_name (i := 9) sc_law.nd rfl (by first | exact Or.inl rfl | exact Or.inr rfl))
  (pss_cons (ps_if (pt_not (pt_val (pe_c c_law_is_integer hr (by first | exact Nat.le_refl _ | decide) rfl (pa_cons (pe_ix ix_list (pe_ix ix_tup (pv 7) pe_int (fun _ _ => rfl)) (pv 9) (fun _ _ => rfl)) pa_nil))))
    (pss_one (ps_ret pe_bl))
    pss_nil)
  (pss_cons (ps_if (pt_cmpR op_ne (pe_op op_mulO (pe_ix ix_list (pe_ix ix_tup (pv 7) pe_int (fun _ _ => rfl)) (pv 9) (fun _ _ => rfl)) (pe_ix ix_tup (pe_ix ix_list (pv 1) (pv 9) (fun _ _ => rfl)) pe_int (fun _ _ => rfl))) (pe_op op_mulO (pe_ix ix_tup (pe_ix ix_list (pv 1) (pv 9) (fun _ _ => rfl)) pe_int (fun _ _ => rfl)) (pe_ix ix_tup (pv 7) pe_int (fun _ _ => rfl))) (nomark _))
    (pss_one (ps_ret pe_bl))
    pss_nil)
  (pss_one (ps_set (i := 8) sc_law.nd rfl (by first | exact Or.inl rfl | exact Or.inr rfl) (pe_c c_law_gcd hr (by first | exact Nat.le_refl _ | decide) rfl (pa_cons (pv 8) (pa_cons (pe_ix ix_list (pe_ix ix_tup (pv 7) pe_int (fun _ _ => rfl)) (pv 9) (fun _ _ => rfl)) pa_nil))))))))
(pss_cons (ps_if (PW.pt (pw_or (pt_cmpR op_ne (pv 8) pe_int (nomark _)) (pw_or1 (pt_cmpR op_ne (pe_callB call_len_seq (by rfl) T.n_len bo_len (pa_cons (pv 6) pa_nil)) (pe_callB call_len_seq (by rfl) T.n_len bo_len (pa_cons (pv 1) pa_nil)) (nomark _)))))
  (pss_one (ps_ret pe_bl))
  pss_nil)
(pss_cons (ps_set (i := 10) sc_law.nd rfl (by first | exact Or.inl rfl | exact Or.inr rfl) (pe_callTy call_list_of (by rfl) T.n_list bo_list (pa_cons (pe_ix ix_tup (pv 7) pe_int (fun _ _ => rfl)) pa_nil)))
(pss_cons (ps_set (i := 11) sc_law.nd rfl (by first | exact Or.inl rfl | exact Or.inr rfl) (pe_ix ix_tup (pv 7) pe_int (fun _ _ => rfl)))
(pss_cons (ps_expr (pe_bm PySem.F.plainAttrs_list PySem.F.slot_list_append PySem.F.type_list_append mt_append (pv 11) (pa_cons pe_int pa_nil)))
(pss_cons (ps_set (i := 12) sc_law.nd rfl (by first | exact Or.inl rfl | exact Or.inr rfl) (pe_c c_common hr (by first | exact Nat.le_refl _ | decide) rfl (pa_cons (pv 6) pa_nil)))
(pss_cons (ps_if (PW.pt (pw_or (pt_not (pt_val (pe_callB call_isi (by rfl) T.n_isinstance bo_isinstance (pa_cons (pv 12) (pa_cons (pe_bltn (v := .ty "tuple") (by rfl) T.n_tuple bo_tuple rfl) pa_nil))))) (pw_or (pt_cmpR op_ne (pe_callB call_len_seq (by rfl) T.n_len bo_len (pa_cons (pv 12) pa_nil)) pe_int (nomark _)) (pw_or (pt_cmpR (op_neD hr.units) (pe_ix ix_tup (pv 12) pe_int (fun _ _ => rfl)) (pv 10) (nomark _)) (pw_or1 (pt_cmpR op_ne (pe_ix ix_tup (pv 12) pe_int (fun _ _ => rfl)) (pe_ix ix_tup (pv 7) pe_int (fun _ _ => rfl)) (nomark _)))))))
  (pss_one (ps_ret pe_bl))
  pss_nil)
(pss_cons (ps_for PassesOwn.never rfl (pi_range1 (by rfl) T.n_range (pa_cons (pe_callB call_len_seq (by rfl) T.n_len bo_len (pa_cons (pv 1) pa_nil)) pa_nil)) (pg_name (i := 9) sc_law.nd rfl (by first | exact Or.inl rfl | exact Or.inr rfl))
  (pss_one (ps_if (pt_not (pt_val (pe_c c_law_is_ratio hr (by first | exact Nat.le_refl _ | decide) rfl (pa_cons (pe_ix ix_list (pv 6) (pv 9) (fun _ _ => rfl)) (pa_cons (pe_ix ix_tup (pe_ix ix_list (pv 1) (pv 9) (fun _ _ => rfl)) pe_int (fun _ _ => rfl)) (pa_cons (pe_ix ix_tup (pe_ix ix_list (pv 1) (pv 9) (fun _ _ => rfl)) pe_int (fun _ _ => rfl)) pa_nil))))))
    (pss_one (ps_ret pe_bl))
    pss_nil)))
(pss_one (ps_ret pe_bl)))))))))))))))))), ?_⟩
    refine ⟨by show 0 ≤ sizeLine; decide, fun M hM => ?_⟩
    have k0 : Keep [] H (upd H M (.lst [])) := Keep.new hM
    -- the slice
    refine ⟨_, rfl, 62, rfl, a, _, rfl, k0.seqL hS (by simp), fun sl nsl => ?_⟩
    have ecut : cutV (ns.map V.int) none (some (62 : Int)) = (ns.take 62).map V.int := by
      show ((ns.map V.int).drop (HT.sIx (ns.map V.int).length 0 none)).take (HT.sIx (ns.map V.int).length (ns.map V.int).length (some ((62 : Nat) : Int)) - HT.sIx (ns.map V.int).length 0 none) = _
      rw [HT.sIx_none, HT.sIx_nat, List.drop_zero, Nat.sub_zero, List.map_take]
      by_cases h62 : 62 ≤ (ns.map V.int).length
      · rw [Nat.min_eq_left h62]
      · rw [Nat.min_eq_right (by omega), List.take_length, List.take_of_length_le (by omega)]
    rw [ecut]
    have hMs : M ≠ sl := ne_of_none (H := upd H M (.lst [])) upd_same nsl
    have k1 : Keep [] H (upd (upd H M (.lst [])) sl (.lst ((ns.take 62).map V.int))) := k0.then_new nsl
    have hM0 : H M = none := hM
    -- the terms
    let Tups : List Addr → List Rt → Hp → Prop := fun as ts H' => as.length = ts.length ∧ ∀ (i : Nat) p t, as[i]? = some p → ts[i]? = some t → H' p = some (.tup [.int t.1, .int t.2])
    have tups_tk : ∀ {as ts H' H''}, Tups as ts H' → TK H' H'' → Tups as ts H'' := fun h kk => ⟨h.1, fun i p t h1 h2 => kk _ _ (h.2 i p t h1 h2)⟩
    let Frame : List (Option V) → L2.St → Prop := fun l σ => ∃ o3 o4 o5 : Option V, σ = [some (.ref a), some (.ref M), l.getD 0 none, o3, o4, o5] ++ List.replicate 8 none
    refine ⟨sl, rfl, ⟨_, SqL.of upd_same⟩, for_list (K := K) (a := sl) (xs := (ns.take 62).map V.int) (fun i σ H' => ∃ (ts : List Rt) (as : List Addr) (g : Nat) (o3 o4 o5 : Option V), σ = [some (.ref a), some (.ref M), some (.int (g : Int)), o3, o4, o5, none, none, none, none, none, none, none, none] ∧ ts.length = i ∧ g ≤ 8 ∧ TOk ts g ∧
        H' M = some (.lst (as.map V.ref)) ∧ Tups as ts H' ∧ Keep [] H H' ∧ H' sl = some (.lst ((ns.take 62).map V.int)))
      ⟨[], [], 0, none, none, none, rfl, rfl, by decide, ⟨1, by decide, by decide, fun _ z => by cases z⟩, by rw [upd_ne hMs]; exact upd_same, ⟨rfl, fun i p t z => by simp at z⟩, k1, upd_same⟩
      (fun i σ H' _ ⟨_, _, _, _, _, _, _, _, _, _, _, _, _, h⟩ => SqL.of h) ?_ ?_⟩
    · rintro i y σ H1 hi ⟨ts, as, g, o3, o4, o5, rfl, hts, hg, hT, h1, h2, h3, h4⟩
      have hin : i < 62 := by
        have := (List.getElem?_eq_some_iff.mp hi).1
        rw [List.length_map, List.length_take] at this; omega
      obtain ⟨z, hz, rfl⟩ := ints_get hi
      have hzm : z ∈ ns := List.mem_of_mem_take (List.mem_of_getElem? hz)
      refine ⟨_, rfl, _, _, rfl, rfl, ⟨by decide, by decide⟩, _, _, rfl, rfl, (by show (0 : Int) < _; decide), _, _, rfl, rfl, ?_⟩
      refine ⟨_, rfl, .inl ⟨_, rfl, _, _, rfl, rfl, (by show (0 : Int) < _; decide), _, _, rfl, rfl, ?_⟩⟩
      -- num, den and great behind the test
      refine ⟨fun σ H' => H' = H1 ∧ ∃ (n d : Int) (g' : Nat), σ = [some (.ref a), some (.ref M), some (.int (g' : Int)), some (.int z), some (.int n), some (.int d), none, none, none, none, none, none, none, none] ∧ g' ≤ 8 ∧ TOk (ts ++ [(n, d)]) g', ?_, ?_⟩
      · have plain : ∃ (n d : Int) (g' : Nat), ([some (.ref a), some (.ref M), some (.int (g : Int)), some (.int z), some (.int (z / 60 % 201 - 100)), some (.int (1 + z % 60)), none, none, none, none, none, none, none, none] : List (Option V)) = [some (.ref a), some (.ref M), some (.int (g' : Int)), some (.int z), some (.int n), some (.int d), none, none, none, none, none, none, none, none] ∧ g' ≤ 8 ∧ TOk (ts ++ [(n, d)]) g' :=
          ⟨_, _, g, rfl, hg, hT.small (by omega) (by omega) (by rw [t250]; omega)⟩
        refine ⟨_, rfl, .inl ⟨_, rfl, _, _, rfl, rfl, (by show (0 : Int) < _; decide), rfl, _, rfl, iteD (fun _ => ?_) (fun _ => ⟨rfl, plain⟩)⟩⟩
        refine ⟨_, rfl, _, _, rfl, rfl, _, rfl, iteD (fun h8 => ?_) (fun _ => ⟨rfl, plain⟩)⟩
        refine ⟨_, rfl, _, _, rfl, rfl, ?_⟩
        have hb7 : Builtin.Int.intBits (z / 7) ≤ 1048576 := intBits_le_of_natAbs (Int.natAbs_ediv_le_natAbs _ _) (hbits z hzm)
        refine ⟨_, rfl, _, _, rfl, rfl, ⟨by decide, by decide⟩, _, _, rfl, rfl, ⟨by decide, by decide, by decide⟩, _, _, rfl, rfl, .inl ⟨by decide, by decide⟩, _, _, rfl, hb7, by decide +kernel, fun u u0 u1 => ?_⟩
        refine ⟨_, _, rfl, rfl, ⟨by decide, by decide, by decide⟩, _, _, rfl, rfl, ?_⟩
        refine ⟨_, rfl, _, _, rfl, rfl, ⟨by decide, by decide, by decide⟩, _, _, rfl, rfl, _, _, rfl, hbits z hzm, by decide +kernel, fun v v0 v1 => ?_⟩
        refine ⟨_, _, rfl, rfl, rfl, u - 10 ^ (Int.toNat 59), 1 + v, g + 1, ?_, by omega, ?_⟩
        · have : ((g + 1 : Nat) : Int) = (g : Int) + 1 := by omega
          rw [this]; rfl
        · have u1' : u < 2 * 10 ^ (Int.toNat 59) := u1
          have v1' : v < 10 ^ (Int.toNat 60) - 1 := v1
          rw [p59] at u1' ⊢
          rw [p60] at v1'
          exact hT.great (by omega) (by rw [q60]; omega) (by rw [t250]; omega)
      · rintro σ H2 ⟨rfl, n, d, g', rfl, hg', hT'⟩
        have hal : as.length ≤ 62 := by rw [h2.1, hts]; omega
        refine ⟨_, rfl, .inl ⟨rfl, _, SqL.of h1⟩, _, rfl, _, rfl, by show 2 ≤ sizeLine; decide, fun tt ntt => ?_⟩
        have hM2 : upd H2 tt (.tup [.int n, .int d]) M = some (.lst (as.map V.ref)) := (Keep.new (W := []) ntt) _ _ h1 (by simp)
        refine ⟨_, _, _, rfl, rfl, hM2, by rw [List.length_map]; exact smallL (by omega), ?_⟩
        have tk1 : TK H2 (upd (upd H2 tt (.tup [.int n, .int d])) M (.lst (as.map V.ref ++ [.ref tt]))) := (TK.new ntt).trans (TK.lst hM2)
        have nsM : sl ≠ M := hMs.symm
        have nst : sl ≠ tt := ne_of_none h4 ntt
        have ntM : tt ≠ M := (ne_of_none h1 ntt).symm
        refine ⟨ts ++ [(n, d)], as ++ [tt], g', _, _, _, rfl, by rw [List.length_append, hts]; rfl, hg', hT', by rw [List.map_append]; exact upd_same, ?_, (h3.then_new ntt).then_own hM0, by rw [upd_ne nsM, upd_ne nst]; exact h4⟩
        refine ⟨by rw [List.length_append, List.length_append, h2.1]; rfl, fun j p t hp ht => ?_⟩
        by_cases hj : j < as.length
        · rw [List.getElem?_append_left hj] at hp
          rw [List.getElem?_append_left (by rw [← h2.1]; exact hj)] at ht
          exact tk1 _ _ (h2.2 j p t hp ht)
        · have hj' : j = as.length := by
            have := (List.getElem?_eq_some_iff.mp hp).1
            rw [List.length_append] at this; simp at this; omega
          subst hj'
          rw [List.getElem?_append_right (Nat.le_refl _), Nat.sub_self] at hp
          rw [List.getElem?_append_right (by rw [h2.1]; exact Nat.le_refl _), h2.1, Nat.sub_self] at ht
          cases hp; cases ht
          rw [upd_ne ntM]; exact upd_same
    · rintro σ H1 ⟨ts, as, g, o3, o4, o5, rfl, hts, hg, hT, h1, h2, h3, h4⟩
      obtain ⟨B, hB0, hB1, hB⟩ := hT.bound hg
      have hn62 : ts.length ≤ 62 := by rw [hts, List.length_map, List.length_take]; omega
      have hlen : as.length = ts.length := h2.1
      have tlt : ∀ t ∈ ts, t.2.natAbs < 2 ^ 1800 := fun t ht => Nat.lt_of_le_of_lt (Nat.le_of_dvd hB0 (hB t ht).2.1) hB1
      have e1800 : (2 : Nat) ^ 1800 < 2 ^ 1900 := Nat.pow_lt_pow_right (by decide) (by decide)
      have e250 : (2 : Nat) ^ 250 < 2 ^ 1900 := Nat.pow_lt_pow_right (by decide) (by decide)
      -- ratios = [..]
      refine ⟨_, rfl, M, rfl, ⟨_, SqL.of h1⟩, fun R hR => ?_⟩
      have hRM : M ≠ R := ne_of_none h1 hR
      refine lc_list (K := K) (a := M) (xs := as.map V.ref) (fun i H' => ∃ ps : List Addr, ps.length = i ∧ H' R = some (.lst (ps.map V.ref)) ∧ Keep [] H1 H' ∧ ∀ (j : Nat) p t, ps[j]? = some p → ts[j]? = some t → RatAt C H' p (redN t.1 t.2) (redD t.1 t.2))
        ⟨[], rfl, upd_same, Keep.new hR, fun j p t z => by simp at z⟩ (fun i H' _ ⟨_, _, _, kk, _⟩ => SqL.of (kk _ _ h1 (by simp))) ?_ ?_
      · rintro i x H2 hi ⟨ps, hps, g1, g2, g3⟩
        obtain ⟨tp, htp, rfl⟩ : ∃ p, as[i]? = some p ∧ x = V.ref p := by
          rw [List.getElem?_map] at hi
          cases e : as[i]? with
          | none => rw [e] at hi; cases hi
          | some p => rw [e] at hi; exact ⟨p, rfl, (Option.some.inj hi).symm⟩
        have hil : i < ts.length := by have := (List.getElem?_eq_some_iff.mp htp).1; omega
        have ht : ts[i]? = some ts[i] := List.getElem?_eq_getElem hil
        have htm := List.getElem_mem hil
        obtain ⟨hd0, hdB, hnB⟩ := hB _ htm
        have htt := g2 _ _ (h2.2 i tp _ htp ht) (by simp)
        refine ⟨rfl, yes_then ⟨_, rfl, _, _, _, _, rfl, rfl, SqT.of htt, rfl, _, rfl, _, _, _, _, rfl, rfl, SqT.of htt, rfl, fun x dx nx ndx nex => ?_⟩⟩
        refine ⟨x, dx, _, _, rfl, by omega, Nat.lt_trans (tlt _ htm) (Nat.pow_lt_pow_right (by decide) (by decide)), upd_same, fun H3 K3 hx3 => ⟨rfl, ?_⟩⟩
        have kk : Keep [] H2 H3 := keep_made nx ndx K3
        have gR := kk _ _ g1 (by simp)
        refine ⟨_, gR, by rw [List.length_map]; exact smallL (by omega), ps ++ [x], by rw [List.length_append, hps]; rfl, by rw [List.map_append]; exact upd_same, (g2.trans kk).then_own hR, fun j p t hp hj => ?_⟩
        by_cases hjl : j < ps.length
        · rw [List.getElem?_append_left hjl] at hp
          obtain ⟨dy, hy⟩ := (g3 j p t hp hj).keep0 kk
          exact ⟨dy, by rw [upd_ne (ne_of hy gR (by intro z; cases z))]; exact hy⟩
        · have hj' : j = ps.length := by
            have := (List.getElem?_eq_some_iff.mp hp).1
            rw [List.length_append] at this; simp at this; omega
          subst hj'
          rw [List.getElem?_append_right (Nat.le_refl _), Nat.sub_self] at hp
          cases hp
          rw [hps, ht] at hj
          cases hj
          exact ⟨dx, by rw [upd_ne (ne_of hx3 gR (by intro z; cases z))]; exact hx3⟩
      · rintro H2 ⟨ps, hps, g1, g2, g3⟩
        rw [List.length_map, hlen] at hps
        have hM2 := g2 _ _ h1 (by simp)
        have hT2 : Tups as ts H2 := tups_tk h2 g2.tk
        have hrat : ∀ {H' : Hp}, Keep [] H2 H' → ∀ (j : Nat) p r, ps[j]? = some p → (ts.map redR)[j]? = some r → RatAt C H' p r.1 r.2 := fun {H'} kk j p r hp hr => by
          rw [List.getElem?_map] at hr
          cases e : ts[j]? with
          | none => rw [e] at hr; cases hr
          | some t => rw [e] at hr; cases hr; exact (g3 j p t hp e).keep0 kk
        have hrs : ∀ r ∈ ts.map redR, 0 < r.2 ∧ r.2.natAbs ∣ B ∧ r.1.natAbs < 2 ^ 300 := fun r hr => by
          obtain ⟨t, ht, rfl⟩ := List.mem_map.mp hr
          obtain ⟨hd0, hdB, hnB⟩ := hB _ ht
          exact ⟨redD_pos (by omega), Nat.dvd_trans (Int.natAbs_dvd_natAbs.mpr (red_dvd (by omega))) hdB, Nat.lt_of_le_of_lt (red_abs_n (by omega)) (Nat.lt_trans hnB (Nat.pow_lt_pow_right (by decide) (by decide)))⟩
        have hcop : ∀ r ∈ ts.map redR, 0 < r.2 ∧ Nat.gcd r.1.natAbs r.2.natAbs = 1 := fun r hr => by
          obtain ⟨t, ht, rfl⟩ := List.mem_map.mp hr
          obtain ⟨hd0, _, _⟩ := hB _ ht
          exact ⟨redD_pos (by omega), red_gcd (by omega)⟩
        have hDpos : 0 < comD (ts.map redR) := Nat.pos_of_ne_zero fun z => by
          have := comD_of (rs := ts.map redR) fun r hr => (hrs r hr).2.1
          rw [z] at this
          have := Nat.eq_zero_of_zero_dvd this
          omega
        have hDlt : comD (ts.map redR) < 2 ^ 1800 := Nat.lt_of_le_of_lt (Nat.le_of_dvd hB0 (comD_of fun r hr => (hrs r hr).2.1)) hB1
        generalize hDD : comD (ts.map redR) = D at hDpos hDlt
        -- actual = common(ratios)
        refine ⟨_, rfl, R, ps, ts.map redR, B, rfl, SqL.of g1, by rw [List.length_map, hps], hrat (Keep.refl _ _), hrs, hB0, hB1, by rw [List.length_map]; omega, fun l t H3 nl K3 hl ht => ?_⟩
        rw [hDD] at ht
        have hN : (comN (ts.map redR)).length = ts.length := by unfold comN; rw [List.length_map, List.length_map]
        have hM3 := K3 _ _ hM2 (by simp)
        have hR3 := K3 _ _ g1 (by simp)
        have hT3 : Tups as ts H3 := tups_tk hT2 K3.tk
        refine ⟨_, rfl, _, _, _, _, _, rfl, .ty _, .base (.tup ht), kTT, _, rfl, iteF ?_⟩
        refine ⟨_, rfl, _, _, rfl, .inr (SqT.of ht), rfl, _, rfl, iteNF rfl ?_⟩
        refine ⟨_, rfl, _, _, _, _, rfl, rfl, SqT.of ht, rfl, _, _, _, _, _, rfl, .ty _, .base (.lst hl), kLL, _, rfl, iteF ?_⟩
        refine ⟨_, rfl, _, _, _, _, rfl, rfl, SqT.of ht, rfl, _, rfl, _, rfl, iteF ?_⟩
        refine ⟨_, rfl, _, _, _, _, rfl, rfl, SqT.of ht, rfl, _, _, rfl, rfl, _, rfl, iteDF (by omega) ?_⟩
        refine ⟨_, rfl, _, _, _, _, rfl, rfl, SqT.of ht, rfl, _, _, rfl, .inl (SqL.of hl), _, rfl, _, _, rfl, .inl (SqL.of hM3), rfl, _, rfl, iteNF (by rw [List.length_map, List.length_map, hN, hlen]) ?_⟩
        refine ⟨_, rfl, _, _, _, _, rfl, rfl, SqT.of ht, rfl, ?_⟩
        -- the loop over the terms
        have item : ∀ i, i < ts.length → ∃ (t : Rt) (tp : Addr) (c : Int), ts[i]? = some t ∧ as[i]? = some tp ∧ (comN (ts.map redR))[i]? = some c ∧ c * t.2 = t.1 * (D : Int) ∧ c.natAbs < 2 ^ 2050 ∧ t ∈ ts := fun i hi => by
          have ht : ts[i]? = some ts[i] := List.getElem?_eq_getElem hi
          have htm := List.getElem_mem hi
          obtain ⟨hd0, hdB, hnB⟩ := hB _ htm
          have hmem : (redD ts[i].1 ts[i].2).natAbs ∣ D := by
            rw [← hDD]; exact comD_mem (List.mem_map.mpr ⟨ts[i], htm, rfl⟩)
          have hcr := cross_all (t := ts[i]) (by omega) hmem
          refine ⟨ts[i], as[i]'(by omega), redN ts[i].1 ts[i].2 * ((D : Nat) : Int).fdiv (redD ts[i].1 ts[i].2), ht, List.getElem?_eq_getElem _, ?_, hcr, ?_, htm⟩
          · unfold comN; rw [List.getElem?_map, List.getElem?_map, ht, hDD]; rfl
          · have ha := congrArg Int.natAbs hcr
            rw [Int.natAbs_mul, Int.natAbs_mul ts[i].1, Int.natAbs_natCast] at ha
            have h2 : ts[i].1.natAbs * D < 2 ^ 250 * 2 ^ 1800 := Nat.mul_lt_mul'' hnB hDlt
            have e : (2 : Nat) ^ 2050 = 2 ^ 250 * 2 ^ 1800 := by rw [← Nat.pow_add]
            rw [e]
            refine Nat.lt_of_le_of_lt (Nat.le_mul_of_pos_right _ (show 0 < ts[i].2.natAbs by omega)) ?_
            rw [ha]; exact h2
        refine ⟨_, rfl, _, _, rfl, .inl (SqL.of hM3), _, rfl, by omega, by rw [List.length_map]; omega, for_range (lo := 0) (n := (as.map V.ref).length) (fun i σ H' => H' = H3 ∧ ∃ kv, σ = [some (.ref a), some (.ref M), some (.int (g : Int)), o3, o4, o5, some (.ref R), some (.ref t), some (.int ((gcdUp D ((comN (ts.map redR)).take i) : Nat) : Int)), kv, none, none, none, none])
          ⟨rfl, none, rfl⟩ ?_ ?_⟩
        · rintro i σ H0 hi ⟨rfl, kv, rfl⟩
          rw [List.length_map, hlen] at hi
          obtain ⟨tm, tp, c, ht1, ht2, ht3, ht4, ht5, ht6⟩ := item i hi
          obtain ⟨hd0, hdB, hnB⟩ := hB _ ht6
          have e0 : (0 : Int) + (i : Int) = (i : Int) := by omega
          rw [e0]
          have hc : ((comN (ts.map redR)).map V.int)[i]? = some (.int c) := by rw [List.getElem?_map, ht3]; rfl
          have htp : (as.map V.ref)[i]? = some (.ref tp) := by rw [List.getElem?_map, ht2]; rfl
          have htt := hT3.2 i tp tm ht2 ht1
          have m1 : IntMulOk c tm.2 := IntMulOk.of_le (m := 2050) (n := 1800) (intBits_le_iff.mpr ht5) (intBits_le_iff.mpr (tlt _ ht6)) (by decide)
          have m2 : IntMulOk tm.1 (D : Int) := IntMulOk.of_le (m := 250) (n := 1800) (intBits_le_iff.mpr hnB) (intBits_le_iff.mpr (by rw [Int.natAbs_natCast]; exact hDlt)) (by decide)
          refine ⟨_, rfl, _, _, _, _, rfl, rfl, SqT.of ht, rfl, _, rfl, _, _, _, _, rfl, rfl, SqL.of hl, atI_nat hc, _, rfl, _, rfl, iteF ?_⟩
          refine ⟨_, rfl, _, _, _, _, rfl, rfl, SqT.of ht, rfl, _, rfl, _, _, _, _, rfl, rfl, SqL.of hl, atI_nat hc, ?_⟩
          refine ⟨_, rfl, _, rfl, _, _, _, _, rfl, rfl, SqL.of hM3, atI_nat htp, _, _, _, _, rfl, rfl, SqT.of htt, rfl, _, _, rfl, rfl, m1, ?_⟩
          refine ⟨_, rfl, _, rfl, _, _, _, _, rfl, rfl, SqL.of hM3, atI_nat htp, _, _, _, _, rfl, rfl, SqT.of htt, rfl, _, rfl, _, _, _, _, rfl, rfl, SqT.of ht, rfl, _, _, rfl, rfl, m2, rfl, _, rfl, iteNF (congrArg V.int ht4) ?_⟩
          refine ⟨_, rfl, _, rfl, _, _, _, _, rfl, rfl, SqT.of ht, rfl, _, rfl, _, _, _, _, rfl, rfl, SqL.of hl, atI_nat hc, _, c, rfl, ?_, ?_⟩
          · have hle : gcdUp D ((comN (ts.map redR)).take i) ≤ D := Nat.le_of_dvd hDpos (gcdUp_dvd _ D).1
            rw [Int.natAbs_natCast]
            refine Nat.lt_of_lt_of_le (Nat.mul_lt_mul'' (Nat.lt_of_le_of_lt hle hDlt) ht5) ?_
            rw [← Nat.pow_add]; exact Nat.pow_le_pow_right (by decide) (by decide)
          · refine ⟨rfl, some (.int (i : Int)), ?_⟩
            have e1 : (comN (ts.map redR)).take (i + 1) = (comN (ts.map redR)).take i ++ [c] := by rw [List.take_add_one, ht3]; rfl
            rw [e1, gcdUp_snoc]
            rfl
        · rintro σ H0 ⟨rfl, kv, rfl⟩
          have eall : (comN (ts.map redR)).take (as.map V.ref).length = comN (ts.map redR) := List.take_of_length_le (by rw [List.length_map, hN, hlen]; exact Nat.le_refl _)
          rw [eall]
          have hone : gcdUp D (comN (ts.map redR)) = 1 := by
            obtain ⟨w1, w2⟩ := gcdUp_dvd (comN (ts.map redR)) D
            refine gcd_all hcop (by rw [hDD]; exact w1) (fun r hr => w2 _ ?_) (by rw [hDD]; exact hDpos)
            unfold comN; exact List.mem_map.mpr ⟨r, hr, rfl⟩
          rw [hone]
          refine ⟨_, rfl, rfl, _, rfl, iteNF rfl ?_⟩
          refine ⟨_, rfl, _, _, rfl, .inl (SqL.of hR3), _, rfl, _, _, rfl, .inl (SqL.of hM3), rfl, _, rfl, iteNF (by rw [List.length_map, List.length_map, hps, hlen]) ?_⟩
          -- numbers = list(actual[0]); told = actual[0]; told.append(0)
          refine ⟨_, rfl, _, _, _, _, rfl, rfl, SqT.of ht, rfl, _, _, rfl, .inl (SqL.of hl), fun nb nnb => ?_⟩
          have kn : Keep [] H0 (upd H0 nb (.lst ((comN (ts.map redR)).map V.int))) := Keep.new nnb
          have ht4 := kn _ _ ht (by simp)
          have hl4 := kn _ _ hl (by simp)
          refine ⟨_, rfl, _, _, _, _, rfl, rfl, SqT.of ht4, rfl, ?_⟩
          refine ⟨_, rfl, .inl ⟨rfl, _, SqL.of hl4⟩, _, _, _, rfl, rfl, hl4, by rw [List.length_map, hN]; exact smallL (by omega), ?_⟩
          have nlb : l ≠ nb := ne_of_none hl nnb
          have k5 : Keep [] H2 (upd (upd H0 nb (.lst ((comN (ts.map redR)).map V.int))) l (.lst ((comN (ts.map redR)).map V.int ++ [.int 0]))) := ((K3.trans kn).then_own nl)
          have tk5 : TK H0 (upd (upd H0 nb (.lst ((comN (ts.map redR)).map V.int))) l (.lst ((comN (ts.map redR)).map V.int ++ [.int 0]))) := kn.tk.trans (TK.lst hl4)
          have hnb5 : upd (upd H0 nb (.lst ((comN (ts.map redR)).map V.int))) l (.lst ((comN (ts.map redR)).map V.int ++ [.int 0])) nb = some (.lst ((comN (ts.map redR)).map V.int)) := by rw [upd_ne nlb.symm]; exact upd_same
          generalize upd (upd H0 nb (.lst ((comN (ts.map redR)).map V.int))) l (.lst ((comN (ts.map redR)).map V.int ++ [.int 0])) = H5 at k5 tk5 hnb5
          -- again = common(ratios)
          refine ⟨_, rfl, R, ps, ts.map redR, B, rfl, SqL.of (k5 _ _ g1 (by simp)), by rw [List.length_map, hps], hrat k5, hrs, hB0, hB1, by rw [List.length_map]; omega, fun l2 t2 H6 nl2 K6 hl6 ht6 => ?_⟩
          rw [hDD] at ht6
          have hnb6 := K6 _ _ hnb5 (by simp)
          have ht7 := K6.tk _ _ (tk5 _ _ ht)
          have hM6 := K6 _ _ (k5 _ _ hM2 (by simp)) (by simp)
          have hR6 := K6 _ _ (k5 _ _ g1 (by simp)) (by simp)
          have hT6 : Tups as ts H6 := tups_tk hT3 (tk5.trans K6.tk)
          refine ⟨_, rfl, _, _, _, _, _, rfl, .ty _, .base (.tup ht6), kTT, _, rfl, iteF ?_⟩
          refine ⟨_, rfl, _, _, rfl, .inr (SqT.of ht6), rfl, _, rfl, iteNF rfl ?_⟩
          refine ⟨_, rfl, _, _, _, _, rfl, rfl, SqT.of ht6, rfl, _, rfl, _, _, .lst (SqL.of hl6) (dp_ints _), .lst (SqL.of hnb6) (dp_ints _), shaped_ints _, shaped_ints _, ?_⟩
          rw [eqv_ints]
          refine ⟨_, rfl, iteF ?_⟩
          refine ⟨_, rfl, _, _, _, _, rfl, rfl, SqT.of ht6, rfl, _, rfl, _, _, _, _, rfl, rfl, SqT.of ht7, rfl, rfl, _, rfl, iteNF rfl ?_⟩
          refine ⟨_, rfl, _, _, rfl, .inl (SqL.of hM6), _, rfl, by omega, by rw [List.length_map]; omega, for_range (lo := 0) (n := (as.map V.ref).length) (fun i σ H' => H' = H6 ∧ ∃ kv : Option V, σ = [some (.ref a), some (.ref M), some (.int (g : Int)), o3, o4, o5, some (.ref R), some (.ref t), some (.int 1), kv, some (.ref nb), some (.ref l), some (.ref t2), none])
            ⟨rfl, _, rfl⟩ ?_ ?_⟩
          · rintro i σ H0 hi ⟨rfl, kv, rfl⟩
            rw [List.length_map, hlen] at hi
            obtain ⟨tm, tp, c, q1, q2, q3, q4, q5, q6⟩ := item i hi
            obtain ⟨hd0, hdB, hnB⟩ := hB _ q6
            have e0 : (0 : Int) + (i : Int) = (i : Int) := by omega
            rw [e0]
            have htp : (as.map V.ref)[i]? = some (.ref tp) := by rw [List.getElem?_map, q2]; rfl
            have htt := hT6.2 i tp tm q2 q1
            have hpi : ps[i]? = some (ps[i]'(by omega)) := List.getElem?_eq_getElem _
            have hpm : (ps.map V.ref)[i]? = some (.ref (ps[i]'(by omega))) := by rw [List.getElem?_map, hpi]; rfl
            have hra := hrat (k5.trans K6) i _ (redR tm) hpi (by rw [List.getElem?_map, q1]; rfl)
            refine ⟨_, rfl, _, rfl, _, _, _, _, rfl, rfl, SqL.of hR6, atI_nat hpm, ?_⟩
            refine ⟨_, rfl, _, rfl, _, _, _, _, rfl, rfl, SqL.of hM6, atI_nat htp, _, _, _, _, rfl, rfl, SqT.of htt, rfl, ?_⟩
            refine ⟨_, rfl, _, rfl, _, _, _, _, rfl, rfl, SqL.of hM6, atI_nat htp, _, _, _, _, rfl, rfl, SqT.of htt, rfl, ?_⟩
            refine ⟨_, _, _, rfl, by omega, Nat.lt_trans hnB e250, Nat.lt_trans (tlt _ q6) e1800, hra, _, rfl, iteF ⟨rfl, _, rfl⟩⟩
          · rintro σ H0 ⟨rfl, kv, rfl⟩
            exact k _
end

theorem all_mk {l : PySem.W.OpenLaw} {w : World} {K : PySem.W.Frag} {h : Heap} {mg : Str → Option Value} {fa : Addr} (X : K.In h) (G : h.Ns mainGlobals mg) (hfa : mg "law" = some (.ref fa))
    {f_common : Addr} {od_common an_common : Option Addr} {sl_common : Array (Option Value)} {oc_common kV_common dc_common pm_common cd_common ct_common : Value}
    {f_law_is_integer : Addr} {od_law_is_integer an_law_is_integer : Option Addr} {sl_law_is_integer : Array (Option Value)} {oc_law_is_integer kV_law_is_integer dc_law_is_integer pm_law_is_integer cd_law_is_integer ct_law_is_integer : Value}
    {f_law_gcd : Addr} {od_law_gcd an_law_gcd : Option Addr} {sl_law_gcd : Array (Option Value)} {oc_law_gcd kV_law_gcd dc_law_gcd pm_law_gcd cd_law_gcd ct_law_gcd : Value}
    {f_law_is_ratio : Addr} {od_law_is_ratio an_law_is_ratio : Option Addr} {sl_law_is_ratio : Array (Option Value)} {oc_law_is_ratio kV_law_is_ratio dc_law_is_ratio pm_law_is_ratio cd_law_is_ratio ct_law_is_ratio : Value}
    {f_law_great : Addr} {od_law_great an_law_great : Option Addr} {sl_law_great : Array (Option Value)} {oc_law_great kV_law_great dc_law_great pm_law_great cd_law_great ct_law_great : Value}
    {f_law : Addr} {od_law an_law : Option Addr} {sl_law : Array (Option Value)} {oc_law kV_law dc_law pm_law cd_law ct_law : Value}
    {C_Ratio : Addr}
    {f_Ratio___init : Addr} {od_Ratio___init an_Ratio___init : Option Addr} {sl_Ratio___init : Array (Option Value)} {oc_Ratio___init kV_Ratio___init dc_Ratio___init pm_Ratio___init cd_Ratio___init ct_Ratio___init : Value}
    {T_Ratio___init : Addr} {oT_Ratio___init : Value} {dT_Ratio___init : Option Addr} {nT_Ratio___init : Nat} {slT_Ratio___init : Array (Option Value)} {t_Ratio___init : Tok}
    (a_common : PySem.W.nsIn K mainGlobals "common" = some (some (.ref f_common))) (l_common : K.lookup f_common = some ⟨oc_common, od_common, .func (PySem.W.fnOf "common" "common" (fnArgs s_common) (fnBody s_common) (fnScope s_common) .none kV_common dc_common pm_common an_common cd_common ct_common), sl_common⟩) (c_common : PySem.W.codeIn K cd_common "common" = true) (k_common : PySem.W.keepIn K (.ref f_common) = true)
    (a_law_is_integer : PySem.W.nsIn K mainGlobals "_law_is_integer" = some (some (.ref f_law_is_integer))) (l_law_is_integer : K.lookup f_law_is_integer = some ⟨oc_law_is_integer, od_law_is_integer, .func (PySem.W.fnOf "_law_is_integer" "_law_is_integer" (fnArgs s_law_is_integer) (fnBody s_law_is_integer) (fnScope s_law_is_integer) .none kV_law_is_integer dc_law_is_integer pm_law_is_integer an_law_is_integer cd_law_is_integer ct_law_is_integer), sl_law_is_integer⟩) (c_law_is_integer : PySem.W.codeIn K cd_law_is_integer "_law_is_integer" = true) (k_law_is_integer : PySem.W.keepIn K (.ref f_law_is_integer) = true)
    (a_law_gcd : PySem.W.nsIn K mainGlobals "_law_gcd" = some (some (.ref f_law_gcd))) (l_law_gcd : K.lookup f_law_gcd = some ⟨oc_law_gcd, od_law_gcd, .func (PySem.W.fnOf "_law_gcd" "_law_gcd" (fnArgs s_law_gcd) (fnBody s_law_gcd) (fnScope s_law_gcd) .none kV_law_gcd dc_law_gcd pm_law_gcd an_law_gcd cd_law_gcd ct_law_gcd), sl_law_gcd⟩) (c_law_gcd : PySem.W.codeIn K cd_law_gcd "_law_gcd" = true) (k_law_gcd : PySem.W.keepIn K (.ref f_law_gcd) = true)
    (a_law_is_ratio : PySem.W.nsIn K mainGlobals "_law_is_ratio" = some (some (.ref f_law_is_ratio))) (l_law_is_ratio : K.lookup f_law_is_ratio = some ⟨oc_law_is_ratio, od_law_is_ratio, .func (PySem.W.fnOf "_law_is_ratio" "_law_is_ratio" (fnArgs s_law_is_ratio) (fnBody s_law_is_ratio) (fnScope s_law_is_ratio) .none kV_law_is_ratio dc_law_is_ratio pm_law_is_ratio an_law_is_ratio cd_law_is_ratio ct_law_is_ratio), sl_law_is_ratio⟩) (c_law_is_ratio : PySem.W.codeIn K cd_law_is_ratio "_law_is_ratio" = true) (k_law_is_ratio : PySem.W.keepIn K (.ref f_law_is_ratio) = true)
    (a_law_great : PySem.W.nsIn K mainGlobals "_law_great" = some (some (.ref f_law_great))) (l_law_great : K.lookup f_law_great = some ⟨oc_law_great, od_law_great, .func (PySem.W.fnOf "_law_great" "_law_great" (fnArgs s_law_great) (fnBody s_law_great) (fnScope s_law_great) .none kV_law_great dc_law_great pm_law_great an_law_great cd_law_great ct_law_great), sl_law_great⟩) (c_law_great : PySem.W.codeIn K cd_law_great "_law_great" = true) (k_law_great : PySem.W.keepIn K (.ref f_law_great) = true)
    (a_law : PySem.W.nsIn K mainGlobals "law" = some (some (.ref f_law))) (l_law : K.lookup f_law = some ⟨oc_law, od_law, .func (PySem.W.fnOf "law" "law" (fnArgs s_law) (fnBody s_law) (fnScope s_law) .none kV_law dc_law pm_law an_law cd_law ct_law), sl_law⟩) (c_law : PySem.W.codeIn K cd_law "law" = true) (k_law : PySem.W.keepIn K (.ref f_law) = true)
    (mc_Ratio : PySem.W.nsIn K mainGlobals "Ratio" = some (some (.ref C_Ratio)))
    (pg_Ratio : PySem.W.plainGet K C_Ratio Str.empty = true)
    (hd_Ratio : PySem.W.hasDictIn K C_Ratio = true)
    (po_Ratio : PySem.W.plainOver K C_Ratio = true)
    (sa_Ratio : PySem.W.findIn K (.ref C_Ratio) "__setattr__" = some (some (.builtin "object.__setattr__")))
    (mk_Ratio : PySem.W.makesIn K C_Ratio = true)
    (kc_Ratio : PySem.W.keepIn K (.ref C_Ratio) = true)
    (ha_Ratio : PySem.W.findIn K (.ref C_Ratio) "__class__" = some (some (.builtin "object.__class__")))
    (hn_Ratio : PySem.W.specialIn K (.builtin "object.__class__") "__get__" = some (some (.builtin "getset_descriptor.__get__")))
    (ht_Ratio : PySem.W.takesIn K (.builtin "object.__class__") = some true)
    (hm_Ratio : PySem.W.mroIn K C_Ratio (.type "object") = some true)
    (nnum_Ratio : PySem.W.findIn K (.ref C_Ratio) "num" = some none)
    (nden_Ratio : PySem.W.findIn K (.ref C_Ratio) "den" = some none)
    (a_Ratio___init : PySem.W.findIn K (.ref C_Ratio) "__init__" = some (some (.ref f_Ratio___init))) (i_Ratio___init : PySem.W.isFn K (.ref f_Ratio___init) = true) (l_Ratio___init : K.lookup f_Ratio___init = some ⟨oc_Ratio___init, od_Ratio___init, .func (PySem.W.fnOf "__init__" "Ratio.__init__" (fnArgs s_Ratio___init) (fnBody s_Ratio___init) (fnScope s_Ratio___init) (.ref T_Ratio___init) kV_Ratio___init dc_Ratio___init pm_Ratio___init an_Ratio___init cd_Ratio___init ct_Ratio___init), sl_Ratio___init⟩) (c_Ratio___init : PySem.W.codeIn K cd_Ratio___init "Ratio.__init__" = true) (k_Ratio___init : PySem.W.keepIn K (.ref f_Ratio___init) = true)
    (lT_Ratio___init : K.lookup T_Ratio___init = some ⟨oT_Ratio___init, dT_Ratio___init, .seq #[.int 1 t_Ratio___init] nT_Ratio___init, slT_Ratio___init⟩)
    (z_gcd : PySem.W.nsIn K mainGlobals "gcd" = some (some (.builtin "math.gcd")))
    (z_lcm : PySem.W.nsIn K mainGlobals "lcm" = some (some (.builtin "math.lcm")))
    (z_abs : PySem.W.nsIn K mainGlobals "abs" = some none)
    (z_bool : PySem.W.nsIn K mainGlobals "bool" = some none)
    (z_int : PySem.W.nsIn K mainGlobals "int" = some none)
    (z_isinstance : PySem.W.nsIn K mainGlobals "isinstance" = some none)
    (z_len : PySem.W.nsIn K mainGlobals "len" = some none)
    (z_list : PySem.W.nsIn K mainGlobals "list" = some none)
    (z_range : PySem.W.nsIn K mainGlobals "range" = some none)
    (z_tuple : PySem.W.nsIn K mainGlobals "tuple" = some none)
    : ∃ fd : FuncData, (∀ (s : Shared) (v : Value), BindsTo s fd ⟨[v], []⟩ [("script", v)]) ∧ ∀ base : Heap, K.In base → base.Ns mainGlobals mg → FnOk l.prog w K mg base C8.CX0 3 fa fd ["script"] (sp_law K) := by
  have e := hfa.symm.trans (PySem.W.mg_of X G a_law)
  cases e
  have T : Txt K mg C_Ratio := ⟨PySem.W.mg_none_of X G z_abs, PySem.W.mg_none_of X G z_bool, PySem.W.mg_none_of X G z_int, PySem.W.mg_none_of X G z_isinstance, PySem.W.mg_none_of X G z_len, PySem.W.mg_none_of X G z_list, PySem.W.mg_none_of X G z_range, PySem.W.mg_none_of X G z_tuple, PySem.W.mg_of X G z_gcd, PySem.W.mg_of X G z_lcm, ⟨pg_Ratio, hd_Ratio, po_Ratio, sa_Ratio⟩, PySem.W.mg_of X G mc_Ratio, ⟨⟨pg_Ratio, hd_Ratio, po_Ratio, sa_Ratio⟩, ha_Ratio, hn_Ratio, ht_Ratio, hm_Ratio, kitSelf⟩, nnum_Ratio, nden_Ratio, True.intro⟩
  have F_Ratio___init : C8.Fun K "__init__" "Ratio.__init__" s_Ratio___init _ _ := ⟨⟨_, _, _, _, _, _, _, _, _, _, rfl, l_Ratio___init, c_Ratio___init⟩⟩
  have M_Ratio : Mk K C_Ratio f_Ratio___init := ⟨mk_Ratio, a_Ratio___init, i_Ratio___init, kc_Ratio⟩
  have FD_Ratio___init : FunD K "__init__" "Ratio.__init__" (fnArgs s_Ratio___init) (fnBody s_Ratio___init) (fnScope s_Ratio___init) [.int 1] [] f_Ratio___init _ := ⟨⟨_, _, _, _, _, _, _, _, _, _, rfl, l_Ratio___init, c_Ratio___init, .inr ⟨by simp, _, _, [_], _, rfl, lT_Ratio___init, rfl, .cons ⟨_, rfl⟩ .nil⟩, .inl rfl⟩, k_Ratio___init⟩
  obtain ⟨ds2_Ratio___init, v2_Ratio___init, b2_Ratio___init⟩ := FD_Ratio___init.binds1 (ps := ["self", "num", "den"]) 3 1 (by simp) rfl (fun _ _ _ _ _ _ _ us its hu hi => match us, hu, its, hi with | [_, _, _], _, [_], _ => ⟨_, rfl, rfl⟩)
  obtain ⟨ds1_Ratio___init, v1_Ratio___init, b1_Ratio___init⟩ := FD_Ratio___init.binds1 (ps := ["self", "num", "den"]) 2 0 (by simp) rfl (fun _ _ _ _ _ _ _ us its hu hi => match us, hu, its, hi with | [_, _], _, [_], _ => ⟨_, rfl, rfl⟩)
  have D_common : C8.Def K mg "common" s_common _ _ := ⟨⟨⟨_, _, _, _, _, _, _, _, _, _, rfl, l_common, c_common⟩⟩, PySem.W.mg_of X G a_common, k_common⟩
  have b_common : Binds K _ ["ratios"] [] := C8.Fun.binds D_common.fn rfl fun _ _ _ _ _ _ us hl => match us, hl with | [_], _ => rfl
  have D_law_is_integer : C8.Def K mg "_law_is_integer" s_law_is_integer _ _ := ⟨⟨⟨_, _, _, _, _, _, _, _, _, _, rfl, l_law_is_integer, c_law_is_integer⟩⟩, PySem.W.mg_of X G a_law_is_integer, k_law_is_integer⟩
  have b_law_is_integer : Binds K _ ["actual"] [] := C8.Fun.binds D_law_is_integer.fn rfl fun _ _ _ _ _ _ us hl => match us, hl with | [_], _ => rfl
  have D_law_gcd : C8.Def K mg "_law_gcd" s_law_gcd _ _ := ⟨⟨⟨_, _, _, _, _, _, _, _, _, _, rfl, l_law_gcd, c_law_gcd⟩⟩, PySem.W.mg_of X G a_law_gcd, k_law_gcd⟩
  have b_law_gcd : Binds K _ ["a", "b"] [] := C8.Fun.binds D_law_gcd.fn rfl fun _ _ _ _ _ _ us hl => match us, hl with | [_, _], _ => rfl
  have D_law_is_ratio : C8.Def K mg "_law_is_ratio" s_law_is_ratio _ _ := ⟨⟨⟨_, _, _, _, _, _, _, _, _, _, rfl, l_law_is_ratio, c_law_is_ratio⟩⟩, PySem.W.mg_of X G a_law_is_ratio, k_law_is_ratio⟩
  have b_law_is_ratio : Binds K _ ["actual", "num", "den"] [] := C8.Fun.binds D_law_is_ratio.fn rfl fun _ _ _ _ _ _ us hl => match us, hl with | [_, _, _], _ => rfl
  have D_law_great : C8.Def K mg "_law_great" s_law_great _ _ := ⟨⟨⟨_, _, _, _, _, _, _, _, _, _, rfl, l_law_great, c_law_great⟩⟩, PySem.W.mg_of X G a_law_great, k_law_great⟩
  have b_law_great : Binds K _ ["cell", "most"] [] := C8.Fun.binds D_law_great.fn rfl fun _ _ _ _ _ _ us hl => match us, hl with | [_, _], _ => rfl
  have F_law : C8.Fun K "law" "law" s_law _ _ := ⟨⟨_, _, _, _, _, _, _, _, _, _, rfl, l_law, c_law⟩⟩
  refine ⟨PySem.W.fnOf "law" "law" (fnArgs s_law) (fnBody s_law) (fnScope s_law) .none kV_law dc_law pm_law an_law cd_law ct_law, fun s v => .of_eq rfl, fun base _ _ => ?_⟩
  have c_Ratio := ok_rat_init (P := l.prog) (w := w) (base := base) M_Ratio F_Ratio___init b2_Ratio___init v2_Ratio___init T
  have c_common := ok_common (P := l.prog) (w := w) (base := base) D_common b_common T
  have c_law_is_integer := ok_law_is_integer (P := l.prog) (w := w) (base := base) D_law_is_integer b_law_is_integer T
  have c_law_gcd := ok_law_gcd (P := l.prog) (w := w) (base := base) D_law_gcd b_law_gcd T
  have c_law_is_ratio := ok_law_is_ratio D_law_is_ratio b_law_is_ratio T c_law_is_integer c_law_gcd
  have c_law_great := ok_law_great (P := l.prog) (w := w) (base := base) D_law_great b_law_great T
  exact ok_law F_law T c_Ratio c_common c_law_is_integer c_law_gcd c_law_is_ratio c_law_great
theorem walk {l : PySem.W.OpenLaw} {q : Program} {loose : List Str} {XP : (Str → Option Value) → Heap → Prop} {YP : World → Heap → Prop} {d : DefRec} {K : Params → PySem.W.Frag} (hn : l.most = some 63) (hdf : d.params.defaults = [])
    (hY : ∀ (w : World) (h : Heap), YP w h → (K w.params).In h)
    (F : ∀ (w : World) (mg : Str → Option Value) (fa : Addr) (h : Heap), (K w.params).In h → h.Ns mainGlobals mg → mg d.name = some (.ref fa) →
      ∃ fd : FuncData, (∀ (s : Shared) (u : Value), BindsTo s fd ⟨[u], []⟩ [("script", u)]) ∧ ∀ base : Heap, (K w.params).In base → base.Ns mainGlobals mg → FnOk l.prog w (K w.params) mg base C8.CX0 3 fa fd ["script"] (sp_law (K w.params))) :
    PySem.W.WalkO q loose XP YP l.row.toRowW d [] (fun f vs => PySem.call f vs) :=
  L2.walk_ofB (n := 63) (k := 3) (x := "script") (CX := fun _ => C8.CX0) (sp := fun w => sp_law (K w.params)) hn (by decide) hdf ⟨rfl, by decide, by decide⟩ hY F (fun _ _ a ns hl hb _ hS => ⟨a, ns, rfl, hS, hl, hb, fun _ => rfl⟩) fun _ _ _ _ _ z => z
end My
open PySem PySem.W PyProof.Rows
set_option maxRecDepth 100000 in
set_option maxHeartbeats 0 in
theorem PySem.Challenge.cw_bothgain_k06_common_form_holds : PySem.Challenge.rw_bothgain_k06_common_form.Holds := by
  w_on; o_law; k_head; (case hw => w_witness2)
  k_fill
  refine My.walk (l := PySem.Challenge.rw_bothgain_k06_common_form) rfl rfl (fun w h Y => PySem.W.kIn_of Y) ?F
  case F =>
    intro w mg fa h KX G hmg
    refine' My.all_mk KX G hmg ?a_common ?l_common ?c_common ?k_common ?a_law_is_integer ?l_law_is_integer ?c_law_is_integer ?k_law_is_integer ?a_law_gcd ?l_law_gcd ?c_law_gcd ?k_law_gcd ?a_law_is_ratio ?l_law_is_ratio ?c_law_is_ratio ?k_law_is_ratio ?a_law_great ?l_law_great ?c_law_great ?k_law_great ?a_law ?l_law ?c_law ?k_law ?mc_Ratio ?pg_Ratio ?hd_Ratio ?po_Ratio ?sa_Ratio ?mk_Ratio ?kc_Ratio ?ha_Ratio ?hn_Ratio ?ht_Ratio ?hm_Ratio ?nnum_Ratio ?nden_Ratio ?a_Ratio___init ?i_Ratio___init ?l_Ratio___init ?c_Ratio___init ?k_Ratio___init ?lT_Ratio___init ?z_gcd ?z_lcm ?z_abs ?z_bool ?z_int ?z_isinstance ?z_len ?z_list ?z_range ?z_tuple
    (case a_common => k_is)
    (case l_common => k_is)
    (case c_common => k_is)
    (case k_common => k_is)
    (case a_law_is_integer => k_is)
    (case l_law_is_integer => k_is)
    (case c_law_is_integer => k_is)
    (case k_law_is_integer => k_is)
    (case a_law_gcd => k_is)
    (case l_law_gcd => k_is)
    (case c_law_gcd => k_is)
    (case k_law_gcd => k_is)
    (case a_law_is_ratio => k_is)
    (case l_law_is_ratio => k_is)
    (case c_law_is_ratio => k_is)
    (case k_law_is_ratio => k_is)
    (case a_law_great => k_is)
    (case l_law_great => k_is)
    (case c_law_great => k_is)
    (case k_law_great => k_is)
    (case a_law => k_is)
    (case l_law => k_is)
    (case c_law => k_is)
    (case k_law => k_is)
    (case mc_Ratio => k_is)
    (case pg_Ratio => k_is)
    (case hd_Ratio => k_is)
    (case po_Ratio => k_is)
    (case sa_Ratio => k_is)
    (case mk_Ratio => k_is)
    (case kc_Ratio => k_is)
    (case ha_Ratio => k_is)
    (case hn_Ratio => k_is)
    (case ht_Ratio => k_is)
    (case hm_Ratio => k_is)
    (case nnum_Ratio => k_is)
    (case nden_Ratio => k_is)
    (case a_Ratio___init => k_is)
    (case i_Ratio___init => k_is)
    (case l_Ratio___init => k_is)
    (case c_Ratio___init => k_is)
    (case k_Ratio___init => k_is)
    (case lT_Ratio___init => k_is)
    (case z_gcd => k_is)
    (case z_lcm => k_is)
    (case z_abs => k_is)
    (case z_bool => k_is)
    (case z_int => k_is)
    (case z_isinstance => k_is)
    (case z_len => k_is)
    (case z_list => k_is)
    (case z_range => k_is)
    (case z_tuple => k_is)

