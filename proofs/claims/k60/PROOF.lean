
import PyProof.Rows.All
import Wide.All
import OpenK.AllK
import Wide.FinOn
import HandS.ForMost
import HandS.Codes
import HandS.IsInst
import HandS.EndBits
import HandS.Walk
import HandS.DeepEq
import HandS.Gcd
import HandS.Wide
import HandS.Defaults
import HandS.OwnEq
import HandS.Dict
import HandS.WordsDict
import HandS.Star
import HandS.Strs
import HandS.RaiseMore
import HandS.More
import HandS.Iter
import PySem.Challenge.RW_bothgain_k60_lots_that_were_given
set_option Elab.async false
set_option linter.all false
set_option maxRecDepth 100000
set_option maxHeartbeats 4000000
set_option pp.maxSteps 400

namespace My
open PySem L2 C8 SX
/-! own base: tests, heaps -/
theorem bo_len : bootBuiltins "len" = some (.builtin "len") := by decide +kernel
theorem bo_isinstance : bootBuiltins "isinstance" = some (.builtin "isinstance") := by decide +kernel
theorem bo_min : bootBuiltins "min" = some (.builtin "min") := by decide +kernel
theorem bo_max : bootBuiltins "max" = some (.builtin "max") := by decide +kernel
theorem bo_abs : bootBuiltins "abs" = some (.builtin "abs") := by decide +kernel
theorem bo_int : bootBuiltins "int" = some (.type "int") := by decide +kernel
theorem bo_str : bootBuiltins "str" = some (.type "str") := by decide +kernel
theorem bo_bool : bootBuiltins "bool" = some (.type "bool") := by decide +kernel
theorem bo_list : bootBuiltins "list" = some (.type "list") := by decide +kernel
theorem bo_ord : bootBuiltins "ord" = some (.builtin "ord") := by decide +kernel
theorem bo_chr : bootBuiltins "chr" = some (.builtin "chr") := by decide +kernel
theorem bo_sum : bootBuiltins "sum" = some (.builtin "sum") := by decide +kernel
theorem bo_all : bootBuiltins "all" = some (.builtin "all") := by decide +kernel
theorem bo_any : bootBuiltins "any" = some (.builtin "any") := by decide +kernel
theorem bo_sorted : bootBuiltins "sorted" = some (.builtin "sorted") := by decide +kernel
theorem bo_dict : bootBuiltins "dict" = some (.type "dict") := by decide +kernel
theorem bo_tuple : bootBuiltins "tuple" = some (.type "tuple") := by decide +kernel
theorem iteD {p A B : Prop} [Decidable p] (h1 : p → A) (h2 : ¬ p → B) : if decide p = true then A else B := by
  by_cases h : p
  · rw [decide_eq_true h]; exact iteT (h1 h)
  · rw [decide_eq_false h]; exact iteF (h2 h)
theorem iteN {p A B : Prop} [Decidable p] (h1 : ¬ p → A) (h2 : p → B) : if (!decide p) = true then A else B := by
  by_cases h : p
  · rw [decide_eq_true h]; exact iteF (h2 h)
  · rw [decide_eq_false h]; exact iteT (h1 h)
theorem iteDT {p A B : Prop} [Decidable p] (h : p) (k : A) : if decide p = true then A else B := iteD (fun _ => k) fun z => absurd h z
theorem iteDF {p A B : Prop} [Decidable p] (h : ¬ p) (k : B) : if decide p = true then A else B := iteD (fun z => absurd z h) fun _ => k
theorem iteNT {p A B : Prop} [Decidable p] (h : ¬ p) (k : A) : if (!decide p) = true then A else B := iteN (fun _ => k) fun z => absurd z h
theorem iteNF {p A B : Prop} [Decidable p] (h : p) (k : B) : if (!decide p) = true then A else B := iteN (fun z => absurd h z) fun _ => k
theorem iteB {b : Bool} {A B : Prop} (h1 : b = true → A) (h2 : b = false → B) : if b = true then A else B := by
  cases b with
  | true => exact iteT (h1 rfl)
  | false => exact iteF (h2 rfl)
/-- in a comprehension without a test -/
theorem yes_then {σ : St} {H : Hp} {F G : Hp → Prop} (h : F H) : tYes σ H (fun b H3 => if b = true then F H3 else G H3) := h
/-- all that was tracked stands, but at W -/
def Keep (W : List Addr) (H H' : Hp) : Prop := ∀ b o, H b = some o → b ∉ W → H' b = some o
theorem Keep.refl (W : List Addr) (H : Hp) : Keep W H H := fun _ _ h _ => h
theorem Keep.trans {W : List Addr} {H H1 H2 : Hp} (a : Keep W H H1) (b : Keep W H1 H2) : Keep W H H2 := fun c o h w => b c o (a c o h w) w
theorem Keep.mono {W W' : List Addr} {H H1 : Hp} (a : Keep W H H1) (h : ∀ b, b ∈ W → b ∈ W') : Keep W' H H1 := fun c o q w => a c o q fun z => w (h c z)
theorem Keep.new {W : List Addr} {H : Hp} {p : Addr} {o : HO} (h : H p = none) : Keep W H (upd H p o) := fun b u q _ => by
  rw [upd_ne (ne_of_none q h)]; exact q
theorem Keep.at_ {W : List Addr} {H : Hp} {p : Addr} {o : HO} (h : p ∈ W) : Keep W H (upd H p o) := fun b u q w => by
  rw [upd_ne (fun z => w (by rw [z]; exact h))]; exact q
theorem Keep.then_new {W : List Addr} {H H1 : Hp} {p : Addr} {o : HO} (a : Keep W H H1) (h : H1 p = none) : Keep W H (upd H1 p o) := a.trans (Keep.new h)
theorem Keep.then_at {W : List Addr} {H H1 : Hp} {p : Addr} {o : HO} (a : Keep W H H1) (h : p ∈ W) : Keep W H (upd H1 p o) := a.trans (Keep.at_ h)
/-- what was new since H is not among the kept -/
theorem Keep.then_own {W : List Addr} {H H1 : Hp} {p : Addr} {o : HO} (a : Keep W H H1) (h : H p = none) : Keep W H (upd H1 p o) := fun b u q w => by
  rw [upd_ne (ne_of_none q h)]; exact a b u q w
theorem Keep.free {H H' : Hp} (e : Keep [] H H') {l : Addr} (h : H' l = none) : H l = none := by
  cases q : H l with
  | none => rfl
  | some o => rw [e l o q (by simp)] at h; cases h
theorem Keep.free1 {H H' : Hp} {p : Addr} {o : HO} (e : Keep [p] H H') (hp : H' p = some o) {l : Addr} (h : H' l = none) : H l = none := by
  cases q : H l with
  | none => rfl
  | some u =>
    by_cases z : l = p
    · subst z; rw [hp] at h; cases h
    · rw [e l u q (by simpa using z)] at h; cases h
theorem Keep.seqL {W : List Addr} {K : PySem.W.Frag} {H H' : Hp} {a : Addr} {xs : List V} (e : Keep W H H') (h : SqL K H a xs) (w : a ∉ W) : SqL K H' a xs := by
  rcases h with (h | ⟨o, h⟩) | h
  · exact .inl (.inl (e _ _ h w))
  · exact .inl (.inr ⟨o, e _ _ h w⟩)
  · exact .inr h
theorem Keep.seqT {W : List Addr} {K : PySem.W.Frag} {H H' : Hp} {a : Addr} {xs : List V} (e : Keep W H H') (h : SqT K H a xs) (w : a ∉ W) : SqT K H' a xs := by
  rcases h with (h | ⟨o, h⟩) | h
  · exact .inl (.inl (e _ _ h w))
  · exact .inl (.inr ⟨o, e _ _ h w⟩)
  · exact .inr h
theorem Keep.same {H H' : Hp} (e : Keep [] H H') : Same H H' := fun b o h => e b o h (by simp)
theorem ints_get {ns : List Int} {i : Nat} {v : V} (h : (ns.map V.int)[i]? = some v) : ∃ z, ns[i]? = some z ∧ v = V.int z := by
  rw [List.getElem?_map] at h
  cases e : ns[i]? with
  | none => rw [e] at h; cases h
  | some z => rw [e] at h; exact ⟨z, rfl, (Option.some.inj h).symm⟩
theorem strs_get {ns : List Str} {i : Nat} {v : V} (h : (ns.map V.str)[i]? = some v) : ∃ z, ns[i]? = some z ∧ v = V.str z := by
  rw [List.getElem?_map] at h
  cases e : ns[i]? with
  | none => rw [e] at h; cases h
  | some z => rw [e] at h; exact ⟨z, rfl, (Option.some.inj h).symm⟩
theorem smallM {n : Nat} (h : n ≤ 1000000) : n ≤ sizeLine := Nat.le_trans h (by decide)
theorem smallL {n : Nat} (h : n ≤ 1000000) : n < sizeLine := Nat.lt_of_le_of_lt h (by decide)
/-- a promise that asks the impossible: any def at all keeps it -/
def spNo : Sp := fun _ _ _ _ => False
/-! the same rules with the written part named (within a comprehension) -/
section
variable {X : Cx} {K : PySem.W.Frag}
theorem pe_fldK {e : Expr} {f : Str} {pos : Pos} {ta : TE} (he : PE X e ta) (hb : attributeBase e f X.env (eval e X.env) = eval e X.env) (hK : X.K = K := by rfl) : PE X (.Attribute e f pos) (tFld K ta f) := hK ▸ pe_fld he hb
theorem ix_listK (hK : X.K = K := by rfl) : IxR X (rIxL K) := hK ▸ ix_list
theorem ix_tupK (hK : X.K = K := by rfl) : IxR X (rIxT K) := hK ▸ ix_tup
theorem sl_listK (hK : X.K = K := by rfl) : SlR X (rSlL K) := hK ▸ sl_list
theorem sl_tupK (hK : X.K = K := by rfl) : SlR X (rSlT K) := hK ▸ sl_tup
theorem call_len_seqK (hK : X.K = K := by rfl) : CallR X (.builtin "len") (fun xs H Q => ∃ p ys, xs = [.ref p] ∧ (SqL K H p ys ∨ SqT K H p ys) ∧ Q (.int ys.length) H) := hK ▸ call_len_seq
theorem call_list_ofK (hK : X.K = K := by rfl) : CallR X (.type "list") (fun xs H Q => ∃ p ys, xs = [.ref p] ∧ (SqL K H p ys ∨ SqT K H p ys) ∧ ∀ l, H l = none → Q (.ref l) (upd H l (.lst ys))) := hK ▸ call_list_of
theorem call_isiK2 (hK : X.K = K := by rfl) : CallR X (.builtin "isinstance") (rIsi K) := hK ▸ call_isi
end
/-- behind the making of an instance -/
theorem keep_made {H H2 : Hp} {x dx : Addr} {o : HO} (hx : H x = none) (hd : H dx = none) (k : Keep [x] (upd (upd H dx (.own x)) x o) H2) : Keep [] H H2 := fun b u e _ =>
  k b u (by rw [upd_ne (ne_of_none e hx), upd_ne (ne_of_none e hd)]; exact e) (by simpa using ne_of_none e hx)
theorem kitSelf {K : PySem.W.Frag} {C : Addr} : PySem.W.kitOne K (.ref C) (.ref C) = some true := by
  unfold PySem.W.kitOne
  simp
/-- a call without arguments -/
theorem pe_c0 {X : Cx} {x : Str} {p pos : Pos} {k j : Nat} {sp : Sp} {dvs : List V} (c : C8.Cal X.prog X.w X.K X.mg X.base k x sp dvs) (hr : Room j X.A) (hk : k ≤ j) (hg : Gl X x) (hdb : (x == ("__debug__" : Str)) = false := by decide) :
    PE X (.Call (.Name x p) [] [] pos) (tCall sp dvs C8.E0 tNil) := by
  obtain ⟨f, fd, ps, ds, F, hm, kp, b, d⟩ := c.ex
  exact pe_call0 F (hr.mono hk) hg hm kp b d C8.pass0 hdb

/-! the text by places -/
def top (i : Nat) : Stmt := PySem.Challenge.pw_bothgain_k60_lots_that_were_given.main.body.getD i (.Pass ⟨0, 0, 0, 0⟩)
abbrev s_Ratio___init : Stmt := L2.inClass (top 6) 0
theorem sc_Ratio___init : FnScope ["self", "num", "den", "part"] ["self", "num", "den"] (fnScope s_Ratio___init) := fnScope_by (by decide +kernel)
abbrev s_Tape___init : Stmt := L2.inClass (top 8) 0
theorem sc_Tape___init : FnScope ["self", "results"] ["self", "results"] (fnScope s_Tape___init) := fnScope_by (by decide +kernel)
abbrev s_Tape_take : Stmt := L2.inClass (top 8) 1
theorem sc_Tape_take : FnScope ["self", "count", "result"] ["self", "count"] (fnScope s_Tape_take) := fnScope_by (by decide +kernel)
abbrev s_Tape_chance : Stmt := L2.inClass (top 8) 2
theorem sc_Tape_chance : FnScope ["self", "ways", "_", "count"] ["self"] (fnScope s_Tape_chance) := fnScope_by (by decide +kernel)
abbrev s_Tape_following : Stmt := L2.inClass (top 8) 3
theorem sc_Tape_following : FnScope ["self", "at", "result", "count", "row"] ["self"] (fnScope s_Tape_following) := fnScope_by (by decide +kernel)
abbrev s_law_pool : Stmt := top 10
theorem sc_law_pool : FnScope ["script", "budget"] ["script", "budget"] (fnScope s_law_pool) := fnScope_by (by decide +kernel)
abbrev s_law_draw : Stmt := top 11
theorem sc_law_draw : FnScope ["pool", "size", "cell", "value"] ["pool", "size"] (fnScope s_law_draw) := fnScope_by (by decide +kernel)
abbrev s_law_number : Stmt := top 12
theorem sc_law_number : FnScope ["pool"] ["pool"] (fnScope s_law_number) := fnScope_by (by decide +kernel)
abbrev s_law_same : Stmt := top 13
theorem sc_law_same : FnScope ["actual", "due", "k"] ["actual", "due"] (fnScope s_law_same) := fnScope_by (by decide +kernel)
abbrev s_law_lowest : Stmt := top 14
theorem sc_law_lowest : FnScope ["num", "den", "a", "b", "k", "c"] ["num", "den"] (fnScope s_law_lowest) := fnScope_by (by decide +kernel)
abbrev s_law_is_ratio : Stmt := top 15
theorem sc_law_is_ratio : FnScope ["actual", "num", "den", "due"] ["actual", "num", "den"] (fnScope s_law_is_ratio) := fnScope_by (by decide +kernel)
abbrev s_law_following : Stmt := top 16
theorem sc_law_following : FnScope ["taken", "k", "j"] ["taken"] (fnScope s_law_following) := fnScope_by (by decide +kernel)
abbrev s_law_told : Stmt := top 17
theorem sc_law_told : FnScope ["tape", "taken", "ways", "row", "due", "told"] ["tape", "taken"] (fnScope s_law_told) := fnScope_by (by decide +kernel)
abbrev s_law_count : Stmt := top 18
theorem sc_law_count : FnScope ["pool", "kind"] ["pool"] (fnScope s_law_count) := fnScope_by (by decide +kernel)
abbrev s_law_results : Stmt := top 19
theorem sc_law_results : FnScope ["pool", "many", "results", "k", "result"] ["pool"] (fnScope s_law_results) := fnScope_by (by decide +kernel)
abbrev s_law_two : Stmt := top 20
theorem sc_law_two : FnScope ["pool", "lists", "passed", "tapes", "results", "taken", "many", "k", "at", "count", "result", "rows"] ["pool"] (fnScope s_law_two) := fnScope_by (by decide +kernel)
abbrev s_law : Stmt := top 21
theorem sc_law : FnScope ["script", "pool", "counts", "ways", "k", "count", "results", "tape", "at", "place"] ["script"] (fnScope s_law) := fnScope_by (by decide +kernel)
/-- what the walk asks of the module -/
structure Txt (K : PySem.W.Frag) (mg : Str → Option Value) (C_Ratio : Addr) (C_Tape : Addr) : Prop where
  n_abs : mg "abs" = none
  n_bool : mg "bool" = none
  n_int : mg "int" = none
  n_isinstance : mg "isinstance" = none
  n_len : mg "len" = none
  n_list : mg "list" = none
  n_range : mg "range" = none
  n_str : mg "str" = none
  n_tuple : mg "tuple" = none
  f_gcd : mg "gcd" = some (.builtin "math.gcd")
  cl_Ratio : Cls K C_Ratio
  m_Ratio : mg "Ratio" = some (.ref C_Ratio)
  i_Ratio : InsC K C_Ratio
  a_Ratio_num : NoAttr K C_Ratio "num"
  a_Ratio_den : NoAttr K C_Ratio "den"
  cl_Tape : Cls K C_Tape
  m_Tape : mg "Tape" = some (.ref C_Tape)
  i_Tape : InsC K C_Tape
  a_Tape_results : NoAttr K C_Tape "results"
  a_Tape_taken : NoAttr K C_Tape "taken"
  ok : True
/-! ratios: an own object of two ints -/
theorem kND : ¬ (("num" : Str) = "den") := by decide +kernel
theorem kDN : ¬ (("den" : Str) = "num") := by decide +kernel
def rf (n d : Int) : List (Str × V) := putF "den" (.int d) (putF "num" (.int n) [])
theorem rf_num (n d : Int) : (rf n d).lookup ("num" : Str) = some (.int n) := by
  unfold rf
  rw [lookup_putF, if_neg kND, lookup_putF, if_pos rfl]
theorem rf_den (n d : Int) : (rf n d).lookup ("den" : Str) = some (.int d) := by
  unfold rf
  rw [lookup_putF, if_pos rfl]
theorem rf_no (n d : Int) {m : Str} (h1 : ¬ m = "num") (h2 : ¬ m = "den") : (rf n d).lookup m = none := by
  unfold rf
  rw [lookup_putF, if_neg h2, lookup_putF, if_neg h1]; rfl
/-- a Ratio stands at p -/
def RatAt (C : Addr) (H : Hp) (p : Addr) (n d : Int) : Prop := ∃ dx, H p = some (.ins C dx (rf n d))
theorem RatAt.keep {C p : Addr} {H H' : Hp} {W : List Addr} {n d : Int} (h : RatAt C H p n d) (k : Keep W H H') (w : p ∉ W) : RatAt C H' p n d := by
  obtain ⟨dx, h⟩ := h
  exact ⟨dx, k _ _ h w⟩
theorem RatAt.keep0 {C p : Addr} {H H' : Hp} {n d : Int} (h : RatAt C H p n d) (k : Keep [] H H') : RatAt C H' p n d := h.keep k (by simp)
/-- the sign of the divisor stands with the common part -/
def sg (n d : Int) : Int := if d < 0 then -((Nat.gcd n.natAbs d.natAbs : Nat) : Int) else ((Nat.gcd n.natAbs d.natAbs : Nat) : Int)
def redN (n d : Int) : Int := n.fdiv (sg n d)
def redD (n d : Int) : Int := d.fdiv (sg n d)
theorem gcd_pos_of {n d : Int} (h : d ≠ 0) : 0 < Nat.gcd n.natAbs d.natAbs := Nat.gcd_pos_of_pos_right _ (by omega)
theorem sg_ne {n d : Int} (h : d ≠ 0) : sg n d ≠ 0 := by
  have := gcd_pos_of (n := n) h
  unfold sg
  split <;> omega
theorem sg_dvd_n (n d : Int) : sg n d ∣ n := by
  have h : ((Nat.gcd n.natAbs d.natAbs : Nat) : Int) ∣ n := Int.ofNat_dvd_left.mpr (Nat.gcd_dvd_left _ _)
  unfold sg
  split
  · exact Int.neg_dvd.mpr h
  · exact h
theorem sg_dvd_d (n d : Int) : sg n d ∣ d := by
  have h : ((Nat.gcd n.natAbs d.natAbs : Nat) : Int) ∣ d := Int.ofNat_dvd_left.mpr (Nat.gcd_dvd_right _ _)
  unfold sg
  split
  · exact Int.neg_dvd.mpr h
  · exact h
theorem fdiv_of_mul {m c s : Int} (hs : s ≠ 0) (h : m = s * c) : m.fdiv s = c := by
  subst h; exact Int.mul_fdiv_cancel_left c hs
theorem red_n {n d : Int} (h : d ≠ 0) : redN n d * sg n d = n := by
  obtain ⟨c, hc⟩ := sg_dvd_n n d
  unfold redN
  rw [fdiv_of_mul (sg_ne h) hc, Int.mul_comm]; exact hc.symm
theorem red_d {n d : Int} (h : d ≠ 0) : redD n d * sg n d = d := by
  obtain ⟨c, hc⟩ := sg_dvd_d n d
  unfold redD
  rw [fdiv_of_mul (sg_ne h) hc, Int.mul_comm]; exact hc.symm
theorem redD_pos {n d : Int} (h : d ≠ 0) : 0 < redD n d := by
  have e := red_d (n := n) h
  have g := gcd_pos_of (n := n) h
  have hne : redD n d ≠ 0 := fun z => by rw [z, Int.zero_mul] at e; exact h e.symm
  rcases Int.lt_or_gt_of_ne hne with hl | hl
  · exfalso
    unfold sg at e
    split at e
    · rename_i hd
      have : 0 ≤ redD n d * -((Nat.gcd n.natAbs d.natAbs : Nat) : Int) := Int.mul_nonneg_of_nonpos_of_nonpos (by omega) (by omega)
      omega
    · rename_i hd
      have : redD n d * ((Nat.gcd n.natAbs d.natAbs : Nat) : Int) < 0 := Int.mul_neg_of_neg_of_pos hl (by omega)
      omega
  · exact hl
/-- the same ratio -/
theorem red_cross {n d : Int} (h : d ≠ 0) : redN n d * d = n * redD n d := by
  have e1 := red_n (n := n) h
  have e2 := red_d (n := n) h
  calc redN n d * d = redN n d * (redD n d * sg n d) := by rw [e2]
    _ = redN n d * sg n d * redD n d := by rw [Int.mul_comm (redD n d), Int.mul_assoc]
    _ = n * redD n d := by rw [e1]
theorem red_gcd {n d : Int} (h : d ≠ 0) : Nat.gcd (redN n d).natAbs (redD n d).natAbs = 1 := by
  have e1 : (redN n d).natAbs * (sg n d).natAbs = n.natAbs := by rw [← Int.natAbs_mul, red_n h]
  have e2 : (redD n d).natAbs * (sg n d).natAbs = d.natAbs := by rw [← Int.natAbs_mul, red_d h]
  have e3 : (sg n d).natAbs = Nat.gcd n.natAbs d.natAbs := by unfold sg; split <;> omega
  have e4 := Nat.gcd_mul_right (redN n d).natAbs (sg n d).natAbs (redD n d).natAbs
  rw [e1, e2, e3] at e4
  have g := gcd_pos_of (n := n) h
  exact Nat.eq_of_mul_eq_mul_right g (by omega)
theorem red_abs_n {n d : Int} (h : d ≠ 0) : (redN n d).natAbs ≤ n.natAbs := by
  have e1 : (redN n d).natAbs * (sg n d).natAbs = n.natAbs := by rw [← Int.natAbs_mul, red_n h]
  have : 0 < (sg n d).natAbs := by have := sg_ne (n := n) h; omega
  rw [← e1]
  exact Nat.le_mul_of_pos_right _ this
theorem red_dvd {n d : Int} (h : d ≠ 0) : redD n d ∣ d := ⟨sg n d, (red_d h).symm⟩
/-- what the rules ask of numbers below a power of two -/
theorem log2_lt9 {i : Int} {b : Nat} (h : i.natAbs < 2 ^ b) (h0 : 0 < b) : i.natAbs.log2 < b := PySem.Flt.log2_lt_of h0 h
section
variable {X : Cx}
def CDivG (_ j : Int) : Prop := j ≠ 0 ∧ j.natAbs.log2 < 9000
theorem op_fdivG : OpR X (binaryOp .FloorDiv) (rI CDivG fun i j => .int (i.fdiv j)) := opI fun i j _ _ _ _ _ hc q =>
  PyProof.Rows.floordiv_int hc.1 q (.inl (PyProof.noPylong_of_log2 hc.2))
def CPowB (i j : Int) : Prop := 2 ≤ i.natAbs ∧ 1 ≤ j ∧ (Builtin.Int.intBits i : Int) * j ≤ 100000000
theorem op_mulO : OpR X (binaryOp .Mult) (rI IntMulOk fun i j => .int (i * j)) := opI fun _ _ _ _ _ _ _ hc q => PyProof.Rows.mul_int q hc
end
def sp_rat (C : Addr) : Sp := fun vs H Q _ => ∃ (x dx : Addr) (n d : Int), vs = [.ref x, .int n, .int d] ∧ d ≠ 0 ∧ d.natAbs < 2 ^ 8000 ∧ H x = some (.ins C dx []) ∧
  ∀ H', Keep [x] H H' → H' x = some (.ins C dx (rf (redN n d) (redD n d))) → Q .non H'

/-! the law's draws -/
def Pool (H : Hp) (p q : Addr) (ns : List Int) : Prop := ∃ (i1 i2 i3 i4 i5 : Int), H p = some (.lst [.ref q, .int i1, .int i2, .int i3, .int i4, .int i5]) ∧ H q = some (.lst (ns.map V.int)) ∧ q ≠ p ∧ 0 ≤ i1
theorem Pool.some {H : Hp} {p q : Addr} {ns : List Int} (h : Pool H p q ns) : ∃ o, H p = Option.some o := by
  obtain ⟨i1, i2, i3, i4, i5, h, _⟩ := h
  exact ⟨_, h⟩
theorem Pool.some2 {H : Hp} {p q : Addr} {ns : List Int} (h : Pool H p q ns) : ∃ o, H q = Option.some o := by
  obtain ⟨i1, i2, i3, i4, i5, _, h, _⟩ := h
  exact ⟨_, h⟩
theorem Pool.keep {H H' : Hp} {p q : Addr} {ns : List Int} {W : List Addr} (h : Pool H p q ns) (k : Keep W H H') (w : ∀ b, b ∈ W → H b = none) : Pool H' p q ns := by
  obtain ⟨i1, i2, i3, i4, i5, h1, h2, h3, h4⟩ := h
  have no : ∀ b o, H b = Option.some o → b ∉ W := fun b o e z => by rw [w b z] at e; cases e
  exact ⟨i1, i2, i3, i4, i5, k _ _ h1 (no _ _ h1), k _ _ h2 (no _ _ h2), h3, h4⟩
theorem Pool.keep0 {H H' : Hp} {p q : Addr} {ns : List Int} (h : Pool H p q ns) (k : Keep [] H H') : Pool H' p q ns := h.keep k fun _ z => by cases z
theorem Pool.new {H : Hp} {p q a : Addr} {ns : List Int} {o : HO} (h : Pool H p q ns) (n : H a = none) : Pool (upd H a o) p q ns := h.keep0 (Keep.new n)
theorem Pool.own {H : Hp} {p q a : Addr} {ns : List Int} {o : HO} (h : Pool H p q ns) (h1 : a ≠ p) (h2 : a ≠ q) : Pool (upd H a o) p q ns := by
  obtain ⟨i1, i2, i3, i4, i5, g1, g2, g3, g4⟩ := h
  exact ⟨i1, i2, i3, i4, i5, by rw [upd_ne h1.symm]; exact g1, by rw [upd_ne h2.symm]; exact g2, g3, g4⟩
theorem Pool.free {H H' : Hp} {p q l : Addr} {ns : List Int} (P : Pool H' p q ns) (e : Keep [p] H H') (h : H' l = none) : H l = none := by
  obtain ⟨o, ho⟩ := P.some
  exact e.free1 ho h
theorem Pool.nep {H : Hp} {p q l : Addr} {ns : List Int} (P : Pool H p q ns) (h : H l = none) : l ≠ p := by
  obtain ⟨o, ho⟩ := P.some
  exact (ne_of_none ho h).symm
theorem Pool.neq {H : Hp} {p q l : Addr} {ns : List Int} (P : Pool H p q ns) (h : H l = none) : l ≠ q := by
  obtain ⟨o, ho⟩ := P.some2
  exact (ne_of_none ho h).symm
def sp_law_pool (K : PySem.W.Frag) : Sp := fun vs H Q _ => ∃ (a : Addr) (ns : List Int) (b : Int), vs = [.ref a, .int b] ∧ SqL K H a (ns.map V.int) ∧
  ∀ p q H', H p = none → Pool H' p q ns → Keep [] H H' → Q (.ref p) H'
def sp_law_draw : Sp := fun vs H Q _ => ∃ (p q : Addr) (ns : List Int) (size : Int), vs = [.ref p, .int size] ∧ 0 < size ∧ size < 2 ^ 60 ∧ Pool H p q ns ∧
  ∀ r H', 0 ≤ r → r < size → Pool H' p q ns → Keep [p] H H' → Q (.int r) H'
section
variable {P : Program} {w : World} {K : PySem.W.Frag} {mg : Str → Option Value} {base : Heap} {C_Ratio : Addr} {C_Tape : Addr}
theorem ok_law_pool {f : Addr} {fd : FuncData} (D : C8.Def K mg "_law_pool" s_law_pool f fd) (b : Binds K fd ["script", "budget"] []) (T : Txt K mg C_Ratio C_Tape) : C8.Cal P w K mg base 1 "_law_pool" (sp_law_pool K) [] := by
  refine cal0 D b .nil sc_law_pool (fun vs H Q E h => ?_) (fun cdv A outer s H vs Q E hr h => ?_)
  · obtain ⟨a, ns, b, rfl, _⟩ := h
    rfl
  · obtain ⟨a, ns, b, rfl, hS, k⟩ := h
    refine ⟨_, (pss_one (ps_ret (pe_lst (pa_cons (pe_callTy call_list_of (by rfl) T.n_list bo_list (pa_cons (pv 0) pa_nil)) (pa_cons pe_int (pa_cons pe_int (pa_cons pe_int (pa_cons pe_int (pa_cons (pv 1) pa_nil))))))))), ?_⟩
    refine ⟨_, rfl, _, _, rfl, .inl hS, fun l hl => ⟨_, rfl, (by show 6 ≤ sizeLine; decide), fun p hp => ?_⟩⟩
    have hlp : l ≠ p := ne_of_none (H := upd H l (.lst (ns.map V.int))) upd_same hp
    have hp0 : H p = none := (Keep.new (W := []) hl).free hp
    refine k p l _ hp0 ⟨_, _, _, _, _, upd_same, (by rw [upd_ne hlp]; exact upd_same), hlp, Int.le_refl 0⟩ ((Keep.new hl).then_new hp)
theorem ok_law_draw {f : Addr} {fd : FuncData} (D : C8.Def K mg "_law_draw" s_law_draw f fd) (b : Binds K fd ["pool", "size"] []) (T : Txt K mg C_Ratio C_Tape) : C8.Cal P w K mg base 1 "_law_draw" sp_law_draw [] := by
  refine cal0 D b .nil sc_law_draw (fun vs H Q E h => ?_) (fun cdv A outer s H vs Q E hr h => ?_)
  · obtain ⟨p, q, ns, size, rfl, _⟩ := h
    rfl
  · obtain ⟨p, q, ns, size, rfl, hs0, hs1, ⟨i1, i2, i3, i4, i5, h1, h2, hqp, hi1⟩, k⟩ := h
    have hbig : (2147483647 : Int) > 0 := by decide
    have cdg : ∀ {i : Int}, CDivG i size := ⟨by omega, Nat.lt_trans (log2_lt9 (b := 60) (by omega) (by decide)) (by decide)⟩
    refine ⟨_, (pss_cut (ps_if (PW.pt (pw_and (pt_cmpR op_le (pe_ix ix_list (pv 0) pe_int (fun _ _ => rfl)) pe_int (nomark _)) (pw_and (pt_cmpR op_le (pe_ix ix_list (pv 0) pe_int (fun _ _ => rfl)) pe_int (nomark _)) (pw_and1 (pt_cmpR op_lt (pe_ix ix_list (pv 0) pe_int (fun _ _ => rfl)) (pe_callB call_len_seq (by rfl) T.n_len bo_len (pa_cons (pe_ix ix_list (pv 0) pe_int (fun _ _ => rfl)) pa_nil)) (nomark _))))))
  (pss_cons (ps_set (i := 2) sc_law_draw.nd rfl (by first | exact Or.inl rfl | exact Or.inr rfl) (pe_ix ix_list (pe_ix ix_list (pv 0) pe_int (fun _ _ => rfl)) (pe_ix ix_list (pv 0) pe_int (fun _ _ => rfl)) (fun _ _ => rfl)))
  (pss_cons (ps_asg (pe_op op_add (pe_ix ix_list (pv 0) pe_int (fun _ _ => rfl)) pe_int) (pg_sub (pv 0) pe_int set_list))
  (pss_cons (ps_asg (pe_op op_mod (pe_callTy call_int1 (by rfl) T.n_int bo_int (pa_cons (pe_op op_add (pe_op op_mul (pe_ix ix_list (pv 0) pe_int (fun _ _ => rfl)) pe_int) (pv 2)) pa_nil)) pe_int) (pg_sub (pv 0) pe_int set_list))
  (pss_cons (ps_asg pe_int (pg_sub (pv 0) pe_int set_list))
  (pss_one (ps_if (pt_cmpR op_ge (pv 2) (pe_op op_pow pe_int pe_int) (nomark _))
    (pss_one (ps_asg (pv 2) (pg_sub (pv 0) pe_int set_list)))
    pss_nil))))))
  pss_nil)
(pss_cons (ps_if (pt_cmpR op_gt (pe_ix ix_list (pv 0) pe_int (fun _ _ => rfl)) pe_int (nomark _))
  (pss_cons (ps_set (i := 3) sc_law_draw.nd rfl (by first | exact Or.inl rfl | exact Or.inr rfl) (pe_op op_mod (pe_callTy call_int1 (by rfl) T.n_int bo_int (pa_cons (pe_ix ix_list (pv 0) pe_int (fun _ _ => rfl)) pa_nil)) (pv 1)))
  (pss_cons (ps_asg (pe_op op_fdivG (pe_ix ix_list (pv 0) pe_int (fun _ _ => rfl)) (pv 1)) (pg_sub (pv 0) pe_int set_list))
  (pss_cons (ps_asg pe_int (pg_sub (pv 0) pe_int set_list))
  (pss_one (ps_ret (pv 3))))))
  pss_nil)
(pss_cons (ps_asg (pe_op op_sub (pe_ix ix_list (pv 0) pe_int (fun _ _ => rfl)) pe_int) (pg_sub (pv 0) pe_int set_list))
(pss_cons (ps_asg (pe_op op_mod (pe_callTy call_int1 (by rfl) T.n_int bo_int (pa_cons (pe_op op_add (pe_op op_mul (pe_ix ix_list (pv 0) pe_int (fun _ _ => rfl)) pe_int) pe_int) pa_nil)) pe_int) (pg_sub (pv 0) pe_int set_list))
(pss_one (ps_ret (pe_op op_mod (pe_op op_mod (pe_callTy call_int1 (by rfl) T.n_int bo_int (pa_cons (pe_op op_add (pe_op op_mul (pe_ix ix_list (pv 0) pe_int (fun _ _ => rfl)) pe_int) pe_int) pa_nil)) pe_int) (pv 1)))))))), ?_⟩
    -- the state between the statements
    refine ⟨fun σ H' => ∃ (c : Option V) (j1 j2 j3 j4 j5 : Int), σ = [some (.ref p), some (.int size), c, none] ∧ H' p = some (.lst [.ref q, .int j1, .int j2, .int j3, .int j4, .int j5]) ∧ Keep [p] H H' ∧ 0 ≤ j1, ?_, ?_⟩
    · have stay : ∃ (c : Option V) (j1 j2 j3 j4 j5 : Int), ([some (.ref p), some (.int size), none, none] : List (Option V)) = [some (.ref p), some (.int size), c, none] ∧ H p = some (.lst [.ref q, .int j1, .int j2, .int j3, .int j4, .int j5]) ∧ Keep [p] H H ∧ 0 ≤ j1 :=
        ⟨_, i1, i2, i3, i4, i5, rfl, h1, Keep.refl _ _, hi1⟩
      refine ⟨_, rfl, _, _, _, _, rfl, rfl, SqL.of h1, rfl, _, _, rfl, rfl, _, rfl, iteD (fun _ => ?_) (fun _ => stay)⟩
      refine ⟨_, rfl, _, _, _, _, rfl, rfl, SqL.of h1, rfl, _, _, rfl, rfl, _, rfl, iteD (fun _ => ?_) (fun _ => stay)⟩
      refine ⟨_, rfl, _, _, _, _, rfl, rfl, SqL.of h1, rfl, _, rfl, _, _, _, _, rfl, rfl, SqL.of h1, rfl, _, _, rfl, .inl (SqL.of h2), _, _, rfl, rfl, _, rfl, iteD (fun hlt => ?_) (fun _ => stay)⟩
      obtain ⟨j, rfl⟩ : ∃ j : Nat, i1 = (j : Int) := ⟨i1.toNat, by omega⟩
      rw [List.length_map] at hlt
      have hj : j < ns.length := by omega
      have hc : (ns.map V.int)[j]? = some (.int ns[j]) := by rw [List.getElem?_map, List.getElem?_eq_getElem hj]; rfl
      refine ⟨_, rfl, _, _, _, _, rfl, rfl, SqL.of h1, rfl, _, rfl, _, _, _, _, rfl, rfl, SqL.of h1, rfl, _, _, _, _, rfl, rfl, SqL.of h2, atI_nat hc, ?_⟩
      refine ⟨_, rfl, _, _, _, _, rfl, rfl, SqL.of h1, rfl, _, _, rfl, rfl, _, rfl, _, _, _, _, rfl, rfl, h1, rfl, ?_⟩
      refine ⟨_, rfl, _, _, _, _, rfl, rfl, SqL.of upd_same, rfl, _, _, rfl, rfl, .inr ⟨by decide, by decide⟩, _, rfl, _, _, rfl, rfl, .inl ⟨_, rfl, _, _, rfl, rfl, hbig, _, rfl, _, _, _, _, rfl, rfl, upd_same, rfl, ?_⟩⟩
      refine ⟨_, rfl, _, _, _, _, rfl, rfl, upd_same, rfl, ?_⟩
      have kk : Keep [p] H (upd (upd (upd H p (.lst (List.set [.ref q, .int (j : Int), .int i2, .int i3, .int i4, .int i5] 1 (.int ((j : Int) + 1))))) p
        (.lst (List.set (List.set [.ref q, .int (j : Int), .int i2, .int i3, .int i4, .int i5] 1 (.int ((j : Int) + 1))) 3 (.int ((i3 * 31 + ns[j]) % 2147483647))))) p
        (.lst (List.set (List.set (List.set [.ref q, .int (j : Int), .int i2, .int i3, .int i4, .int i5] 1 (.int ((j : Int) + 1))) 3 (.int ((i3 * 31 + ns[j]) % 2147483647))) 4 (.int 7)))) :=
        ((Keep.at_ (List.mem_singleton.mpr rfl)).then_at (List.mem_singleton.mpr rfl)).then_at (List.mem_singleton.mpr rfl)
      refine ⟨_, rfl, _, _, rfl, rfl, ⟨by decide, by decide, by decide⟩, _, _, rfl, rfl, _, rfl, iteD (fun _ => ?_) (fun _ => ?_)⟩
      · refine ⟨_, rfl, _, rfl, _, _, _, _, rfl, rfl, upd_same, rfl, ?_⟩
        exact ⟨_, _, _, _, _, _, rfl, upd_same, kk.then_at (List.mem_singleton.mpr rfl), by omega⟩
      · exact ⟨_, _, _, _, _, _, rfl, upd_same, kk, by omega⟩
    · rintro σ' H' ⟨c, j1, j2, j3, j4, j5, rfl, g1, kk, hj1⟩
      have g2 : H' q = some (.lst (ns.map V.int)) := kk q _ h2 (by simpa using hqp)
      refine ⟨_, rfl, _, _, _, _, rfl, rfl, SqL.of g1, rfl, _, _, rfl, rfl, _, rfl, iteD (fun _ => ?_) (fun _ => ?_)⟩
      · refine ⟨_, rfl, _, _, _, _, rfl, rfl, SqL.of g1, rfl, .inl ⟨_, rfl, _, rfl, _, _, rfl, rfl, hs0, ?_⟩⟩
        refine ⟨_, rfl, _, _, _, _, rfl, rfl, SqL.of g1, rfl, _, rfl, _, _, rfl, rfl, cdg, _, rfl, _, _, _, _, rfl, rfl, g1, rfl, ?_⟩
        refine ⟨_, rfl, _, _, _, _, rfl, rfl, upd_same, rfl, ?_⟩
        refine ⟨_, rfl, ?_⟩
        refine k _ _ (Int.emod_nonneg _ (by omega)) (Int.emod_lt_of_pos _ hs0) ⟨_, _, _, _, _, upd_same, ?_, hqp, hj1⟩ ((kk.then_at (List.mem_singleton.mpr rfl)).then_at (List.mem_singleton.mpr rfl))
        rw [upd_ne hqp, upd_ne hqp]; exact g2
      · refine ⟨_, rfl, _, _, _, _, rfl, rfl, SqL.of g1, rfl, _, _, rfl, rfl, _, rfl, _, _, _, _, rfl, rfl, g1, rfl, ?_⟩
        refine ⟨_, rfl, _, _, _, _, rfl, rfl, SqL.of upd_same, rfl, _, _, rfl, rfl, .inr ⟨by decide, by decide⟩, _, _, rfl, rfl, .inl ⟨_, rfl, _, _, rfl, rfl, hbig, _, rfl, _, _, _, _, rfl, rfl, upd_same, rfl, ?_⟩⟩
        refine ⟨_, rfl, _, _, _, _, rfl, rfl, SqL.of upd_same, rfl, _, _, rfl, rfl, .inr ⟨by decide, by decide⟩, _, _, rfl, rfl, .inl ⟨_, rfl, _, _, rfl, rfl, hbig, _, rfl, _, _, rfl, rfl, hs0, ?_⟩⟩
        refine k _ _ (Int.emod_nonneg _ (by omega)) (Int.emod_lt_of_pos _ hs0) ⟨_, _, _, _, _, upd_same, ?_, hqp, hj1⟩ ((kk.then_at (List.mem_singleton.mpr rfl)).then_at (List.mem_singleton.mpr rfl))
        rw [upd_ne hqp, upd_ne hqp]; exact g2
end

/-- tuples stand -/
def TK (H H' : Hp) : Prop := ∀ b xs, H b = some (.tup xs) → H' b = some (.tup xs)
theorem TK.refl (H : Hp) : TK H H := fun _ _ h => h
theorem TK.trans {H H1 H2 : Hp} (a : TK H H1) (b : TK H1 H2) : TK H H2 := fun c xs h => b c xs (a c xs h)
theorem TK.new {H : Hp} {p : Addr} {o : HO} (h : H p = none) : TK H (upd H p o) := fun b xs q => by rw [upd_ne (ne_of_none q h)]; exact q
theorem TK.lst {H : Hp} {p : Addr} {o : HO} {ys : List V} (h : H p = some (.lst ys)) : TK H (upd H p o) := fun b xs q => by
  rw [upd_ne (ne_of q h (by intro z; cases z))]; exact q
theorem Keep.tk {H H' : Hp} (k : Keep [] H H') : TK H H' := fun b xs q => k b _ q (by simp)
theorem Keep.tk1 {H H' : Hp} {p : Addr} {ys : List V} (k : Keep [p] H H') (h : H p = some (.lst ys)) : TK H H' := fun b xs q => k b _ q (by
  have := ne_of q h (by intro z; cases z)
  simpa using this)

/-! tuples that stand, in the walk's heap or in the module's -/
def KT (K : PySem.W.Frag) (a : Addr) (xs : List V) : Prop := ∃ (o : Obj) (its : Array Value) (n : Nat), K.lookup a = some o ∧ o.cls = .type "tuple" ∧ o.data = .seq its n ∧ its.size ≤ sizeLine ∧ Vals xs its.toList
def At (K : PySem.W.Frag) (H : Hp) (a : Addr) (xs : List V) : Prop := H a = some (.tup xs) ∨ KT K a xs
theorem At.sq {K : PySem.W.Frag} {H : Hp} {a : Addr} {xs : List V} (h : At K H a xs) : SqT K H a xs := by
  rcases h with h | h
  · exact SqT.of h
  · exact .inr h
theorem At.ty {K : PySem.W.Frag} {H : Hp} {a : Addr} {xs : List V} (h : At K H a xs) : TyX K H (.ref a) (.type "tuple") := by
  rcases h with h | ⟨o, its, n, h, c, _⟩
  · exact .base (.tup h)
  · exact .kTuple h c
theorem At.tk {K : PySem.W.Frag} {H H' : Hp} {a : Addr} {xs : List V} (k : TK H H') (h : At K H a xs) : At K H' a xs := by
  rcases h with h | h
  · exact .inl (k _ _ h)
  · exact .inr h
/-! the law's look whether two values are the same: only the answer True is told -/
def SameV (K : PySem.W.Frag) : Nat → Hp → V → V → Prop
  | 0, _, _, _ => False
  | n + 1, H, a, d => (a = d ∧ ((∃ x, d = .str x) ∨ (∃ i, d = .int i) ∨ (∃ b, d = .bl b) ∨ d = .non)) ∨
    ∃ p q xs ys, a = .ref p ∧ d = .ref q ∧ ((H p = some (.lst xs) ∧ H q = some (.lst ys)) ∨ (At K H p xs ∧ At K H q ys)) ∧ xs.length = ys.length ∧ xs.length ≤ sizeLine ∧
      ∀ (i : Nat) x y, xs[i]? = some x → ys[i]? = some y → SameV K n H x y
def sp_law_same (K : PySem.W.Frag) (n : Nat) : Sp := fun vs H Q _ => ∃ a d, vs = [a, d] ∧ SameV K n H a d ∧ Q (.bl true) H
theorem sameV_atom {K : PySem.W.Frag} {n : Nat} {H : Hp} {d : V} (h : (∃ x, d = .str x) ∨ (∃ i, d = .int i) ∨ (∃ b, d = .bl b) ∨ d = .non) : SameV K (n + 1) H d d := .inl ⟨rfl, h⟩
section
variable {K : PySem.W.Frag}
theorem kLT : PySem.W.kitOne K (.type "list") (.type "tuple") = some false := kit_ty (by decide +kernel)
theorem kLL : PySem.W.kitOne K (.type "list") (.type "list") = some true := kit_ty (by decide +kernel)
theorem kTT : PySem.W.kitOne K (.type "tuple") (.type "tuple") = some true := kit_ty (by decide +kernel)
theorem kTL : PySem.W.kitOne K (.type "tuple") (.type "list") = some false := kit_ty (by decide +kernel)
theorem kST : PySem.W.kitOne K (.type "str") (.type "tuple") = some false := kit_ty (by decide +kernel)
theorem kSL : PySem.W.kitOne K (.type "str") (.type "list") = some false := kit_ty (by decide +kernel)
theorem kSB : PySem.W.kitOne K (.type "str") (.type "bool") = some false := kit_ty (by decide +kernel)
theorem kSI : PySem.W.kitOne K (.type "str") (.type "int") = some false := kit_ty (by decide +kernel)
theorem kSS : PySem.W.kitOne K (.type "str") (.type "str") = some true := kit_ty (by decide +kernel)
theorem kIT : PySem.W.kitOne K (.type "int") (.type "tuple") = some false := kit_ty (by decide +kernel)
theorem kIL : PySem.W.kitOne K (.type "int") (.type "list") = some false := kit_ty (by decide +kernel)
theorem kIB : PySem.W.kitOne K (.type "int") (.type "bool") = some false := kit_ty (by decide +kernel)
theorem kII : PySem.W.kitOne K (.type "int") (.type "int") = some true := kit_ty (by decide +kernel)
theorem kBT : PySem.W.kitOne K (.type "bool") (.type "tuple") = some false := kit_ty (by decide +kernel)
theorem kBL : PySem.W.kitOne K (.type "bool") (.type "list") = some false := kit_ty (by decide +kernel)
theorem kBB : PySem.W.kitOne K (.type "bool") (.type "bool") = some true := kit_ty (by decide +kernel)
theorem kBI : PySem.W.kitOne K (.type "bool") (.type "int") = some true := kit_ty (by decide +kernel)
theorem kNT : PySem.W.kitOne K (.type "NoneType") (.type "tuple") = some false := kit_ty (by decide +kernel)
theorem kNL : PySem.W.kitOne K (.type "NoneType") (.type "list") = some false := kit_ty (by decide +kernel)
theorem kNB : PySem.W.kitOne K (.type "NoneType") (.type "bool") = some false := kit_ty (by decide +kernel)
theorem kNI : PySem.W.kitOne K (.type "NoneType") (.type "int") = some false := kit_ty (by decide +kernel)
end

section
variable {P : Program} {w : World} {K : PySem.W.Frag} {mg : Str → Option Value} {base : Heap} {C_Ratio : Addr} {C_Tape : Addr}
theorem ok_law_same0 {f : Addr} {fd : FuncData} (D : C8.Def K mg "_law_same" s_law_same f fd) (b : Binds K fd ["actual", "due"] []) : C8.Cal P w K mg base 0 "_law_same" (sp_law_same K 0) [] :=
  ⟨f, fd, ["actual", "due"], [], ⟨fun vs H Q E h => (by obtain ⟨a, d, rfl, _⟩ := h; rfl), fun A outer s H args us vs Q E _ _ _ _ h => (by obtain ⟨a, d, _, z, _⟩ := h; exact z.elim)⟩, D.mgf, D.kp, b, .nil⟩
theorem ok_law_same {f : Addr} {fd : FuncData} (D : C8.Def K mg "_law_same" s_law_same f fd) (b : Binds K fd ["actual", "due"] []) (T : Txt K mg C_Ratio C_Tape) {n k : Nat} (c_law_same : C8.Cal P w K mg base k "_law_same" (sp_law_same K n) []) :
    C8.Cal P w K mg base (k + 1) "_law_same" (sp_law_same K (n + 1)) [] := by
  refine cal0 D b .nil sc_law_same (fun vs H Q E h => ?_) (fun cdv A outer s H vs Q E hr h => ?_)
  · obtain ⟨a, d, rfl, _⟩ := h
    rfl
  · obtain ⟨a, d, rfl, hs, k⟩ := h
    have hu := hu_of hr
    refine ⟨_, (pss_cons (ps_if (PW.pt (pw_or (pt_val (pe_callB call_isi (by rfl) T.n_isinstance bo_isinstance (pa_cons (pv 1) (pa_cons (pe_bltn (v := .ty "tuple") (by rfl) T.n_tuple bo_tuple rfl) pa_nil)))) (pw_or1 (pt_val (pe_callB call_isi (by rfl) T.n_isinstance bo_isinstance (pa_cons (pv 1) (pa_cons (pe_bltn (v := .ty "list") (by rfl) T.n_list bo_list rfl) pa_nil)))))))
  (pss_cons (ps_if (PW.pt (pw_or (pt_cmpR op_ne (pe_callB call_isi (by rfl) T.n_isinstance bo_isinstance (pa_cons (pv 1) (pa_cons (pe_bltn (v := .ty "tuple") (by rfl) T.n_tuple bo_tuple rfl) pa_nil))) (pe_callB call_isi (by rfl) T.n_isinstance bo_isinstance (pa_cons (pv 0) (pa_cons (pe_bltn (v := .ty "tuple") (by rfl) T.n_tuple bo_tuple rfl) pa_nil))) (nomark _)) (pw_or1 (pt_cmpR op_ne (pe_callB call_isi (by rfl) T.n_isinstance bo_isinstance (pa_cons (pv 1) (pa_cons (pe_bltn (v := .ty "list") (by rfl) T.n_list bo_list rfl) pa_nil))) (pe_callB call_isi (by rfl) T.n_isinstance bo_isinstance (pa_cons (pv 0) (pa_cons (pe_bltn (v := .ty "list") (by rfl) T.n_list bo_list rfl) pa_nil))) (nomark _)))))
    (pss_one (ps_ret pe_bl))
    pss_nil)
  (pss_cons (ps_if (pt_cmpR op_ne (pe_callB call_len_seq (by rfl) T.n_len bo_len (pa_cons (pv 0) pa_nil)) (pe_callB call_len_seq (by rfl) T.n_len bo_len (pa_cons (pv 1) pa_nil)) (nomark _))
    (pss_one (ps_ret pe_bl))
    pss_nil)
  (pss_cons (ps_for PassesOwn.never rfl (pi_range1 (by rfl) T.n_range (pa_cons (pe_callB call_len_seq (by rfl) T.n_len bo_len (pa_cons (pv 1) pa_nil)) pa_nil)) (pg_name (i := 2) sc_law_same.nd rfl (by first | exact Or.inl rfl | exact Or.inr rfl))
    (pss_one (ps_if (pt_not (pt_val (pe_c c_law_same hr (by first | exact Nat.le_refl _ | decide) rfl (pa_cons (pe_ix ix_seq (pv 0) (pv 2) (fun _ _ => rfl)) (pa_cons (pe_ix ix_seq (pv 1) (pv 2) (fun _ _ => rfl)) pa_nil)))))
      (pss_one (ps_ret pe_bl))
      pss_nil)))
  (pss_one (ps_ret pe_bl)))))
  pss_nil)
(pss_cons (ps_if (PW.pt (pw_or (pt_cmpR op_isN (pv 1) pe_non (nomark _)) (pw_or1 (pt_val (pe_callB call_isi (by rfl) T.n_isinstance bo_isinstance (pa_cons (pv 1) (pa_cons (pe_bltn (v := .ty "bool") (by rfl) T.n_bool bo_bool rfl) pa_nil)))))))
  (pss_one (ps_ret (pe_and (pe_cmpR op_eq (pe_cmpR op_isN (pv 0) pe_non (nomark _)) (pe_cmpR op_isN (pv 1) pe_non (nomark _)) (nomark _)) (pe_and (pe_or (pe_cmpR op_isN (pv 1) pe_non (nomark _)) (pe_one (pe_callB call_isi (by rfl) T.n_isinstance bo_isinstance (pa_cons (pv 0) (pa_cons (pe_bltn (v := .ty "bool") (by rfl) T.n_bool bo_bool rfl) pa_nil))))) (pe_one (pe_cmpR op_eq (pv 0) (pv 1) (nomark _)))))))
  pss_nil)
(pss_cons (ps_if (pt_val (pe_callB call_isi (by rfl) T.n_isinstance bo_isinstance (pa_cons (pv 1) (pa_cons (pe_bltn (v := .ty "int") (by rfl) T.n_int bo_int rfl) pa_nil))))
  (pss_one (ps_ret (pe_and (pe_callB call_isi (by rfl) T.n_isinstance bo_isinstance (pa_cons (pv 0) (pa_cons (pe_bltn (v := .ty "int") (by rfl) T.n_int bo_int rfl) pa_nil))) (pe_and (pe_not (pe_callB call_isi (by rfl) T.n_isinstance bo_isinstance (pa_cons (pv 0) (pa_cons (pe_bltn (v := .ty "bool") (by rfl) T.n_bool bo_bool rfl) pa_nil)))) (pe_one (pe_cmpR op_eq (pv 0) (pv 1) (nomark _)))))))
  pss_nil)
(pss_one (ps_ret (pe_and (pe_callB call_isi (by rfl) T.n_isinstance bo_isinstance (pa_cons (pv 0) (pa_cons (pe_bltn (v := .ty "str") (by rfl) T.n_str bo_str rfl) pa_nil))) (pe_one (pe_cmpR op_eq (pv 0) (pv 1) (nomark _))))))))), ?_⟩
    -- the part behind the lengths, for lists and for tuples
    rcases hs with ⟨rfl, ⟨x, rfl⟩ | ⟨x, rfl⟩ | ⟨x, rfl⟩ | rfl⟩ | ⟨p, q, xs, ys, rfl, rfl, hh, hl, hz, hall⟩
    · refine ⟨_, rfl, _, _, _, _, _, rfl, .ty _, .base (.str x), kST, _, rfl, iteF ⟨_, rfl, _, _, _, _, _, rfl, .ty _, .base (.str x), kSL, _, rfl, iteF ?_⟩⟩
      refine ⟨_, rfl, rfl, _, rfl, iteDF (by simp) ⟨_, rfl, _, _, _, _, _, rfl, .ty _, .base (.str x), kSB, _, rfl, iteF ?_⟩⟩
      refine ⟨_, rfl, _, _, _, _, _, rfl, .ty _, .base (.str x), kSI, _, rfl, iteF ?_⟩
      refine ⟨_, rfl, _, _, _, _, _, rfl, .ty _, .base (.str x), kSS, _, rfl, iteT ⟨_, rfl, _, rfl, rfl, ?_⟩⟩
      rw [decide_eq_true rfl]; exact k
    · refine ⟨_, rfl, _, _, _, _, _, rfl, .ty _, .base (.int x), kIT, _, rfl, iteF ⟨_, rfl, _, _, _, _, _, rfl, .ty _, .base (.int x), kIL, _, rfl, iteF ?_⟩⟩
      refine ⟨_, rfl, rfl, _, rfl, iteDF (by simp) ⟨_, rfl, _, _, _, _, _, rfl, .ty _, .base (.int x), kIB, _, rfl, iteF ?_⟩⟩
      refine ⟨_, rfl, _, _, _, _, _, rfl, .ty _, .base (.int x), kII, _, rfl, iteT ?_⟩
      refine ⟨_, rfl, _, _, _, _, _, rfl, .ty _, .base (.int x), kII, _, rfl, iteT ⟨_, rfl, _, _, _, _, _, rfl, .ty _, .base (.int x), kIB, _, rfl, _, rfl, iteT ⟨_, rfl, _, rfl, rfl, ?_⟩⟩⟩
      rw [decide_eq_true rfl]; exact k
    · refine ⟨_, rfl, _, _, _, _, _, rfl, .ty _, .base (.bl x), kBT, _, rfl, iteF ⟨_, rfl, _, _, _, _, _, rfl, .ty _, .base (.bl x), kBL, _, rfl, iteF ?_⟩⟩
      refine ⟨_, rfl, rfl, _, rfl, iteDF (by simp) ⟨_, rfl, _, _, _, _, _, rfl, .ty _, .base (.bl x), kBB, _, rfl, iteT ?_⟩⟩
      refine ⟨_, rfl, rfl, _, rfl, rfl, rfl, _, rfl, iteDT (by simp) ?_⟩
      refine ⟨_, rfl, rfl, _, rfl, iteDF (by simp) ?_⟩
      refine ⟨_, rfl, _, _, _, _, _, rfl, .ty _, .base (.bl x), kBB, ?_⟩
      refine ⟨_, rfl, iteT ⟨_, rfl, _, rfl, rfl, ?_⟩⟩
      rw [decide_eq_true rfl]; exact k
    · refine ⟨_, rfl, _, _, _, _, _, rfl, .ty _, .base .non, kNT, _, rfl, iteF ⟨_, rfl, _, _, _, _, _, rfl, .ty _, .base .non, kNL, _, rfl, iteF ?_⟩⟩
      refine ⟨_, rfl, rfl, _, rfl, iteDT (by simp) ?_⟩
      refine ⟨_, rfl, rfl, _, rfl, rfl, rfl, _, rfl, iteDT (by simp) ?_⟩
      refine ⟨_, rfl, rfl, _, rfl, iteDT (by simp) ?_⟩
      refine ⟨_, rfl, iteT ⟨_, rfl, _, rfl, rfl, ?_⟩⟩
      rw [decide_eq_true rfl]; exact k
    · obtain ⟨t, b1, b2, ty1, ty2, k1, k2, hb, sq⟩ : ∃ (t : Value) (b1 b2 : Bool), TyX K H (.ref p) t ∧ TyX K H (.ref q) t ∧ PySem.W.kitOne K t (.type "tuple") = some b1 ∧ PySem.W.kitOne K t (.type "list") = some b2 ∧ (b1 = true ∨ b2 = true) ∧
          ((SqL K H p xs ∧ SqL K H q ys) ∨ (SqT K H p xs ∧ SqT K H q ys)) := by
        rcases hh with ⟨h1, h2⟩ | ⟨h1, h2⟩
        · exact ⟨_, _, _, .base (.lst h1), .base (.lst h2), kLT, kLL, .inr rfl, .inl ⟨SqL.of h1, SqL.of h2⟩⟩
        · exact ⟨_, _, _, h1.ty, h2.ty, kTT, kTL, .inl rfl, .inr ⟨h1.sq, h2.sq⟩⟩
      have sqp : SqL K H p xs ∨ SqT K H p xs := sq.elim (fun z => .inl z.1) fun z => .inr z.1
      have sqq : SqL K H q ys ∨ SqT K H q ys := sq.elim (fun z => .inl z.2) fun z => .inr z.2
      have bz : (ys.length : Int) < 2 ^ 62 := by
        have e : sizeLine = 16777216 := sizeLine_eq
        have : ys.length ≤ 16777216 := by omega
        omega
      -- the part behind the first test
      have rest : ∀ {D : Ends} {t1 : TS}, t1 D [some (.ref p), some (.ref q), none] H → t1 D [some (.ref p), some (.ref q), none] H := fun z => z
      refine ⟨_, rfl, _, _, _, _, _, rfl, .ty _, ty2, k1, _, rfl, iteB (fun e1 => ?_) (fun e1 => ⟨_, rfl, _, _, _, _, _, rfl, .ty _, ty2, k2, _, rfl, iteB (fun e2 => ?_) (fun e2 => ?_)⟩)⟩
      rotate_left 2
      · rcases hb with z | z
        · rw [e1] at z; cases z
        · rw [e2] at z; cases z
      all_goals
        refine ⟨_, rfl, _, _, _, _, _, rfl, .ty _, ty2, k1, _, rfl, _, _, _, _, _, rfl, .ty _, ty1, k1, rfl, _, rfl, iteNF (by simp) ?_⟩
        refine ⟨_, rfl, _, _, _, _, _, rfl, .ty _, ty2, k2, _, rfl, _, _, _, _, _, rfl, .ty _, ty1, k2, rfl, _, rfl, iteNF (by simp) ?_⟩
        refine ⟨_, rfl, _, _, rfl, sqp, _, rfl, _, _, rfl, sqq, rfl, _, rfl, iteNF (by rw [hl]) ?_⟩
        refine ⟨_, rfl, _, _, rfl, sqq, _, rfl, by omega, bz, for_range (lo := 0) (n := ys.length) (fun i σ H' => ∃ kv, σ = [some (.ref p), some (.ref q), kv] ∧ H' = H) ⟨none, rfl, rfl⟩ ?_ ?_⟩
        · rintro i σ H' hi ⟨kv, rfl, rfl⟩
          have hx : xs[i]? = some (xs[i]'(by omega)) := List.getElem?_eq_getElem _
          have hy : ys[i]? = some ys[i] := List.getElem?_eq_getElem _
          have e0 : (0 : Int) + (i : Int) = (i : Int) := by omega
          rw [e0]
          rcases sq with ⟨s1, s2⟩ | ⟨s1, s2⟩
          · refine ⟨_, rfl, _, rfl, .inl ⟨_, _, _, _, rfl, rfl, s1, atI_nat hx, _, rfl, _, rfl, .inl ⟨_, _, _, _, rfl, rfl, s2, atI_nat hy, ?_⟩⟩⟩
            exact ⟨_, _, rfl, hall i _ _ hx hy, _, rfl, iteF ⟨_, rfl, rfl⟩⟩
          · refine ⟨_, rfl, _, rfl, .inr (.inl ⟨_, _, _, _, rfl, rfl, s1, atI_nat hx, _, rfl, _, rfl, .inr (.inl ⟨_, _, _, _, rfl, rfl, s2, atI_nat hy, ?_⟩)⟩)⟩
            exact ⟨_, _, rfl, hall i _ _ hx hy, _, rfl, iteF ⟨_, rfl, rfl⟩⟩
        · rintro σ H' ⟨kv, rfl, rfl⟩
          exact k
end

section
variable {P : Program} {w : World} {K : PySem.W.Frag} {mg : Str → Option Value} {base : Heap} {C_Ratio : Addr} {C_Tape : Addr}
theorem ok_rat_init {f : Addr} {fd : FuncData} {ds : List Value} {dvs : List V} (M : Mk K C_Ratio f) (F : C8.Fun K "__init__" "Ratio.__init__" s_Ratio___init f fd) (b : Binds K fd ["self", "num", "den"] ds) (d : Vals dvs ds) (T : Txt K mg C_Ratio C_Tape) :
    C8.Mak P w K mg base 1 "Ratio" C_Ratio (sp_rat C_Ratio) dvs := by
  refine mak0 M T.m_Ratio F b d sc_Ratio___init (fun vs H Q E h => ?_) (fun cdv A outer s H vs Q E hr h => ?_)
  · obtain ⟨x, dx, n, d, rfl, _⟩ := h
    rfl
  · obtain ⟨x, dx, n, d, rfl, hd0, hdb, hx, k⟩ := h
    refine ⟨_, (pss_cons (ps_if (pt_cmpR op_eq (pv 2) pe_int (nomark _))
  (pss_one ps_never)
  pss_nil)
(pss_cons (ps_set (i := 3) sc_Ratio___init.nd rfl (by first | exact Or.inl rfl | exact Or.inr rfl) (pe_callBfun cr_gcd (by rfl) T.f_gcd (pa_cons (pv 1) (pa_cons (pv 2) pa_nil))))
(pss_cut (ps_if (pt_cmpR op_lt (pv 2) pe_int (nomark _))
  (pss_one (ps_set (i := 3) sc_Ratio___init.nd rfl (by first | exact Or.inl rfl | exact Or.inr rfl) (pe_un un_neg (pv 3))))
  pss_nil)
(pss_cons (ps_fld (pv 0) (pe_op op_fdivG (pv 1) (pv 3)) rfl)
(pss_one (ps_fld (pv 0) (pe_op op_fdivG (pv 2) (pv 3)) rfl)))))), ?_⟩
    refine ⟨_, rfl, rfl, _, rfl, iteDF (fun z => hd0 (V.int.inj z)) ?_⟩
    refine ⟨_, rfl, _, rfl, _, _, rfl, ?_⟩
    have hg := gcd_pos_of (n := n) hd0
    have hgb : Nat.gcd n.natAbs d.natAbs < 2 ^ 8000 := Nat.lt_of_le_of_lt (Nat.le_of_dvd (by omega) (Nat.gcd_dvd_right _ _)) hdb
    -- part is the sign's part
    refine ⟨fun σ H' => σ = [some (.ref x), some (.int n), some (.int d), some (.int (sg n d))] ∧ H' = H, ?_, ?_⟩
    · refine ⟨_, rfl, _, _, rfl, rfl, _, rfl, iteD (fun hn => ?_) (fun hn => ?_)⟩
      · refine ⟨_, rfl, _, rfl, ?_, rfl⟩
        unfold sg; rw [if_pos hn]; rfl
      · refine ⟨?_, rfl⟩
        unfold sg; rw [if_neg hn]; rfl
    · rintro σ H' ⟨rfl, rfl⟩
      have hs := sg_ne (n := n) hd0
      have hsb : CDivG n (sg n d) := ⟨hs, by
        refine Nat.lt_trans (log2_lt9 (b := 8000) ?_ (by decide)) (by decide)
        have : (sg n d).natAbs = Nat.gcd n.natAbs d.natAbs := by unfold sg; split <;> omega
        omega⟩
      refine ⟨_, rfl, _, rfl, _, _, rfl, rfl, hsb, _, rfl, x, C_Ratio, dx, [], rfl, hx, T.cl_Ratio, T.a_Ratio_num, by show 0 < 1000; decide, ?_⟩
      refine ⟨_, rfl, _, rfl, _, _, rfl, rfl, hsb, _, rfl, x, C_Ratio, dx, _, rfl, upd_same, T.cl_Ratio, T.a_Ratio_den, by show 1 < 1000; decide, ?_⟩
      exact k _ ((Keep.at_ (List.mem_singleton.mpr rfl)).then_at (List.mem_singleton.mpr rfl)) upd_same
end

/-! tapes -/
inductive PL (H : Hp) : List V → List (Int × Int) → Prop
  | nil : PL H [] []
  | cons {t : Addr} {r c : Int} {vs : List V} {l : List (Int × Int)} : H t = some (.tup [.int r, .int c]) → PL H vs l → PL H (.ref t :: vs) ((r, c) :: l)
theorem PL.tk {H H' : Hp} (k : TK H H') {vs : List V} {l : List (Int × Int)} (h : PL H vs l) : PL H' vs l := by
  induction h with
  | nil => exact .nil
  | cons h _ ih => exact .cons (k _ _ h) ih
theorem PL.snoc {H : Hp} {vs : List V} {l : List (Int × Int)} {t : Addr} {r c : Int} (h : PL H vs l) (ht : H t = some (.tup [.int r, .int c])) : PL H (vs ++ [.ref t]) (l ++ [(r, c)]) := by
  induction h with
  | nil => exact .cons ht .nil
  | cons h _ ih => exact .cons h ih
theorem PL.len {H : Hp} {vs : List V} {l : List (Int × Int)} (h : PL H vs l) : vs.length = l.length := by
  induction h with
  | nil => rfl
  | cons _ _ ih => rw [List.length_cons, List.length_cons, ih]
theorem PL.get {H : Hp} {vs : List V} {l : List (Int × Int)} (h : PL H vs l) : ∀ {i : Nat} {v : V}, vs[i]? = some v → ∃ t r c, v = .ref t ∧ l[i]? = some (r, c) ∧ H t = some (.tup [.int r, .int c]) := by
  induction h with
  | nil => intro i v h; simp at h
  | cons h _ ih =>
    intro i v hv
    cases i with
    | zero => simp at hv; subst hv; exact ⟨_, _, _, rfl, rfl, h⟩
    | succ i => simpa using ih (by simpa using hv)
structure TapeAt (C : Addr) (H : Hp) (x rx tx : Addr) (rs : List Int) (tk : List (Int × Int)) : Prop where
  o : ∃ dx, H x = some (.ins C dx [("results", .ref rx), ("taken", .ref tx)])
  r : H rx = some (.lst (rs.map V.int))
  t : ∃ xs, H tx = some (.lst xs) ∧ PL H xs tk
  ne : rx ≠ tx
theorem TapeAt.keep {C : Addr} {H H' : Hp} {x rx tx : Addr} {rs : List Int} {tk : List (Int × Int)} {W : List Addr} (h : TapeAt C H x rx tx rs tk) (k : Keep W H H') (kt : TK H H') (w1 : x ∉ W) (w2 : rx ∉ W) (w3 : tx ∉ W) : TapeAt C H' x rx tx rs tk := by
  obtain ⟨dx, o⟩ := h.o
  obtain ⟨xs, t1, t2⟩ := h.t
  exact ⟨⟨dx, k _ _ o w1⟩, k _ _ h.r w2, ⟨xs, k _ _ t1 w3, t2.tk kt⟩, h.ne⟩
def nextR (rs : List Int) (tk : List (Int × Int)) (c : Int) : Int := if tk.length < rs.length then (rs.getD tk.length 0) % c else 0
def sp_tape (K : PySem.W.Frag) (C : Addr) : Sp := fun vs H Q _ => ∃ (x dx src : Addr) (rs : List Int), vs = [.ref x, .ref src] ∧ SqL K H src (rs.map V.int) ∧ H x = some (.ins C dx []) ∧ ∀ rx tx H', H rx = none → H tx = none → Keep [x] H H' → TapeAt C H' x rx tx rs [] → Q .non H'
def sp_take (C : Addr) : Sp := fun vs H Q _ => ∃ (x rx tx : Addr) (rs : List Int) (tk : List (Int × Int)) (c : Int), vs = [.ref x, .int c] ∧ 0 < c ∧ c < 1073741824 ∧ tk.length ≤ 1000 ∧ TapeAt C H x rx tx rs tk ∧
  ∀ H', Keep [tx] H H' → TapeAt C H' x rx tx rs (tk ++ [(nextR rs tk c, c)]) → Q (.int (nextR rs tk c)) H'
def prodC : List (Int × Int) → Int
  | [] => 1
  | p :: l => p.2 * prodC l
def CntOk (tk : List (Int × Int)) : Prop := ∀ p ∈ tk, 0 < p.2 ∧ p.2 < 65536
theorem prodC_snoc (l : List (Int × Int)) (r c : Int) : prodC (l ++ [(r, c)]) = prodC l * c := by
  induction l with
  | nil => show c * 1 = 1 * c; omega
  | cons a l ih =>
    show a.2 * prodC (l ++ [(r, c)]) = a.2 * prodC l * c
    rw [ih, Int.mul_assoc]
theorem prodC_pos : ∀ {l : List (Int × Int)}, CntOk l → 0 < prodC l
  | [], _ => by decide
  | p :: l, h => Int.mul_pos (h p (List.mem_cons_self ..)).1 (prodC_pos fun q hq => h q (List.mem_cons_of_mem _ hq))
theorem prodC_le : ∀ {l : List (Int × Int)}, CntOk l → (prodC l).natAbs ≤ 65536 ^ l.length
  | [], _ => by decide
  | p :: l, h => by
    have h1 := h p (List.mem_cons_self ..)
    have h2 := prodC_le (l := l) fun q hq => h q (List.mem_cons_of_mem _ hq)
    show (p.2 * prodC l).natAbs ≤ 65536 ^ (l.length + 1)
    rw [Int.natAbs_mul, Nat.pow_succ, Nat.mul_comm]
    exact Nat.mul_le_mul h2 (by omega)
theorem prodC_big {l : List (Int × Int)} (h : CntOk l) (hl : l.length ≤ 100) : (prodC l).natAbs < 2 ^ 8000 := by
  refine Nat.lt_of_le_of_lt (prodC_le h) ?_
  have e : (65536 : Nat) = 2 ^ 16 := by decide
  rw [e, ← Nat.pow_mul]
  exact Nat.pow_lt_pow_right (by decide) (by omega)
def folR : List (Int × Int) → Option (List Int)
  | [] => none
  | (r, c) :: l => if r + 1 < c then some ((l.reverse.map (·.1)) ++ [r + 1]) else folR l
def foll (tk : List (Int × Int)) : Option (List Int) := folR tk.reverse
theorem foll_snoc (l : List (Int × Int)) (r c : Int) : foll (l ++ [(r, c)]) = if r + 1 < c then some (l.map (·.1) ++ [r + 1]) else foll l := by
  unfold foll
  rw [List.reverse_append]
  show folR ((r, c) :: l.reverse) = _
  rw [folR, List.reverse_reverse]
theorem cut_to {xs : List V} {m : Nat} (h : m ≤ xs.length) : cutV xs none (some (m : Int)) = xs.take m := by
  unfold cutV
  rw [HT.sIx_nat, HT.sIx_none, List.drop_zero, Nat.sub_zero, Nat.min_eq_left h]
def sp_following (C : Addr) : Sp := fun vs H Q _ => ∃ (x rx tx : Addr) (rs : List Int) (tk : List (Int × Int)), vs = [.ref x] ∧ tk.length ≤ 1000 ∧ TapeAt C H x rx tx rs tk ∧
  ((foll tk = none → Q .non H) ∧ ∀ ys l H', foll tk = some ys → H l = none → H' l = some (.lst (ys.map V.int)) → Keep [] H H' → Q (.ref l) H')
def sp_chance (C CR : Addr) : Sp := fun vs H Q _ => ∃ (x rx tx : Addr) (rs : List Int) (tk : List (Int × Int)), vs = [.ref x] ∧ tk.length ≤ 100 ∧ CntOk tk ∧ TapeAt C H x rx tx rs tk ∧
  ∀ r H', Keep [] H H' → RatAt CR H' r (redN 1 (prodC tk)) (redD 1 (prodC tk)) → Q (.ref r) H'
section
variable {P : Program} {w : World} {K : PySem.W.Frag} {mg : Str → Option Value} {base : Heap} {C_Ratio : Addr} {C_Tape : Addr}
theorem ok_tape_init {f : Addr} {fd : FuncData} (M : Mk K C_Tape f) (F : C8.Fun K "__init__" "Tape.__init__" s_Tape___init f fd) (b : Binds K fd ["self", "results"] []) (T : Txt K mg C_Ratio C_Tape) :
    C8.Mak P w K mg base 1 "Tape" C_Tape (sp_tape K C_Tape) [] := by
  refine mak0 M T.m_Tape F b .nil sc_Tape___init (fun vs H Q E h => ?_) (fun cdv A outer s H vs Q E hr h => ?_)
  · obtain ⟨x, dx, src, rs, rfl, _⟩ := h
    rfl
  · obtain ⟨x, dx, src, rs, rfl, hS, hx, k⟩ := h
    refine ⟨_, (pss_cons (ps_fld (pv 0) (pe_callTy call_list_of (by rfl) T.n_list bo_list (pa_cons (pv 1) pa_nil)) rfl)
(pss_one (ps_fld (pv 0) (pe_lst pa_nil) rfl))), ?_⟩
    refine ⟨_, rfl, _, _, rfl, .inl hS, fun rx nrx => ?_⟩
    have exr : x ≠ rx := ne_of_none hx nrx
    refine ⟨_, rfl, x, C_Tape, dx, [], rfl, by rw [upd_ne exr]; exact hx, T.cl_Tape, T.a_Tape_results, by show 0 < 1000; decide, ?_⟩
    refine ⟨by show 0 ≤ sizeLine; decide, fun tx ntx => ?_⟩
    have ext : x ≠ tx := ne_of_none (H := upd (upd H rx (.lst (rs.map V.int))) x _) upd_same ntx
    have ert : rx ≠ tx := ne_of_none (H := upd (upd H rx (.lst (rs.map V.int))) x _) (by rw [upd_ne exr.symm]; exact upd_same) ntx
    refine ⟨_, rfl, x, C_Tape, dx, _, rfl, by rw [upd_ne ext]; exact upd_same, T.cl_Tape, T.a_Tape_taken, by show 1 < 1000; decide, ?_⟩
    have ntx' : H tx = none := by
      rw [upd_ne ext.symm, upd_ne ert.symm] at ntx
      exact ntx
    refine k rx tx _ nrx ntx' ?_ ⟨⟨dx, upd_same⟩, ?_, ⟨[], ?_, .nil⟩, ert⟩
    · exact (((Keep.new nrx).then_at (List.mem_singleton.mpr rfl)).then_own ntx').then_at (List.mem_singleton.mpr rfl)
    · rw [upd_ne exr.symm, upd_ne ert, upd_ne exr.symm]; exact upd_same
    · rw [upd_ne ext.symm]; exact upd_same
theorem ok_tape_take {f : Addr} {fd : FuncData} (me : Meth K C_Tape "take" f) (F : C8.Fun K "take" "Tape.take" s_Tape_take f fd) (b : Binds K fd ["self", "count"] []) (T : Txt K mg C_Ratio C_Tape) : C8.Met P w K mg base 1 C_Tape "take" (sp_take C_Tape) [] := by
  refine met0 T.cl_Tape me F b sc_Tape_take (fun vs H Q E h => ?_) (fun cdv A outer s H vs Q E hr h => ?_)
  · obtain ⟨x, rx, tx, rs, tk, c, rfl, _⟩ := h
    rfl
  · obtain ⟨x, rx, tx, rs, tk, c, rfl, c0, c1, hl, ⟨⟨dx, ho⟩, hr1, ⟨xs, ht, pl⟩, hne⟩, k⟩ := h
    refine ⟨_, (pss_cons (ps_set (i := 2) sc_Tape_take.nd rfl (by first | exact Or.inl rfl | exact Or.inr rfl) pe_int)
(pss_cut (ps_if (pt_cmpR op_lt (pe_callB call_len_seq (by rfl) T.n_len bo_len (pa_cons (pe_fld (pv 0) rfl) pa_nil)) (pe_callB call_len_seq (by rfl) T.n_len bo_len (pa_cons (pe_fld (pv 0) rfl) pa_nil)) (nomark _))
  (pss_one (ps_set (i := 2) sc_Tape_take.nd rfl (by first | exact Or.inl rfl | exact Or.inr rfl) (pe_op op_mod (pe_ix ix_list (pe_fld (pv 0) rfl) (pe_callB call_len_seq (by rfl) T.n_len bo_len (pa_cons (pe_fld (pv 0) rfl) pa_nil)) (fun _ _ => rfl)) (pv 1))))
  pss_nil)
(pss_cons (ps_expr (pe_bm PySem.F.plainAttrs_list PySem.F.slot_list_append PySem.F.type_list_append mt_append (pe_fld (pv 0) rfl) (pa_cons (pe_tup (pa_cons (pv 2) (pa_cons (pv 1) pa_nil))) pa_nil)))
(pss_one (ps_ret (pv 2)))))), ?_⟩
    refine ⟨fun σ H' => H' = H ∧ σ = [some (.ref x), some (.int c), some (.int (nextR rs tk c))], ?_, ?_⟩
    · have hlen := pl.len
      refine ⟨_, rfl, x, C_Tape, dx, _, _, rfl, ho, T.cl_Tape, T.a_Tape_taken, rfl, _, _, rfl, .inl (SqL.of ht), _, rfl, x, C_Tape, dx, _, _, rfl, ho, T.cl_Tape, T.a_Tape_results, rfl, _, _, rfl, .inl (SqL.of hr1), _, _, rfl, rfl, _, rfl, iteD (fun h => ?_) (fun h => ⟨rfl, ?_⟩)⟩
      · rw [List.length_map, hlen] at h
        have h' : tk.length < rs.length := by omega
        have hget : (rs.map V.int)[xs.length]? = some (.int (rs.getD tk.length 0)) := by
          rw [hlen, List.getElem?_map, List.getD_eq_getElem?_getD, List.getElem?_eq_getElem h']; rfl
        refine ⟨_, rfl, x, C_Tape, dx, _, _, rfl, ho, T.cl_Tape, T.a_Tape_results, rfl, _, rfl, x, C_Tape, dx, _, _, rfl, ho, T.cl_Tape, T.a_Tape_taken, rfl, _, _, rfl, .inl (SqL.of ht), _, _, _, _, rfl, rfl, SqL.of hr1, atI_nat hget, _, rfl, _, _, rfl, rfl, c0, rfl, ?_⟩
        unfold nextR
        rw [if_pos h']; rfl
      · rw [List.length_map, hlen] at h
        unfold nextR
        rw [if_neg (by omega)]; rfl
    rintro σ H' ⟨rfl, rfl⟩
    refine ⟨_, rfl, x, C_Tape, dx, _, _, rfl, ho, T.cl_Tape, T.a_Tape_taken, rfl, .inl ⟨rfl, _, SqL.of ht⟩, _, rfl, _, rfl, by show 2 ≤ sizeLine; decide, fun u nu => ?_⟩
    have ku : Keep [] H' (upd H' u (.tup [.int (nextR rs tk c), .int c])) := Keep.new nu
    have ht' := ku _ _ ht (by simp)
    have eut : u ≠ tx := (ne_of_none ht nu).symm
    have ext : x ≠ tx := ne_of ho ht (by intro z; cases z)
    refine ⟨_, _, _, rfl, rfl, ht', by rw [pl.len]; exact smallL (by omega), ?_⟩
    have kk : Keep [tx] H' (upd (upd H' u (.tup [.int (nextR rs tk c), .int c])) tx (.lst (xs ++ [.ref u]))) := (ku.mono (by simp)).then_at (List.mem_singleton.mpr rfl)
    have kt : TK H' (upd (upd H' u (.tup [.int (nextR rs tk c), .int c])) tx (.lst (xs ++ [.ref u]))) := (TK.new nu).trans (TK.lst ht')
    exact ⟨_, rfl, k _ kk ⟨⟨dx, kk _ _ ho (by simpa using ext)⟩, kk _ _ hr1 (by simpa using hne), ⟨_, upd_same, (pl.tk kt).snoc (by rw [upd_ne eut]; exact upd_same)⟩, hne⟩⟩
theorem ok_tape_chance {f : Addr} {fd : FuncData} (me : Meth K C_Tape "chance" f) (F : C8.Fun K "chance" "Tape.chance" s_Tape_chance f fd) (b : Binds K fd ["self"] []) (T : Txt K mg C_Ratio C_Tape) (c_Ratio : C8.Mak P w K mg base 1 "Ratio" C_Ratio (sp_rat C_Ratio) []) :
    C8.Met P w K mg base 3 C_Tape "chance" (sp_chance C_Tape C_Ratio) [] := by
  refine met0 T.cl_Tape me F b sc_Tape_chance (fun vs H Q E h => ?_) (fun cdv A outer s H vs Q E hr h => ?_)
  · obtain ⟨x, rx, tx, rs, tk, rfl, _⟩ := h
    rfl
  · obtain ⟨x, rx, tx, rs, tk, rfl, hl, hc, ⟨⟨dx, ho⟩, hr1, ⟨xs, ht, pl⟩, hne⟩, k⟩ := h
    refine ⟨_, (pss_cons (ps_set (i := 1) sc_Tape_chance.nd rfl (by first | exact Or.inl rfl | exact Or.inr rfl) pe_int)
(pss_cons (ps_for PassesOwn.never rfl (pi_list (pe_fld (pv 0) rfl)) (pg_tup (by rfl) (pgs_cons (pg_name (i := 2) sc_Tape_chance.nd rfl (by first | exact Or.inl rfl | exact Or.inr rfl)) (pgs_cons (pg_name (i := 3) sc_Tape_chance.nd rfl (by first | exact Or.inl rfl | exact Or.inr rfl)) pgs_nil)))
  (pss_one (ps_set (i := 1) sc_Tape_chance.nd rfl (by first | exact Or.inl rfl | exact Or.inr rfl) (pe_op op_mul (pv 1) (pv 3)))))
(pss_one (ps_ret (pe_mk c_Ratio hr (by first | exact Nat.le_refl _ | decide) rfl (pa_cons pe_int (pa_cons (pv 1) pa_nil))))))), ?_⟩
    refine ⟨_, rfl, x, C_Tape, dx, _, _, rfl, ho, T.cl_Tape, T.a_Tape_taken, rfl, tx, rfl, ⟨_, SqL.of ht⟩, for_list (K := K) (a := tx) (xs := xs) (fun i σ H' => H' = H ∧ ∃ o2 o3 : Option V, σ = [some (.ref x), some (.int (prodC (tk.take i))), o2, o3]) ⟨rfl, none, none, rfl⟩ (fun i σ H' _ ⟨h, _⟩ => by rw [h]; exact SqL.of ht) ?_ ?_⟩
    · rintro i v σ H' hi ⟨rfl, o2, o3, rfl⟩
      obtain ⟨t, r, c, rfl, hg, htt⟩ := pl.get hi
      obtain ⟨hlt, he⟩ := List.getElem?_eq_some_iff.mp hg
      have hcc := hc _ (he ▸ List.getElem_mem hlt)
      refine ⟨t, _, rfl, SqT.of htt, rfl, _, _, rfl, _, _, rfl, rfl, ?_⟩
      refine ⟨_, rfl, _, rfl, _, _, rfl, rfl, .inr ⟨by have := hcc.1; omega, by have := hcc.2; omega⟩, ?_⟩
      refine ⟨rfl, some (.int r), some (.int c), ?_⟩
      rw [List.take_succ_eq_append_getElem hlt, he, prodC_snoc]; rfl
    · rintro σ H' ⟨rfl, o2, o3, rfl⟩
      rw [pl.len, List.take_length]
      have hb := prodC_pos hc
      refine ⟨_, rfl, fun r d nr nd hrd => ⟨r, d, 1, prodC tk, rfl, by omega, prodC_big hc hl, upd_same, fun H2 K2 h2 => ⟨rfl, k r H2 (keep_made nr nd K2) ⟨d, h2⟩⟩⟩⟩
theorem ok_tape_following {f : Addr} {fd : FuncData} (me : Meth K C_Tape "following" f) (F : C8.Fun K "following" "Tape.following" s_Tape_following f fd) (b : Binds K fd ["self"] []) (T : Txt K mg C_Ratio C_Tape) : C8.Met P w K mg base 1 C_Tape "following" (sp_following C_Tape) [] := by
  refine met0 T.cl_Tape me F b sc_Tape_following (fun vs H Q E h => ?_) (fun cdv A outer s H vs Q E hr h => ?_)
  · obtain ⟨x, rx, tx, rs, tk, rfl, _⟩ := h
    rfl
  · obtain ⟨x, rx, tx, rs, tk, rfl, hl, ⟨⟨dx, ho⟩, hr1, ⟨xs, ht, pl⟩, hne⟩, k⟩ := h
    refine ⟨_, (pss_cons (ps_for PassesOwn.never rfl (pi_range3 (by rfl) T.n_range (pa_cons (pe_op op_sub (pe_callB call_len_seq (by rfl) T.n_len bo_len (pa_cons (pe_fld (pv 0) rfl) pa_nil)) pe_int) (pa_cons (pe_un un_neg pe_int) (pa_cons (pe_un un_neg pe_int) pa_nil)))) (pg_name (i := 1) sc_Tape_following.nd rfl (by first | exact Or.inl rfl | exact Or.inr rfl))
  (pss_cons (ps_asg (pe_ix ix_list (pe_fld (pv 0) rfl) (pv 1) (fun _ _ => rfl)) (pg_tup (by rfl) (pgs_cons (pg_name (i := 2) sc_Tape_following.nd rfl (by first | exact Or.inl rfl | exact Or.inr rfl)) (pgs_cons (pg_name (i := 3) sc_Tape_following.nd rfl (by first | exact Or.inl rfl | exact Or.inr rfl)) pgs_nil))))
  (pss_one (ps_if (pt_cmpR op_lt (pe_op op_add (pv 2) pe_int) (pv 3) (nomark _))
    (pss_one (ps_ret (pe_op op_cat (pe_lc (own := [("row", 4)]) (g := gName 4) (tt := tYes) rfl sc_Tape_following.nd (pi_list (pe_slice sl_list (pe_fld (pv 0) rfl) po_none (po_some (pv 1)))) (blkOk_by (N := ["self", "at", "result", "count", "row"]) (sc := fnScope s_Tape_following) (by decide +kernel)) (fun _ _ _ _ _ => pg_name (i := 4) sc_Tape_following.nd rfl (Or.inl rfl)) (fun _ _ _ _ _ => pts_nil) (fun _ _ _ _ _ => (pe_ix (ix_tupK (K := K)) (pv 4) pe_int (fun _ _ => rfl)))) (pe_lst (pa_cons (pe_op op_add (pv 2) pe_int) pa_nil)))))
    pss_nil))))
(pss_one (ps_ret pe_non))), ?_⟩
    have hlen := pl.len
    refine ⟨_, rfl, x, C_Tape, dx, _, _, rfl, ho, T.cl_Tape, T.a_Tape_taken, rfl, _, _, rfl, .inl (SqL.of ht), _, _, rfl, rfl, _, rfl, _, rfl, _, _, _, _, rfl, RgC.neg (by omega) (by omega) (by decide) (by decide), ?_⟩
    have en : ((xs.length : Int) - 1 - -1).toNat = tk.length := by omega
    refine for_rangeC (lo := (xs.length : Int) - 1) (c := -1) (n := ((xs.length : Int) - 1 - -1).toNat) (fun i σ H' => H' = H ∧ (∃ o1 o2 o3 : Option V, σ = [some (.ref x), o1, o2, o3, none]) ∧ foll tk = foll (tk.take (tk.length - i))) ⟨rfl, ⟨none, none, none, rfl⟩, by rw [Nat.sub_zero, List.take_length]⟩ ?_ ?_
    · rintro i σ H' hi ⟨rfl, ⟨o1, o2, o3, rfl⟩, hf⟩
      rw [en] at hi
      obtain ⟨m, hm⟩ : ∃ m : Nat, m + 1 + i = tk.length := ⟨tk.length - 1 - i, by omega⟩
      have hmi : m < tk.length := by omega
      obtain ⟨v, hv⟩ : ∃ v, xs[m]? = some v := ⟨xs[m]'(by omega), List.getElem?_eq_getElem (by omega)⟩
      obtain ⟨t, r, c, rfl, hg, htt⟩ := pl.get hv
      have eat : (xs.length : Int) - 1 + ((i : Nat) : Int) * -1 = (m : Int) := by omega
      rw [eat]
      have et : tk.length - i = m + 1 := by omega
      have et2 : tk.length - (i + 1) = m := by omega
      have hsn : tk.take (m + 1) = tk.take m ++ [(r, c)] := by rw [List.take_succ_eq_append_getElem hmi, (List.getElem?_eq_some_iff.mp hg).2]
      rw [et, hsn, foll_snoc] at hf
      refine ⟨_, rfl, x, C_Tape, dx, _, _, rfl, ho, T.cl_Tape, T.a_Tape_taken, rfl, _, rfl, _, _, _, _, rfl, rfl, SqL.of ht, atI_nat hv, t, _, rfl, SqT.of htt, rfl, _, _, rfl, _, _, rfl, rfl, ?_⟩
      refine ⟨_, rfl, _, _, rfl, rfl, _, rfl, _, _, rfl, rfl, _, rfl, iteD (fun h => ?_) (fun h => ⟨rfl, ⟨_, _, _, rfl⟩, ?_⟩)⟩
      · rw [if_pos h] at hf
        refine ⟨_, rfl, x, C_Tape, dx, _, _, rfl, ho, T.cl_Tape, T.a_Tape_taken, rfl, _, rfl, _, rfl, tx, _, rfl, SqL.of ht, fun sl nsl => ?_⟩
        rw [cut_to (show m ≤ xs.length by omega)]
        have k1 : Keep [] H' (upd H' sl (.lst (xs.take m))) := Keep.new nsl
        refine ⟨sl, rfl, ⟨_, SqL.of upd_same⟩, fun L hL => ?_⟩
        refine lc_list (K := K) (a := sl) (xs := xs.take m) (fun i H2 => H2 L = some (.lst ((tk.take i).map fun p => V.int p.1)) ∧ Keep [] (upd H' sl (.lst (xs.take m))) H2)
          ⟨upd_same, Keep.new hL⟩ (fun i H2 _ ⟨_, kk⟩ => SqL.of (kk _ _ upd_same (by simp))) ?_ ?_
        · rintro i v H2 hi2 ⟨hD, kk⟩
          have him : i < m := by
            have := (List.getElem?_eq_some_iff.mp hi2).1
            rw [List.length_take] at this
            omega
          rw [List.getElem?_take_of_lt him] at hi2
          obtain ⟨t2, r2, c2, rfl, hg2, ht2⟩ := pl.get hi2
          obtain ⟨hlt2, he2⟩ := List.getElem?_eq_some_iff.mp hg2
          refine ⟨rfl, yes_then ⟨_, rfl, _, _, _, _, rfl, rfl, SqT.of ((k1.trans kk) _ _ ht2 (by simp)), rfl, _, hD, by rw [List.length_map, List.length_take]; exact smallL (by omega), ?_, kk.then_own hL⟩⟩
          rw [List.take_succ_eq_append_getElem hlt2, he2, List.map_append]; exact upd_same
        · rintro H2 ⟨hD, kk⟩
          rw [List.length_take, Nat.min_eq_left (by omega)] at hD
          refine ⟨_, rfl, _, _, rfl, rfl, by show 1 ≤ sizeLine; decide, fun l2 nl2 => ⟨_, _, _, _, rfl, rfl, Keep.new (W := []) nl2 _ _ hD (by simp), upd_same, ?_, fun M hM => ?_⟩⟩
          · rw [List.length_map, List.length_take]; exact smallM (by simp; omega)
          · have kA := ((k1.trans kk).then_new (o := .lst [.int (r + 1)]) nl2)
            refine k.2 _ M _ hf (kA.free hM) ?_ (kA.then_new hM)
            rw [List.map_append, List.map_map]; exact upd_same
      · rw [if_neg h] at hf
        rw [et2]; exact hf
    · rintro σ H' ⟨rfl, ⟨o1, o2, o3, rfl⟩, hf⟩
      rw [en, Nat.sub_self, List.take_zero] at hf
      have := k.1 hf
      exact this
end

def sp_law_lowest : Sp := fun vs H Q _ => ∃ d : Int, vs = [.int 1, .int d] ∧ 0 < d ∧ d < 2 ^ 8000 ∧ ∀ t H', H t = none → H' t = some (.tup [.int 1, .int d]) → Keep [] H H' → Q (.ref t) H'
def sp_law_count : Sp := fun vs H Q _ => ∃ p q ns, vs = [.ref p] ∧ Pool H p q ns ∧ ∀ r H', 0 < r → r < 65536 → Pool H' p q ns → Keep [p] H H' → Q (.int r) H'
def sp_lfoll : Sp := fun vs H Q _ => ∃ (tx : Addr) (xs : List V) (tk : List (Int × Int)), vs = [.ref tx] ∧ H tx = some (.lst xs) ∧ PL H xs tk ∧ tk.length ≤ 1000 ∧
  ((foll tk = none → Q .non H) ∧ ∀ ys l H', foll tk = some ys → H l = none → H' l = some (.lst (ys.map V.int)) → Keep [] H H' → Q (.ref l) H')
theorem cdivG_one (n : Int) : CDivG n 1 := ⟨by decide, by decide⟩
section
variable {P : Program} {w : World} {K : PySem.W.Frag} {mg : Str → Option Value} {base : Heap} {C_Ratio : Addr} {C_Tape : Addr}
theorem ok_law_lowest {f : Addr} {fd : FuncData} (D : C8.Def K mg "_law_lowest" s_law_lowest f fd) (b : Binds K fd ["num", "den"] []) (T : Txt K mg C_Ratio C_Tape) : C8.Cal P w K mg base 1 "_law_lowest" sp_law_lowest [] := by
  refine cal0 D b .nil sc_law_lowest (fun vs H Q E h => ?_) (fun cdv A outer s H vs Q E hr h => ?_)
  · obtain ⟨d, rfl, _⟩ := h
    rfl
  · obtain ⟨d, rfl, d0, db, k⟩ := h
    refine ⟨_, (pss_cons (ps_set (i := 2) sc_law_lowest.nd rfl (by first | exact Or.inl rfl | exact Or.inr rfl) (pe_callB call_abs (by rfl) T.n_abs bo_abs (pa_cons (pv 0) pa_nil)))
(pss_cons (ps_set (i := 3) sc_law_lowest.nd rfl (by first | exact Or.inl rfl | exact Or.inr rfl) (pv 1))
(pss_cut (ps_for PassesOwn.never rfl (pi_range1 (by rfl) T.n_range (pa_cons pe_int pa_nil)) (pg_name (i := 4) sc_law_lowest.nd rfl (by first | exact Or.inl rfl | exact Or.inr rfl))
  (pss_cons (ps_if (pt_cmpR op_eq (pv 3) pe_int (nomark _))
    (pss_one ps_break)
    pss_nil)
  (pss_cons (ps_set (i := 5) sc_law_lowest.nd rfl (by first | exact Or.inl rfl | exact Or.inr rfl) (pe_op op_mod (pe_callTy call_int1 (by rfl) T.n_int bo_int (pa_cons (pv 2) pa_nil)) (pv 3)))
  (pss_cons (ps_set (i := 2) sc_law_lowest.nd rfl (by first | exact Or.inl rfl | exact Or.inr rfl) (pv 3))
  (pss_one (ps_set (i := 3) sc_law_lowest.nd rfl (by first | exact Or.inl rfl | exact Or.inr rfl) (pv 5)))))))
(pss_one (ps_ret (pe_tup (pa_cons (pe_op op_fdivG (pv 0) (pv 2)) (pa_cons (pe_op op_fdivG (pv 1) (pv 2)) pa_nil)))))))), ?_⟩
    refine ⟨_, rfl, _, rfl, _, rfl, ?_⟩
    refine ⟨fun σ H' => H' = H ∧ ∃ o4 o5 : Option V, σ = [some (.int 1), some (.int d), some (.int 1), some (.int 0), o4, o5], ?_, ?_⟩
    · refine ⟨4000, rfl, by decide, by decide, for_range (lo := 0) (n := 4000) (fun i σ H' => H' = H ∧ ∃ (a b : Int) (o4 o5 : Option V), σ = [some (.int 1), some (.int d), some (.int a), some (.int b), o4, o5] ∧ ((i = 0 ∧ a = 1 ∧ b = d) ∨ (i = 1 ∧ a = d ∧ b = 1 % d) ∨ (2 ≤ i ∧ a = 1 ∧ b = 0) ∨ (1 ≤ i ∧ a = 1 ∧ b = 0)))
        ⟨rfl, 1, d, none, none, rfl, .inl ⟨rfl, rfl, rfl⟩⟩ ?_ ?_⟩
      · rintro i σ H' hi ⟨rfl, a, b, o4, o5, rfl, hs⟩
        refine ⟨_, rfl, rfl, _, rfl, iteD (fun e => ?_) (fun e => ?_)⟩
        · have hb := V.int.inj e
          have ha : a = 1 := by
            rcases hs with ⟨_, h1, h2⟩ | ⟨_, h1, h2⟩ | ⟨_, h1, _⟩ | ⟨_, h1, _⟩
            · exact h1
            · have h3 : d = 1 := by
                by_cases q : d = 1
                · exact q
                · have : (1 : Int) % d = 1 := Int.emod_eq_of_lt (by decide) (by omega)
                  omega
              rw [h1, h3]
            · exact h1
            · exact h1
          rw [ha, hb]
          exact ⟨rfl, _, _, rfl⟩
        · have hb : b ≠ 0 := fun q => e (congrArg V.int q)
          have hpos : 0 < b := by
            rcases hs with ⟨_, _, h2⟩ | ⟨_, _, h2⟩ | ⟨_, _, h2⟩ | ⟨_, _, h2⟩
            · omega
            · have := Int.emod_nonneg 1 (show d ≠ 0 by omega)
              omega
            · exact absurd h2 hb
            · exact absurd h2 hb
          refine ⟨_, rfl, .inl ⟨_, rfl, _, rfl, _, _, rfl, rfl, hpos, ?_⟩⟩
          refine ⟨_, rfl, _, rfl, rfl, b, a % b, _, _, rfl, ?_⟩
          rcases hs with ⟨h0, h1, h2⟩ | ⟨h0, h1, h2⟩ | ⟨_, _, h2⟩ | ⟨_, _, h2⟩
          · subst h1 h2
            exact .inr (.inl ⟨by omega, rfl, rfl⟩)
          · have h3 : d ≠ 1 := fun q => by rw [q] at h2; exact hb h2
            have h4 : (1 : Int) % d = 1 := Int.emod_eq_of_lt (by decide) (by omega)
            rw [h4] at h2
            rw [h2]
            exact .inr (.inr (.inl ⟨by omega, rfl, Int.emod_one _⟩))
          · exact absurd h2 hb
          · exact absurd h2 hb
      · rintro σ H' ⟨rfl, a, b, o4, o5, rfl, hs⟩
        rcases hs with ⟨h0, _, _⟩ | ⟨h0, _, _⟩ | ⟨_, h1, h2⟩ | ⟨_, h1, h2⟩
        · omega
        · omega
        · rw [h1, h2]; exact ⟨rfl, _, _, rfl⟩
        · rw [h1, h2]; exact ⟨rfl, _, _, rfl⟩
    rintro σ H' ⟨rfl, o4, o5, rfl⟩
    refine ⟨_, rfl, _, rfl, _, _, rfl, rfl, cdivG_one _, _, rfl, _, rfl, _, _, rfl, rfl, cdivG_one _, by show 2 ≤ sizeLine; decide, fun t nt => ?_⟩
    have e1 : (1 : Int).fdiv 1 = 1 := by decide
    have e2 : d.fdiv 1 = d := Int.fdiv_one d
    refine k t _ nt ?_ (Keep.new nt)
    show upd H' t (.tup [V.int ((1 : Int).fdiv 1), V.int (d.fdiv 1)]) t = _
    rw [e1, e2]; exact upd_same
theorem ok_law_count {f : Addr} {fd : FuncData} (D : C8.Def K mg "_law_count" s_law_count f fd) (b : Binds K fd ["pool"] []) (T : Txt K mg C_Ratio C_Tape) (c_law_draw : C8.Cal P w K mg base 1 "_law_draw" sp_law_draw []) : C8.Cal P w K mg base 2 "_law_count" sp_law_count [] := by
  refine cal0 D b .nil sc_law_count (fun vs H Q E h => ?_) (fun cdv A outer s H vs Q E hr h => ?_)
  · obtain ⟨p, q, ns, rfl, _⟩ := h
    rfl
  · obtain ⟨p, q, ns, rfl, hP, k⟩ := h
    refine ⟨_, (pss_cons (ps_set (i := 1) sc_law_count.nd rfl (by first | exact Or.inl rfl | exact Or.inr rfl) (pe_c c_law_draw hr (by first | exact Nat.le_refl _ | decide) rfl (pa_cons (pv 0) (pa_cons pe_int pa_nil))))
(pss_cons (ps_if (pt_cmpR op_eq (pv 1) pe_int (nomark _))
  (pss_one (ps_ret (pe_op op_add pe_int (pe_c c_law_draw hr (by first | exact Nat.le_refl _ | decide) rfl (pa_cons (pv 0) (pa_cons pe_int pa_nil))))))
  pss_nil)
(pss_cons (ps_if (pt_cmpR op_eq (pv 1) pe_int (nomark _))
  (pss_one (ps_ret (pe_op op_add pe_int (pe_c c_law_draw hr (by first | exact Nat.le_refl _ | decide) rfl (pa_cons (pv 0) (pa_cons pe_int pa_nil))))))
  pss_nil)
(pss_one (ps_ret (pe_op op_add pe_int (pe_c c_law_draw hr (by first | exact Nat.le_refl _ | decide) rfl (pa_cons (pv 0) (pa_cons pe_int pa_nil))))))))), ?_⟩
    refine ⟨_, rfl, p, q, ns, 6, rfl, by decide, by decide, hP, fun kd H1 _ _ P1 K1 => ?_⟩
    refine ⟨_, rfl, rfl, _, rfl, iteD (fun _ => ?_) (fun _ => ?_)⟩
    · exact ⟨_, rfl, p, q, ns, 65535, rfl, by decide, by decide, P1, fun r H2 z0 z1 P2 K2 => ⟨_, _, rfl, rfl, k _ _ (by omega) (by omega) P2 (K1.trans K2)⟩⟩
    refine ⟨_, rfl, rfl, _, rfl, iteD (fun _ => ?_) (fun _ => ?_)⟩
    · exact ⟨_, rfl, p, q, ns, 64, rfl, by decide, by decide, P1, fun r H2 z0 z1 P2 K2 => ⟨_, _, rfl, rfl, k _ _ (by omega) (by omega) P2 (K1.trans K2)⟩⟩
    · exact ⟨_, rfl, p, q, ns, 9, rfl, by decide, by decide, P1, fun r H2 z0 z1 P2 K2 => ⟨_, _, rfl, rfl, k _ _ (by omega) (by omega) P2 (K1.trans K2)⟩⟩
theorem ok_law_following {f : Addr} {fd : FuncData} (D : C8.Def K mg "_law_following" s_law_following f fd) (b : Binds K fd ["taken"] []) (T : Txt K mg C_Ratio C_Tape) : C8.Cal P w K mg base 1 "_law_following" sp_lfoll [] := by
  refine cal0 D b .nil sc_law_following (fun vs H Q E h => ?_) (fun cdv A outer s H vs Q E hr h => ?_)
  · obtain ⟨tx, xs, tk, rfl, _⟩ := h
    rfl
  · obtain ⟨tx, xs, tk, rfl, ht, pl, hl, k⟩ := h
    refine ⟨_, (pss_cons (ps_for PassesOwn.never rfl (pi_range3 (by rfl) T.n_range (pa_cons (pe_op op_sub (pe_callB call_len_seq (by rfl) T.n_len bo_len (pa_cons (pv 0) pa_nil)) pe_int) (pa_cons (pe_un un_neg pe_int) (pa_cons (pe_un un_neg pe_int) pa_nil)))) (pg_name (i := 1) sc_law_following.nd rfl (by first | exact Or.inl rfl | exact Or.inr rfl))
  (pss_one (ps_if (pt_cmpR op_lt (pe_op op_add (pe_ix ix_tup (pe_ix ix_list (pv 0) (pv 1) (fun _ _ => rfl)) pe_int (fun _ _ => rfl)) pe_int) (pe_ix ix_tup (pe_ix ix_list (pv 0) (pv 1) (fun _ _ => rfl)) pe_int (fun _ _ => rfl)) (nomark _))
    (pss_one (ps_ret (pe_op op_cat (pe_lc (own := [("j", 2)]) (g := gName 2) (tt := tYes) rfl sc_law_following.nd (pi_range1 (by rfl) T.n_range (pa_cons (pv 1) pa_nil)) (blkOk_by (N := ["taken", "k", "j"]) (sc := fnScope s_law_following) (by decide +kernel)) (fun _ _ _ _ _ => pg_name (i := 2) sc_law_following.nd rfl (Or.inl rfl)) (fun _ _ _ _ _ => pts_nil) (fun _ _ _ _ _ => (pe_ix (ix_tupK (K := K)) (pe_ix (ix_listK (K := K)) (pv 0) (pv 2) (fun _ _ => rfl)) pe_int (fun _ _ => rfl)))) (pe_lst (pa_cons (pe_op op_add (pe_ix ix_tup (pe_ix ix_list (pv 0) (pv 1) (fun _ _ => rfl)) pe_int (fun _ _ => rfl)) pe_int) pa_nil)))))
    pss_nil)))
(pss_one (ps_ret pe_non))), ?_⟩
    have hlen := pl.len
    refine ⟨_, rfl, _, _, rfl, .inl (SqL.of ht), _, _, rfl, rfl, _, rfl, _, rfl, _, _, _, _, rfl, RgC.neg (by omega) (by omega) (by decide) (by decide), ?_⟩
    have en : ((xs.length : Int) - 1 - -1).toNat = tk.length := by omega
    refine for_rangeC (lo := (xs.length : Int) - 1) (c := -1) (n := ((xs.length : Int) - 1 - -1).toNat) (fun i σ H' => H' = H ∧ (∃ o1 : Option V, σ = [some (.ref tx), o1, none]) ∧ foll tk = foll (tk.take (tk.length - i))) ⟨rfl, ⟨none, rfl⟩, by rw [Nat.sub_zero, List.take_length]⟩ ?_ ?_
    · rintro i σ H' hi ⟨rfl, ⟨o1, rfl⟩, hf⟩
      rw [en] at hi
      obtain ⟨m, hm⟩ : ∃ m : Nat, m + 1 + i = tk.length := ⟨tk.length - 1 - i, by omega⟩
      have hmi : m < tk.length := by omega
      obtain ⟨v, hv⟩ : ∃ v, xs[m]? = some v := ⟨xs[m]'(by omega), List.getElem?_eq_getElem (by omega)⟩
      obtain ⟨t, r, c, rfl, hg, htt⟩ := pl.get hv
      have eat : (xs.length : Int) - 1 + ((i : Nat) : Int) * -1 = (m : Int) := by omega
      rw [eat]
      have et : tk.length - i = m + 1 := by omega
      have et2 : tk.length - (i + 1) = m := by omega
      have hsn : tk.take (m + 1) = tk.take m ++ [(r, c)] := by rw [List.take_succ_eq_append_getElem hmi, (List.getElem?_eq_some_iff.mp hg).2]
      rw [et, hsn, foll_snoc] at hf
      refine ⟨_, rfl, _, rfl, _, _, _, _, rfl, rfl, SqL.of ht, atI_nat hv, _, _, _, _, rfl, rfl, SqT.of htt, rfl, _, _, rfl, rfl, _, rfl, _, rfl, _, _, _, _, rfl, rfl, SqL.of ht, atI_nat hv, _, _, _, _, rfl, rfl, SqT.of htt, rfl, _, _, rfl, rfl, _, rfl, iteD (fun h => ?_) (fun h => ⟨rfl, ⟨_, rfl⟩, ?_⟩)⟩
      · rw [if_pos h] at hf
        refine ⟨_, rfl, _, rfl, by omega, by omega, fun L hL => ?_⟩
        refine lc_range (n := m) (fun i H2 => H2 L = some (.lst ((tk.take i).map fun p => V.int p.1)) ∧ Keep [] H' H2) ⟨upd_same, Keep.new hL⟩ ?_ ?_
        · rintro i H2 hi2 ⟨hD, kk⟩
          have hi3 : i < tk.length := by omega
          obtain ⟨v2, hv2⟩ : ∃ v, xs[i]? = some v := ⟨xs[i]'(by omega), List.getElem?_eq_getElem (by omega)⟩
          obtain ⟨t2, r2, c2, rfl, hg2, ht2⟩ := pl.get hv2
          refine ⟨rfl, yes_then ⟨_, rfl, _, rfl, _, _, _, _, rfl, rfl, SqL.of (kk _ _ ht (by simp)), ?_, _, _, _, _, rfl, rfl, SqT.of (kk _ _ ht2 (by simp)), rfl, _, hD, by rw [List.length_map, List.length_take]; exact smallL (by omega), ?_, kk.then_own hL⟩⟩
          · have e0 : (0 : Int) + (i : Int) = (i : Int) := by omega
            rw [e0]; exact atI_nat hv2
          · rw [List.take_succ_eq_append_getElem hi3, (List.getElem?_eq_some_iff.mp hg2).2, List.map_append]; exact upd_same
        · rintro H2 ⟨hD, kk⟩
          refine ⟨_, rfl, _, rfl, _, _, _, _, rfl, rfl, SqL.of (kk _ _ ht (by simp)), atI_nat hv, _, _, _, _, rfl, rfl, SqT.of (kk _ _ htt (by simp)), rfl, _, _, rfl, rfl, by show 1 ≤ sizeLine; decide, fun l2 nl2 => ⟨_, _, _, _, rfl, rfl, Keep.new (W := []) nl2 _ _ hD (by simp), upd_same, ?_, fun M hM => ?_⟩⟩
          · rw [List.length_map, List.length_take]; exact smallM (by simp; omega)
          · have kA := kk.then_new (o := .lst [.int (r + 1)]) nl2
            refine k.2 _ M _ hf (kA.free hM) ?_ (kA.then_new hM)
            rw [List.map_append, List.map_map]; exact upd_same
      · rw [if_neg h] at hf
        rw [et2]; exact hf
    · rintro σ H' ⟨rfl, ⟨o1, rfl⟩, hf⟩
      rw [en, Nat.sub_self, List.take_zero] at hf
      exact k.1 hf
end

theorem red1 {d : Int} (h : 0 < d) : redN 1 d = 1 ∧ redD 1 d = d := by
  have hs : sg 1 d = 1 := by
    unfold sg
    rw [if_neg (by omega)]
    simp
  unfold redN redD
  rw [hs]
  exact ⟨by decide, Int.fdiv_one d⟩
def sp_isr (CR : Addr) : Sp := fun vs H Q _ => ∃ (r : Addr) (d : Int), vs = [.ref r, .int 1, .int d] ∧ RatAt CR H r (redN 1 d) (redD 1 d) ∧ 0 < d ∧ d < 2 ^ 8000 ∧ ∀ H', Keep [] H H' → Q (.bl true) H'
section
variable {P : Program} {w : World} {K : PySem.W.Frag} {mg : Str → Option Value} {base : Heap} {C_Ratio : Addr} {C_Tape : Addr}
theorem ok_law_is_ratio {f : Addr} {fd : FuncData} (D : C8.Def K mg "_law_is_ratio" s_law_is_ratio f fd) (b : Binds K fd ["actual", "num", "den"] []) (T : Txt K mg C_Ratio C_Tape) (c_law_lowest : C8.Cal P w K mg base 1 "_law_lowest" sp_law_lowest []) (c_law_same : C8.Cal P w K mg base 3 "_law_same" (sp_law_same K 3) []) :
    C8.Cal P w K mg base 4 "_law_is_ratio" (sp_isr C_Ratio) [] := by
  refine cal0 D b .nil sc_law_is_ratio (fun vs H Q E h => ?_) (fun cdv A outer s H vs Q E hr h => ?_)
  · obtain ⟨r, d, rfl, _⟩ := h
    rfl
  · obtain ⟨r, d, rfl, hra, d0, db, k⟩ := h
    refine ⟨_, (pss_cons (ps_set (i := 3) sc_law_is_ratio.nd rfl (by first | exact Or.inl rfl | exact Or.inr rfl) (pe_c c_law_lowest hr (by first | exact Nat.le_refl _ | decide) rfl (pa_cons (pv 1) (pa_cons (pv 2) pa_nil))))
(pss_one (ps_ret (pe_and (pe_callB (call_isC T.i_Ratio) (by rfl) T.n_isinstance bo_isinstance (pa_cons (pv 0) (pa_cons (pe_glob (v := .ref _) rfl T.m_Ratio rfl) pa_nil))) (pe_one (pe_c c_law_same hr (by first | exact Nat.le_refl _ | decide) rfl (pa_cons (pe_lst (pa_cons (pe_fld (pv 0) rfl) (pa_cons (pe_fld (pv 0) rfl) pa_nil))) (pa_cons (pe_callTy call_list_of (by rfl) T.n_list bo_list (pa_cons (pv 3) pa_nil)) pa_nil)))))))), ?_⟩
    refine ⟨_, rfl, _, rfl, d, rfl, d0, db, fun t H1 nt ht K1 => ?_⟩
    obtain ⟨dx, hp⟩ := hra.keep0 K1
    rw [(red1 d0).1, (red1 d0).2] at hp
    refine ⟨_, rfl, r, dx, _, rfl, hp, _, rfl, iteT ?_⟩
    refine ⟨_, rfl, r, C_Ratio, dx, _, _, rfl, hp, T.cl_Ratio, T.a_Ratio_num, rf_num _ _, _, rfl, r, C_Ratio, dx, _, _, rfl, hp, T.cl_Ratio, T.a_Ratio_den, rf_den _ _, by show 2 ≤ sizeLine; decide, fun l1 n1 => ?_⟩
    have k1 : Keep [] H1 (upd H1 l1 (.lst [.int 1, .int d])) := Keep.new n1
    refine ⟨_, rfl, _, _, rfl, .inr (SqT.of (k1 _ _ ht (by simp))), fun l2 n2 => ?_⟩
    have k2 : Keep [] (upd H1 l1 (.lst [.int 1, .int d])) (upd (upd H1 l1 (.lst [.int 1, .int d])) l2 (.lst [.int 1, .int d])) := Keep.new n2
    refine ⟨_, _, rfl, .inr ⟨l1, l2, _, _, rfl, rfl, .inl ⟨k2 _ _ upd_same (by simp), upd_same⟩, rfl, by show 2 ≤ sizeLine; decide, fun i x y hx hy => ?_⟩, k _ ((K1.trans k1).trans k2)⟩
    rw [hx] at hy
    cases hy
    have hm := List.mem_of_getElem? hx
    rw [List.mem_cons, List.mem_singleton] at hm
    rcases hm with rfl | rfl <;> exact .inl ⟨rfl, .inr (.inl ⟨_, rfl⟩)⟩
end

def sp_law_number : Sp := fun vs H Q _ => ∃ p q ns, vs = [.ref p] ∧ Pool H p q ns ∧ ∀ r H', 0 ≤ r → r < 65536 → Pool H' p q ns → Keep [p] H H' → Q (.int r) H'
def sp_law_results : Sp := fun vs H Q _ => ∃ p q ns, vs = [.ref p] ∧ Pool H p q ns ∧ ∀ l (rs : List Int) H', H l = none → H' l = some (.lst (rs.map V.int)) → rs.length ≤ 40 → Pool H' p q ns → Keep [p] H H' → Q (.ref l) H'
section
variable {P : Program} {w : World} {K : PySem.W.Frag} {mg : Str → Option Value} {base : Heap} {C_Ratio : Addr} {C_Tape : Addr}
theorem ok_law_number {f : Addr} {fd : FuncData} (D : C8.Def K mg "_law_number" s_law_number f fd) (b : Binds K fd ["pool"] []) (T : Txt K mg C_Ratio C_Tape) (c_law_draw : C8.Cal P w K mg base 1 "_law_draw" sp_law_draw []) : C8.Cal P w K mg base 2 "_law_number" sp_law_number [] := by
  refine cal0 D b .nil sc_law_number (fun vs H Q E h => ?_) (fun cdv A outer s H vs Q E hr h => ?_)
  · obtain ⟨p, q, ns, rfl, _⟩ := h
    rfl
  · obtain ⟨p, q, ns, rfl, hP, k⟩ := h
    refine ⟨_, (pss_cons (ps_if (pt_cmpR op_eq (pe_c c_law_draw hr (by first | exact Nat.le_refl _ | decide) rfl (pa_cons (pv 0) (pa_cons pe_int pa_nil))) pe_int (nomark _))
  (pss_one (ps_ret (pe_c c_law_draw hr (by first | exact Nat.le_refl _ | decide) rfl (pa_cons (pv 0) (pa_cons pe_int pa_nil)))))
  pss_nil)
(pss_one (ps_ret (pe_c c_law_draw hr (by first | exact Nat.le_refl _ | decide) rfl (pa_cons (pv 0) (pa_cons pe_int pa_nil)))))), ?_⟩
    refine ⟨_, rfl, p, q, ns, 3, rfl, by decide, by decide, hP, fun r H1 r0 r1 P1 K1 => ?_⟩
    refine ⟨rfl, _, rfl, iteD (fun _ => ?_) (fun _ => ?_)⟩
    · exact ⟨_, rfl, p, q, ns, _, rfl, by decide, by decide, P1, fun r2 H2 z0 z1 P2 K2 => k _ _ z0 z1 P2 (K1.trans K2)⟩
    · exact ⟨_, rfl, p, q, ns, _, rfl, by decide, by decide, P1, fun r2 H2 z0 z1 P2 K2 => k _ _ z0 (by omega) P2 (K1.trans K2)⟩
theorem ok_law_results {f : Addr} {fd : FuncData} (D : C8.Def K mg "_law_results" s_law_results f fd) (b : Binds K fd ["pool"] []) (T : Txt K mg C_Ratio C_Tape) (c_law_draw : C8.Cal P w K mg base 1 "_law_draw" sp_law_draw []) (c_law_number : C8.Cal P w K mg base 2 "_law_number" sp_law_number []) :
    C8.Cal P w K mg base 3 "_law_results" sp_law_results [] := by
  refine cal0 D b .nil sc_law_results (fun vs H Q E h => ?_) (fun cdv A outer s H vs Q E hr h => ?_)
  · obtain ⟨p, q, ns, rfl, _⟩ := h
    rfl
  · obtain ⟨p, q, ns, rfl, hP, k⟩ := h
    refine ⟨_, (pss_cons (ps_set (i := 1) sc_law_results.nd rfl (by first | exact Or.inl rfl | exact Or.inr rfl) (pe_c c_law_draw hr (by first | exact Nat.le_refl _ | decide) rfl (pa_cons (pv 0) (pa_cons pe_int pa_nil))))
(pss_cut (ps_if (pt_cmpR op_eq (pe_c c_law_draw hr (by first | exact Nat.le_refl _ | decide) rfl (pa_cons (pv 0) (pa_cons pe_int pa_nil))) pe_int (nomark _))
  (pss_one (ps_set (i := 1) sc_law_results.nd rfl (by first | exact Or.inl rfl | exact Or.inr rfl) (pe_op op_add (pv 1) pe_int)))
  pss_nil)
(pss_cons (ps_set (i := 2) sc_law_results.nd rfl (by first | exact Or.inl rfl | exact Or.inr rfl) (pe_lst pa_nil))
(pss_cons (ps_for PassesOwn.never rfl (pi_range1 (by rfl) T.n_range (pa_cons (pv 1) pa_nil)) (pg_name (i := 3) sc_law_results.nd rfl (by first | exact Or.inl rfl | exact Or.inr rfl))
  (pss_cons (ps_set (i := 4) sc_law_results.nd rfl (by first | exact Or.inl rfl | exact Or.inr rfl) (pe_c c_law_number hr (by first | exact Nat.le_refl _ | decide) rfl (pa_cons (pv 0) pa_nil)))
  (pss_cut (ps_if (pt_cmpR op_eq (pe_c c_law_draw hr (by first | exact Nat.le_refl _ | decide) rfl (pa_cons (pv 0) (pa_cons pe_int pa_nil))) pe_int (nomark _))
    (pss_one (ps_set (i := 4) sc_law_results.nd rfl (by first | exact Or.inl rfl | exact Or.inr rfl) (pe_op op_add (pv 4) (pe_op op_mul pe_int (pe_c c_law_draw hr (by first | exact Nat.le_refl _ | decide) rfl (pa_cons (pv 0) (pa_cons (pe_op op_pow pe_int pe_int) pa_nil)))))))
    pss_nil)
  (pss_one (ps_expr (pe_bm PySem.F.plainAttrs_list PySem.F.slot_list_append PySem.F.type_list_append mt_append (pv 2) (pa_cons (pv 4) pa_nil)))))))
(pss_one (ps_ret (pv 2))))))), ?_⟩
    refine ⟨_, rfl, p, q, ns, 9, rfl, by decide, by decide, hP, fun m0 H1 a0 a1 P1 K1 => ?_⟩
    refine ⟨fun σ H' => ∃ m : Int, σ = [some (.ref p), some (.int m), none, none, none] ∧ 0 ≤ m ∧ m ≤ 38 ∧ Pool H' p q ns ∧ Keep [p] H H', ?_, ?_⟩
    · refine ⟨_, rfl, p, q, ns, 4, rfl, by decide, by decide, P1, fun r H2 _ _ P2 K2 => ⟨rfl, _, rfl, iteD (fun _ => ?_) (fun _ => ⟨m0, rfl, a0, by omega, P2, K1.trans K2⟩)⟩⟩
      exact ⟨_, rfl, _, _, rfl, rfl, _, rfl, by omega, by omega, P2, K1.trans K2⟩
    rintro σ H2 ⟨m, rfl, m0', m1', P2, K2⟩
    refine ⟨by show 0 ≤ sizeLine; decide, fun l nl => ?_⟩
    have nlp := P2.nep nl
    have nlq := P2.neq nl
    refine ⟨_, rfl, m, rfl, by omega, by omega, for_range (lo := 0) (n := m.toNat) (fun i σ H' => ∃ (rs : List Int) (o3 o4 : Option V), σ = [some (.ref p), some (.int m), some (.ref l), o3, o4] ∧ H' l = some (.lst (rs.map V.int)) ∧ rs.length = i ∧ Pool H' p q ns ∧ Keep [p] H2 H')
      ⟨[], none, none, rfl, upd_same, rfl, P2.new nl, Keep.new nl⟩ ?_ ?_⟩
    · rintro i σ H3 hi ⟨rs, o3, o4, rfl, hl, hlen, P3, K3⟩
      refine ⟨_, rfl, p, q, ns, rfl, P3, fun r1 H4 _ _ P4 K4 => ?_⟩
      have hl4 := K4 _ _ hl (by simpa using nlp)
      refine ⟨fun σ H' => ∃ z : Int, σ = [some (.ref p), some (.int m), some (.ref l), some (.int (0 + (i : Nat))), some (.int z)] ∧ H' l = some (.lst (rs.map V.int)) ∧ Pool H' p q ns ∧ Keep [p] H2 H', ?_, ?_⟩
      · refine ⟨_, rfl, p, q, ns, 3, rfl, by decide, by decide, P4, fun r2 H5 _ _ P5 K5 => ⟨rfl, _, rfl, iteD (fun _ => ?_) (fun _ => ⟨r1, rfl, K5 _ _ hl4 (by simpa using nlp), P5, (K3.trans K4).trans K5⟩)⟩⟩
        have hl5 := K5 _ _ hl4 (by simpa using nlp)
        refine ⟨_, rfl, _, rfl, _, _, rfl, rfl, ⟨by decide, by decide, by decide⟩, p, q, ns, _, rfl, by decide, by decide, P5, fun r3 H6 _ _ P6 K6 => ?_⟩
        exact ⟨_, _, rfl, rfl, .inl ⟨by decide, by decide⟩, _, _, rfl, rfl, _, rfl, K6 _ _ hl5 (by simpa using nlp), P6, ((K3.trans K4).trans K5).trans K6⟩
      rintro σ H5 ⟨z, rfl, hl5, P5, K5⟩
      refine ⟨_, rfl, .inl ⟨rfl, _, SqL.of hl5⟩, _, rfl, _, _, _, rfl, rfl, hl5, by rw [List.length_map]; exact smallL (by omega), ?_⟩
      exact ⟨rs ++ [z], _, _, rfl, by rw [List.map_append]; exact upd_same, by rw [List.length_append, hlen]; rfl, P5.own nlp nlq, K5.then_own nl⟩
    · rintro σ H3 ⟨rs, o3, o4, rfl, hl, hlen, P3, K3⟩
      have nl0 : H l = none := P2.free K2 nl
      exact ⟨_, rfl, k l rs _ nl0 hl (by omega) P3 (K2.trans K3)⟩
end

theorem paired_get {F : V → V → Prop} {xs ys : List V} (h : Paired F xs ys) : xs.length = ys.length ∧ ∀ (i : Nat) x y, xs[i]? = some x → ys[i]? = some y → F x y := by
  induction h with
  | nil => exact ⟨rfl, fun i x y h => by simp at h⟩
  | cons h _ ih =>
    refine ⟨by rw [List.length_cons, List.length_cons, ih.1], fun i x y hx hy => ?_⟩
    cases i with
    | zero => simp at hx hy; subst hx hy; exact h
    | succ i => exact ih.2 i x y (by simpa using hx) (by simpa using hy)
theorem sameT {K : PySem.W.Frag} {H : Hp} {n : Nat} {p q : Addr} {xs ys : List V} (h1 : At K H p xs) (h2 : At K H q ys) (h : Paired (SameV K n H) xs ys) (hl : xs.length ≤ 1000000) : SameV K (n + 1) H (.ref p) (.ref q) :=
  .inr ⟨p, q, _, _, rfl, rfl, .inr ⟨h1, h2⟩, (paired_get h).1, smallM hl, (paired_get h).2⟩
theorem sameL {K : PySem.W.Frag} {H : Hp} {n : Nat} {p q : Addr} {xs ys : List V} (h1 : H p = some (.lst xs)) (h2 : H q = some (.lst ys)) (h : Paired (SameV K n H) xs ys) (hl : xs.length ≤ 1000000) : SameV K (n + 1) H (.ref p) (.ref q) :=
  .inr ⟨p, q, _, _, rfl, rfl, .inl ⟨h1, h2⟩, (paired_get h).1, smallM hl, (paired_get h).2⟩
theorem same_ints {K : PySem.W.Frag} {H : Hp} {n : Nat} : ∀ ys : List Int, Paired (SameV K (n + 1) H) (ys.map V.int) (ys.map V.int)
  | [] => .nil
  | y :: r => .cons (.inl ⟨rfl, .inr (.inl ⟨y, rfl⟩)⟩) (same_ints r)
theorem PL.same {K : PySem.W.Frag} {H : Hp} {n : Nat} {xs : List V} {tk : List (Int × Int)} (h : PL H xs tk) : ∀ {ys : List V}, PL H ys tk → Paired (SameV K (n + 2) H) xs ys := by
  induction h with
  | nil => intro ys g; cases g; exact .nil
  | cons h _ ih =>
    intro ys g
    cases g with
    | cons g g2 => exact .cons (sameT (.inl h) (.inl g) (.cons (.inl ⟨rfl, .inr (.inl ⟨_, rfl⟩)⟩) (.cons (.inl ⟨rfl, .inr (.inl ⟨_, rfl⟩)⟩) .nil)) (by simp)) (ih g2)
theorem folR_len : ∀ (l : List (Int × Int)) {ys : List Int}, folR l = some ys → ys.length ≤ l.length
  | [], ys, h => by cases h
  | (r, c) :: l, ys, h => by
    unfold folR at h
    split at h
    · cases h; simp
    · have := folR_len l h
      rw [List.length_cons]; omega
theorem foll_len {tk : List (Int × Int)} {ys : List Int} (h : foll tk = some ys) : ys.length ≤ tk.length := by
  have := folR_len _ h
  rwa [List.length_reverse] at this
def sp_told (K : PySem.W.Frag) (C : Addr) : Sp := fun vs H Q _ => ∃ (x rx tx kt : Addr) (rs : List Int) (tk : List (Int × Int)) (ys : List V), vs = [.ref x, .ref kt] ∧ TapeAt C H x rx tx rs tk ∧ H kt = some (.lst ys) ∧ PL H ys tk ∧ CntOk tk ∧ tk.length ≤ 100 ∧ ∀ H', Keep [] H H' → Q (.bl true) H'
section
variable {P : Program} {w : World} {K : PySem.W.Frag} {mg : Str → Option Value} {base : Heap} {C_Ratio : Addr} {C_Tape : Addr}
theorem ok_law_told {f : Addr} {fd : FuncData} (D : C8.Def K mg "_law_told" s_law_told f fd) (b : Binds K fd ["tape", "taken"] []) (T : Txt K mg C_Ratio C_Tape) (c_law_same : C8.Cal P w K mg base 3 "_law_same" (sp_law_same K 3) []) (c_law_is_ratio : C8.Cal P w K mg base 4 "_law_is_ratio" (sp_isr C_Ratio) [])
    (c_law_following : C8.Cal P w K mg base 1 "_law_following" sp_lfoll []) (c_Tape_chance : C8.Met P w K mg base 3 C_Tape "chance" (sp_chance C_Tape C_Ratio) []) (c_Tape_following : C8.Met P w K mg base 1 C_Tape "following" (sp_following C_Tape) []) :
    C8.Cal P w K mg base 5 "_law_told" (sp_told K C_Tape) [] := by
  refine cal0 D b .nil sc_law_told (fun vs H Q E h => ?_) (fun cdv A outer s H vs Q E hr h => ?_)
  · obtain ⟨x, rx, tx, kt, rs, tk, ys, rfl, _⟩ := h
    rfl
  · obtain ⟨x, rx, tx, kt, rs, tk, ys, rfl, TA, hkt, pl, hc, hl, k⟩ := h
    refine ⟨_, (pss_cons (ps_set (i := 2) sc_law_told.nd rfl (by first | exact Or.inl rfl | exact Or.inr rfl) pe_int)
(pss_cons (ps_for PassesOwn.never rfl (pi_list (pv 1)) (pg_name (i := 3) sc_law_told.nd rfl (by first | exact Or.inl rfl | exact Or.inr rfl))
  (pss_one (ps_set (i := 2) sc_law_told.nd rfl (by first | exact Or.inl rfl | exact Or.inr rfl) (pe_op op_mul (pv 2) (pe_ix ix_tup (pv 3) pe_int (fun _ _ => rfl))))))
(pss_cons (ps_if (PW.pt (pw_or (pt_not (pt_val (pe_c c_law_same hr (by first | exact Nat.le_refl _ | decide) rfl (pa_cons (pe_fld (pv 0) rfl) (pa_cons (pv 1) pa_nil))))) (pw_or1 (pt_not (pt_val (pe_c c_law_is_ratio hr (by first | exact Nat.le_refl _ | decide) rfl (pa_cons (pe_mt0 c_Tape_chance hr (by first | exact Nat.le_refl _ | decide) (pv 0)) (pa_cons pe_int (pa_cons (pv 2) pa_nil)))))))))
  (pss_one (ps_ret pe_bl))
  pss_nil)
(pss_cons (ps_set (i := 4) sc_law_told.nd rfl (by first | exact Or.inl rfl | exact Or.inr rfl) (pe_c c_law_following hr (by first | exact Nat.le_refl _ | decide) rfl (pa_cons (pv 1) pa_nil)))
(pss_cons (ps_set (i := 5) sc_law_told.nd rfl (by first | exact Or.inl rfl | exact Or.inr rfl) (pe_mt0 c_Tape_following hr (by first | exact Nat.le_refl _ | decide) (pv 0)))
(pss_cons (ps_if (pt_not (pt_val (pe_c c_law_same hr (by first | exact Nat.le_refl _ | decide) rfl (pa_cons (pv 5) (pa_cons (pv 4) pa_nil)))))
  (pss_one (ps_ret pe_bl))
  pss_nil)
(pss_cons (ps_if (pt_cmpR op_notN (pv 5) pe_non (nomark _))
  (pss_one (ps_expr (pe_bm PySem.F.plainAttrs_list PySem.F.slot_list_append PySem.F.type_list_append mt_append (pv 5) (pa_cons pe_int pa_nil))))
  pss_nil)
(pss_one (ps_ret (pe_c c_law_same hr (by first | exact Nat.le_refl _ | decide) rfl (pa_cons (pe_mt0 c_Tape_following hr (by first | exact Nat.le_refl _ | decide) (pv 0)) (pa_cons (pv 4) pa_nil)))))))))))), ?_⟩
    refine ⟨_, rfl, kt, rfl, ⟨_, SqL.of hkt⟩, for_list (K := K) (a := kt) (xs := ys) (fun i σ H' => H' = H ∧ ∃ o3 : Option V, σ = [some (.ref x), some (.ref kt), some (.int (prodC (tk.take i))), o3, none, none]) ⟨rfl, none, rfl⟩ (fun i σ H' _ ⟨h, _⟩ => by rw [h]; exact SqL.of hkt) ?_ ?_⟩
    · rintro i v σ H' hi ⟨rfl, o3, rfl⟩
      obtain ⟨t, r, c, rfl, hg, htt⟩ := pl.get hi
      obtain ⟨hlt, he⟩ := List.getElem?_eq_some_iff.mp hg
      have hcc := hc _ (he ▸ List.getElem_mem hlt)
      refine ⟨_, rfl, _, rfl, _, _, _, _, rfl, rfl, SqT.of htt, rfl, _, _, rfl, rfl, .inr ⟨by have := hcc.1; omega, by have := hcc.2; omega⟩, ?_⟩
      refine ⟨rfl, some (.ref t), ?_⟩
      rw [List.take_succ_eq_append_getElem hlt, he, prodC_snoc]; rfl
    rintro σ H' ⟨rfl, o3, rfl⟩
    rw [pl.len, List.take_length]
    obtain ⟨⟨dx, ho⟩, hr1, ⟨xs, ht, plx⟩, hne⟩ := id TA
    refine ⟨_, rfl, x, C_Tape, dx, _, _, rfl, ho, T.cl_Tape, T.a_Tape_taken, rfl, _, rfl, _, _, rfl, sameL ht hkt (plx.same (n := 0) pl) (by rw [plx.len]; omega), _, rfl, iteF ?_⟩
    refine ⟨_, rfl, x, dx, _, rfl, ho, rfl, x, rx, tx, rs, tk, rfl, hl, hc, TA, fun r H1 K1 hra => ?_⟩
    have hpos := prodC_pos hc
    refine ⟨_, rfl, r, prodC tk, rfl, hra, hpos, by have := prodC_big hc hl; omega, fun H2 K2 => ⟨_, rfl, iteF ?_⟩⟩
    have K12 := K1.trans K2
    have TA2 := TA.keep K12 K12.tk (by simp) (by simp) (by simp)
    obtain ⟨dx2, ho2⟩ := id TA2.o
    refine ⟨_, rfl, kt, ys, tk, rfl, K12 _ _ hkt (by simp), pl.tk K12.tk, by omega, ⟨fun e => ?_, fun zs ld H3 e nld hld K3 => ?_⟩⟩
    · have no : ∀ {A : Prop} {zs : List Int}, foll tk = some zs → A := fun e2 => absurd (e.symm.trans e2) (by simp)
      refine ⟨_, rfl, x, dx2, _, rfl, ho2, rfl, x, rx, tx, rs, tk, rfl, by omega, TA2, ⟨fun _ => ?_, fun zs l H3 e2 => no e2⟩⟩
      refine ⟨_, rfl, _, rfl, _, _, rfl, sameV_atom (.inr (.inr (.inr rfl))), _, rfl, iteF ?_⟩
      refine ⟨_, rfl, rfl, _, rfl, iteNF rfl ?_⟩
      exact ⟨_, rfl, x, dx2, _, rfl, ho2, rfl, x, rx, tx, rs, tk, rfl, by omega, TA2, ⟨fun _ => ⟨_, rfl, _, _, rfl, sameV_atom (.inr (.inr (.inr rfl))), k _ K12⟩, fun zs l H3 e2 => no e2⟩⟩
    · have no : ∀ {A : Prop}, foll tk = none → A := fun e2 => absurd (e.symm.trans e2) (by simp)
      have eqz : ∀ {zs2 : List Int}, foll tk = some zs2 → zs2 = zs := fun e2 => (Option.some.inj (e.symm.trans e2)).symm
      have hzl := foll_len e
      have K13 := K12.trans K3
      have TA3 := TA.keep K13 K13.tk (by simp) (by simp) (by simp)
      obtain ⟨dx3, ho3⟩ := id TA3.o
      refine ⟨_, rfl, x, dx3, _, rfl, ho3, rfl, x, rx, tx, rs, tk, rfl, by omega, TA3, ⟨fun e2 => no e2, fun zs2 lt H4 e2 nlt hlt K4 => ?_⟩⟩
      rw [eqz e2] at hlt
      refine ⟨_, rfl, _, rfl, _, _, rfl, sameL hlt (K4 _ _ hld (by simp)) (same_ints (n := 1) zs) (by rw [List.length_map]; omega), _, rfl, iteF ?_⟩
      refine ⟨_, rfl, rfl, _, rfl, iteNT (by simp) ⟨_, rfl, .inl ⟨rfl, _, SqL.of hlt⟩, _, _, _, rfl, rfl, hlt, by rw [List.length_map]; exact smallL (by omega), ?_⟩⟩
      have K15 : Keep [] H' (upd H4 lt (.lst (zs.map V.int ++ [.int 0]))) := (K13.trans K4).then_own (K13.free nlt)
      have TA5 := TA.keep K15 K15.tk (by simp) (by simp) (by simp)
      obtain ⟨dx5, ho5⟩ := id TA5.o
      have hld5 : upd H4 lt (.lst (zs.map V.int ++ [.int 0])) ld = some (.lst (zs.map V.int)) := by
        rw [upd_ne (ne_of_none hld nlt)]; exact K4 _ _ hld (by simp)
      refine ⟨_, rfl, x, dx5, _, rfl, ho5, rfl, x, rx, tx, rs, tk, rfl, by omega, TA5, ⟨fun e2 => no e2, fun zs3 l3 H6 e3 n3 h3 K6 => ?_⟩⟩
      rw [eqz e3] at h3
      exact ⟨_, rfl, _, _, rfl, sameL h3 (K6 _ _ hld5 (by simp)) (same_ints (n := 1) zs) (by rw [List.length_map]; omega), k _ (K15.trans K6)⟩
end

/-! ways in ascending order, in plain words -/
def prodL : List Int → Int
  | [] => 1
  | c :: cs => c * prodL cs
def digs : List Int → Int → List (Int × Int)
  | [], _ => []
  | c :: cs, k => (k / prodL cs % c, c) :: digs cs k
def Pos (cs : List Int) : Prop := ∀ c ∈ cs, 0 < c
theorem prodL_pos : ∀ {cs : List Int}, Pos cs → 0 < prodL cs
  | [], _ => by decide
  | c :: cs, h => Int.mul_pos (h c (List.mem_cons_self ..)) (prodL_pos fun x hx => h x (List.mem_cons_of_mem _ hx))
/-- what the tape gives: the results first, then 0 -/
def agree : List Int → List (Int × Int) → Prop
  | _, [] => True
  | [], (d, _) :: l => d = 0 ∧ agree [] l
  | p :: P, (d, c) :: l => p % c = d ∧ agree P l
theorem foll_cons (a c : Int) (l : List (Int × Int)) : foll ((a, c) :: l) = match foll l with
    | some P => some (a :: P)
    | none => if a + 1 < c then some [a + 1] else none := by
  have key : ∀ r : List (Int × Int), folR (r ++ [(a, c)]) = match folR r with
      | some P => some (a :: P)
      | none => if a + 1 < c then some [a + 1] else none := by
    intro r
    induction r with
    | nil => rfl
    | cons p r ih =>
      obtain ⟨x, y⟩ := p
      show (if x + 1 < y then some (((r ++ [(a, c)]).reverse.map (·.1)) ++ [x + 1]) else folR (r ++ [(a, c)])) = match (if x + 1 < y then some ((r.reverse.map (·.1)) ++ [x + 1]) else folR r) with
        | some P => some (a :: P)
        | none => if a + 1 < c then some [a + 1] else none
      by_cases h : x + 1 < y
      · rw [if_pos h, if_pos h]
        simp
      · rw [if_neg h, if_neg h]; exact ih
  unfold foll
  rw [List.reverse_cons]
  exact key _
/-- only the rest counts -/
theorem digs_mod : ∀ (cs : List Int) (k m : Int), Pos cs → digs cs (k + m * prodL cs) = digs cs k
  | [], k, m, _ => rfl
  | c :: cs, k, m, h => by
    have hp := prodL_pos (cs := cs) fun x hx => h x (List.mem_cons_of_mem _ hx)
    have e : k + m * prodL (c :: cs) = k + (m * c) * prodL cs := by
      show k + m * (c * prodL cs) = _
      rw [Int.mul_assoc]
    show ((k + m * prodL (c :: cs)) / prodL cs % c, c) :: digs cs (k + m * prodL (c :: cs)) = (k / prodL cs % c, c) :: digs cs k
    rw [e, digs_mod cs k (m * c) fun x hx => h x (List.mem_cons_of_mem _ hx), Int.add_mul_ediv_right _ _ (by omega), Int.add_mul_emod_self_right]
theorem digs_zero : ∀ (cs : List Int), agree [] (digs cs 0)
  | [] => trivial
  | c :: cs => ⟨by simp, digs_zero cs⟩
theorem next_ok : ∀ (cs : List Int) (k : Int), Pos cs → 0 ≤ k → k < prodL cs → (foll (digs cs k) = none ↔ k = prodL cs - 1) ∧ ∀ P, foll (digs cs k) = some P → agree P (digs cs (k + 1))
  | [], k, _, h0, h1 => by
    have : k < 1 := h1
    exact ⟨⟨fun _ => by show k = 1 - 1; omega, fun _ => rfl⟩, fun P h => by cases h⟩
  | c :: cs, k, h, h0, h1 => by
    have hcs : Pos cs := fun x hx => h x (List.mem_cons_of_mem _ hx)
    have hp := prodL_pos hcs
    have hc := h c (List.mem_cons_self ..)
    have h1' : k < c * prodL cs := h1
    -- k = r + q * p
    have er : k = k % prodL cs + k / prodL cs * prodL cs := by have := Int.emod_def k (prodL cs); rw [Int.mul_comm (prodL cs)] at this; omega
    have r0 := Int.emod_nonneg k (show prodL cs ≠ 0 by omega)
    have r1 := Int.emod_lt_of_pos k hp
    have q0 : 0 ≤ k / prodL cs := Int.ediv_nonneg h0 (by omega)
    have q1 : k / prodL cs < c := Int.ediv_lt_of_lt_mul hp h1'
    have ed : digs cs k = digs cs (k % prodL cs) := by
      have e0 := digs_mod cs (k % prodL cs) (k / prodL cs) hcs
      rw [← er] at e0; exact e0
    have ih := next_ok cs (k % prodL cs) hcs r0 r1
    have eq : k / prodL cs % c = k / prodL cs := Int.emod_eq_of_lt q0 q1
    have efoll : foll (digs (c :: cs) k) = match foll (digs cs (k % prodL cs)) with
        | some P => some (k / prodL cs :: P)
        | none => if k / prodL cs + 1 < c then some [k / prodL cs + 1] else none := by
      show foll ((k / prodL cs % c, c) :: digs cs k) = _
      rw [foll_cons, eq, ed]
    have ed1 : digs cs (k + 1) = digs cs (k % prodL cs + 1) := by
      have : k + 1 = (k % prodL cs + 1) + k / prodL cs * prodL cs := by omega
      rw [this]; exact digs_mod cs _ _ hcs
    have etop : prodL (c :: cs) = c * prodL cs := rfl
    cases hf : foll (digs cs (k % prodL cs)) with
    | some P =>
      rw [hf] at efoll
      have hr : k % prodL cs ≠ prodL cs - 1 := fun q => by have := ih.1.mpr q; rw [hf] at this; cases this
      refine ⟨⟨fun q => (by rw [efoll] at q; cases q), fun q => ?_⟩, fun P' hP => ?_⟩
      · exfalso
        have e2 : k % prodL cs = prodL cs - 1 := by
          have e3 : k = (prodL cs - 1) + (c - 1) * prodL cs := by rw [etop] at q; rw [Int.sub_mul, Int.one_mul]; omega
          rw [e3, Int.add_mul_emod_self_right]
          exact Int.emod_eq_of_lt (by omega) (by omega)
        exact hr e2
      · rw [efoll] at hP
        cases hP
        have e4 : (k + 1) / prodL cs = k / prodL cs := by
          have : k + 1 = (k % prodL cs + 1) + k / prodL cs * prodL cs := by omega
          rw [this, Int.add_mul_ediv_right _ _ (by omega), Int.ediv_eq_zero_of_lt (by omega) (by omega)]
          omega
        exact ⟨by rw [e4], by rw [ed1]; exact ih.2 P hf⟩
    | none =>
      rw [hf] at efoll
      have hr := ih.1.mp hf
      have e4 : (k + 1) / prodL cs = k / prodL cs + 1 := by
        have : k + 1 = 0 + (k / prodL cs + 1) * prodL cs := by rw [Int.add_mul, Int.one_mul]; omega
        rw [this, Int.add_mul_ediv_right _ _ (by omega)]
        simp
      have ez : agree [] (digs cs (k + 1)) := by
        have : k + 1 = 0 + (k / prodL cs + 1) * prodL cs := by rw [Int.add_mul, Int.one_mul]; omega
        rw [this, digs_mod cs _ _ hcs]; exact digs_zero cs
      by_cases hq : k / prodL cs + 1 < c
      · have efoll' : foll (digs (c :: cs) k) = some [k / prodL cs + 1] := by rw [efoll]; exact if_pos hq
        refine ⟨⟨fun q => (by rw [efoll'] at q; cases q), fun q => ?_⟩, fun P hP => ?_⟩
        · exfalso
          have e5 : k / prodL cs = c - 1 := by
            have e3 : k = (prodL cs - 1) + (c - 1) * prodL cs := by rw [etop] at q; rw [Int.sub_mul, Int.one_mul]; omega
            rw [e3, Int.add_mul_ediv_right _ _ (by omega), Int.ediv_eq_zero_of_lt (by omega) (by omega)]
            omega
          omega
        · rw [efoll'] at hP
          cases hP
          exact ⟨by rw [e4], ez⟩
      · have efoll' : foll (digs (c :: cs) k) = none := by rw [efoll]; exact if_neg hq
        refine ⟨⟨fun _ => ?_, fun _ => efoll'⟩, fun P hP => by rw [efoll'] at hP; cases hP⟩
        have hqc : k / prodL cs = c - 1 := by omega
        rw [etop, er, hr, hqc, Int.sub_mul, Int.one_mul]; omega

/-! addresses that all stand and are unlike one another -/
structure Liv (H : Hp) (L : List Addr) : Prop where
  nd : L.Nodup
  on : ∀ a ∈ L, ∃ o, H a = some o
theorem Liv.nil {H : Hp} : Liv H [] := ⟨List.nodup_nil, fun _ h => by cases h⟩
theorem Liv.cons {H : Hp} {L : List Addr} {a : Addr} {o : HO} (h : Liv H L) (n : H a = none) : Liv (upd H a o) (a :: L) := by
  have hne : ∀ b ∈ L, b ≠ a := fun b hb => by obtain ⟨u, hu⟩ := h.on b hb; exact ne_of_none hu n
  refine ⟨List.nodup_cons.mpr ⟨fun z => hne a z rfl, h.nd⟩, fun b hb => ?_⟩
  rcases List.mem_cons.mp hb with rfl | hb
  · exact ⟨_, upd_same⟩
  · obtain ⟨u, hu⟩ := h.on b hb
    exact ⟨u, by rw [upd_ne (hne b hb)]; exact hu⟩
/-- one that stands, new since a heap in which the others stand -/
theorem Liv.cons' {H H' : Hp} {L : List Addr} {a : Addr} {o : HO} (h : Liv H L) (n : H a = none) (h' : Liv H' L) (ha : H' a = some o) : Liv H' (a :: L) :=
  ⟨List.nodup_cons.mpr ⟨fun z => (by obtain ⟨u, hu⟩ := h.on a z; rw [n] at hu; cases hu), h.nd⟩, fun b hb => by
    rcases List.mem_cons.mp hb with rfl | hb
    · exact ⟨_, ha⟩
    · exact h'.on b hb⟩
theorem Liv.keep {H H' : Hp} {L W : List Addr} (h : Liv H L) (k : Keep W H H') (w : ∀ a ∈ W, ∃ o, H' a = some o) : Liv H' L :=
  ⟨h.nd, fun a ha => by
    by_cases z : a ∈ W
    · exact w a z
    · obtain ⟨o, ho⟩ := h.on a ha
      exact ⟨o, k _ _ ho z⟩⟩
theorem Liv.keep0 {H H' : Hp} {L : List Addr} (h : Liv H L) (k : Keep [] H H') : Liv H' L := h.keep k fun _ z => by cases z
theorem Liv.keep1 {H H' : Hp} {L : List Addr} {p : Addr} {o : HO} (h : Liv H L) (k : Keep [p] H H') (hp : H' p = some o) : Liv H' L := h.keep k fun a z => by
  rw [List.mem_singleton] at z; exact ⟨o, by rw [z]; exact hp⟩
theorem nodup_ne {L : List Addr} (h : L.Nodup) {i j : Nat} {a b : Addr} (ha : L[i]? = some a) (hb : L[j]? = some b) (hij : i ≠ j) : a ≠ b := by
  obtain ⟨h1, e1⟩ := List.getElem?_eq_some_iff.mp ha
  obtain ⟨h2, e2⟩ := List.getElem?_eq_some_iff.mp hb
  have hp := List.pairwise_iff_getElem.mp h
  rcases Nat.lt_or_gt_of_ne hij with z | z
  · have := hp i j h1 h2 z
    rwa [e1, e2] at this
  · have := hp j i h2 h1 z
    rw [e1, e2] at this
    exact fun w => this w.symm
theorem Liv.ne {H : Hp} {L : List Addr} (h : Liv H L) (i j : Nat) {a b : Addr} (ha : L[i]? = some a) (hb : L[j]? = some b) (hij : i ≠ j := by decide) : a ≠ b := nodup_ne h.nd ha hb hij
theorem Liv.notNew {H : Hp} {L : List Addr} (h : Liv H L) {a : Addr} (n : H a = none) : a ∉ L := fun z => by
  obtain ⟨u, hu⟩ := h.on a z; rw [n] at hu; cases hu
theorem Liv.cons2 {H H' : Hp} {L : List Addr} {a b : Addr} {o u : HO} (h : Liv H L) (na : H a = none) (nb : H b = none) (ne : a ≠ b) (h' : Liv H' L) (ha : H' a = some o) (hb : H' b = some u) : Liv H' (b :: a :: L) := by
  have h1 := h.cons' na h' ha
  refine ⟨List.nodup_cons.mpr ⟨fun z => ?_, h1.nd⟩, fun c hc => ?_⟩
  · rcases List.mem_cons.mp z with z | z
    · exact ne z.symm
    · exact h.notNew nb z
  · rcases List.mem_cons.mp hc with rfl | hc
    · exact ⟨_, hb⟩
    · exact h1.on c hc
/-- a new instance and its dict -/
theorem Liv.made {H : Hp} {L : List Addr} {x d : Addr} {o : HO} (h : Liv H L) (nx : H x = none) (nd : H d = none) (ne : d ≠ x) : Liv (upd (upd H d (.own x)) x o) (x :: L) :=
  (h.keep0 (Keep.new nd)).cons (by rw [upd_ne ne.symm]; exact nx)
theorem made_at {H : Hp} {x d b : Addr} {o u : HO} (hx : H x = none) (hd : H d = none) (h : H b = some u) : upd (upd H d (.own x)) x o b = some u := by
  rw [upd_ne (ne_of_none h hx), upd_ne (ne_of_none h hd)]; exact h
theorem Keep.made {H : Hp} {x d : Addr} {o : HO} (hx : H x = none) (hd : H d = none) : Keep [] H (upd (upd H d (.own x)) x o) := fun _ _ h _ => made_at hx hd h
theorem Keep.tkL {H H' : Hp} {W : List Addr} (k : Keep W H H') (h : ∀ a ∈ W, ∃ ys, H a = some (.lst ys)) : TK H H' := fun b xs q => k b _ q fun z => by
  obtain ⟨ys, hy⟩ := h b z
  rw [q] at hy; cases hy

theorem Pool.liv {H : Hp} {p q : Addr} {ns : List Int} (h : Pool H p q ns) : Liv H [p, q] := by
  obtain ⟨i1, i2, i3, i4, i5, h1, h2, h3, h4⟩ := h
  refine ⟨by simp [h3.symm], fun a ha => ?_⟩
  rcases List.mem_cons.mp ha with rfl | ha
  · exact ⟨_, h1⟩
  · rw [List.mem_singleton] at ha; rw [ha]; exact ⟨_, h2⟩
def sp_two : Sp := fun vs H Q _ => ∃ p q ns, vs = [.ref p] ∧ Pool H p q ns ∧ ∀ H', Pool H' p q ns → Keep [p] H H' → Q (.bl true) H'
def ix01 (b : Bool) : Int := if b then 1 else 0
theorem at01 {f : Bool → Addr} (b : Bool) : atI [V.ref (f false), V.ref (f true)] (ix01 b) = some (.ref (f b)) := by cases b <;> rfl
/-- what the loop keeps of both tapes -/
structure Both (C : Addr) (H : Hp) (x rx tx kk l ps : Bool → Addr) (r : Bool → List Int) (tk : Bool → List (Int × Int)) (n : Nat) : Prop where
  tape : ∀ b, TapeAt C H (x b) (rx b) (tx b) (r b) (tk b)
  kk : ∀ b, ∃ ys, H (kk b) = some (.lst ys) ∧ PL H ys (tk b)
  l : ∀ b, H (l b) = some (.lst ((r b).map V.int))
  ps : ∀ b, H (ps b) = some (.lst ((r b ++ [1]).map V.int))
  cnt : ∀ b, CntOk (tk b)
  len : ∀ b, (tk b).length ≤ n
structure Apart (p q : Addr) (x rx tx kk l ps : Bool → Addr) (more : List Addr) : Prop where
  pq : ∀ b, x b ≠ p ∧ rx b ≠ p ∧ tx b ≠ p ∧ kk b ≠ p ∧ l b ≠ p ∧ ps b ≠ p
  t : ∀ b c, p ≠ tx b ∧ q ≠ tx b ∧ x c ≠ tx b ∧ rx c ≠ tx b ∧ kk c ≠ tx b ∧ l c ≠ tx b ∧ ps c ≠ tx b ∧ (c ≠ b → tx c ≠ tx b)
  k : ∀ b c, p ≠ kk b ∧ q ≠ kk b ∧ x c ≠ kk b ∧ rx c ≠ kk b ∧ tx c ≠ kk b ∧ l c ≠ kk b ∧ ps c ≠ kk b ∧ (c ≠ b → kk c ≠ kk b)
  more : ∀ a ∈ more, a ≠ p ∧ ∀ b, a ≠ tx b ∧ a ≠ kk b
theorem Both.keepW {C : Addr} {H H' : Hp} {x rx tx kk l ps : Bool → Addr} {r : Bool → List Int} {tk : Bool → List (Int × Int)} {n : Nat} {W : List Addr} (h : Both C H x rx tx kk l ps r tk n) (k : Keep W H H') (t : TK H H')
    (w : ∀ b, x b ∉ W ∧ rx b ∉ W ∧ tx b ∉ W ∧ kk b ∉ W ∧ l b ∉ W ∧ ps b ∉ W) : Both C H' x rx tx kk l ps r tk n :=
  ⟨fun b => (h.tape b).keep k t (w b).1 (w b).2.1 (w b).2.2.1, fun b => (by obtain ⟨ys, h1, h2⟩ := h.kk b; exact ⟨ys, k _ _ h1 (w b).2.2.2.1, h2.tk t⟩), fun b => k _ _ (h.l b) (w b).2.2.2.2.1, fun b => k _ _ (h.ps b) (w b).2.2.2.2.2, h.cnt, h.len⟩
theorem Both.keep0 {C : Addr} {H H' : Hp} {x rx tx kk l ps : Bool → Addr} {r : Bool → List Int} {tk : Bool → List (Int × Int)} {n : Nat} (h : Both C H x rx tx kk l ps r tk n) (k : Keep [] H H') : Both C H' x rx tx kk l ps r tk n :=
  h.keepW k k.tk fun b => ⟨by simp, by simp, by simp, by simp, by simp, by simp⟩
theorem Pool.tk {H H' : Hp} {p q : Addr} {ns : List Int} (h : Pool H p q ns) (k : Keep [p] H H') : TK H H' := by
  obtain ⟨i1, i2, i3, i4, i5, h, _⟩ := h
  exact k.tk1 h
theorem Both.keepP {C : Addr} {H H' : Hp} {p q : Addr} {ns : List Int} {m : List Addr} {x rx tx kk l ps : Bool → Addr} {r : Bool → List Int} {tk : Bool → List (Int × Int)} {n : Nat} (h : Both C H x rx tx kk l ps r tk n) (P : Pool H p q ns) (k : Keep [p] H H') (a : Apart p q x rx tx kk l ps m) : Both C H' x rx tx kk l ps r tk n :=
  h.keepW k (P.tk k) fun b => (by obtain ⟨h1, h2, h3, h4, h5, h6⟩ := a.pq b; simp [h1, h2, h3, h4, h5, h6])
def putB {α : Type} (f : Bool → α) (b : Bool) (v : α) : Bool → α := fun c => if c = b then v else f c
theorem putB_same {α : Type} {f : Bool → α} {b : Bool} {v : α} : putB f b v b = v := by simp [putB]
theorem putB_ne {α : Type} {f : Bool → α} {b c : Bool} {v : α} (h : c ≠ b) : putB f b v c = f c := by simp [putB, h]
/-- a lot is taken from one tape -/
theorem Both.take {C : Addr} {H H1 H2 : Hp} {p q : Addr} {m : List Addr} {x rx tx kk l ps : Bool → Addr} {r : Bool → List Int} {tk : Bool → List (Int × Int)} {n : Nat} {b : Bool} {ys : List V} {u : Addr} {d c : Int} (h : Both C H x rx tx kk l ps r tk n) (a : Apart p q x rx tx kk l ps m)
    (hk : H (kk b) = some (.lst ys)) (hy : PL H ys (tk b)) (nu : H u = none) (e1 : H1 = upd (upd H u (.tup [.int d, .int c])) (kk b) (.lst (ys ++ [.ref u]))) (K2 : Keep [tx b] H1 H2) (TA : TapeAt C H2 (x b) (rx b) (tx b) (r b) (tk b ++ [(d, c)])) (hc : 0 < c ∧ c < 65536) :
    Both C H2 x rx tx kk l ps r (putB tk b (tk b ++ [(d, c)])) (n + 1) := by
  have ku : Keep [] H (upd H u (.tup [.int d, .int c])) := Keep.new nu
  have K1 : Keep [kk b] H H1 := e1 ▸ (ku.mono (by simp)).then_at (List.mem_singleton.mpr rfl)
  have hku := ku _ _ hk (by simp)
  have T1 : TK H H1 := e1 ▸ ku.tk.trans (TK.lst hku)
  obtain ⟨xs, ht, pl⟩ := (h.tape b).t
  have ht1 : H1 (tx b) = some (.lst xs) := K1 _ _ ht (by simpa using (a.k b b).2.2.2.2.1)
  have T2 : TK H1 H2 := K2.tk1 ht1
  have T := T1.trans T2
  have K : Keep [tx b, kk b] H H2 := (K1.mono (by simp)).trans (K2.mono (by simp))
  have no : ∀ {z : Addr}, z ≠ tx b → z ≠ kk b → z ∉ [tx b, kk b] := fun h1 h2 => by simp [h1, h2]
  refine ⟨fun e => ?_, fun e => ?_, fun e => K _ _ (h.l e) (no (a.t b e).2.2.2.2.2.1 (a.k b e).2.2.2.2.2.1), fun e => K _ _ (h.ps e) (no (a.t b e).2.2.2.2.2.2.1 (a.k b e).2.2.2.2.2.2.1), fun e => ?_, fun e => ?_⟩
  · by_cases z : e = b
    · subst z; rw [putB_same]; exact TA
    · rw [putB_ne z]
      exact (h.tape e).keep K T (no (a.t b e).2.2.1 (a.k b e).2.2.1) (no (a.t b e).2.2.2.1 (a.k b e).2.2.2.1) (no ((a.t b e).2.2.2.2.2.2.2 z) (a.k b e).2.2.2.2.1)
  · by_cases z : e = b
    · subst z; rw [putB_same]
      have hh : H1 (kk e) = some (.lst (ys ++ [.ref u])) := by rw [e1]; exact upd_same
      refine ⟨_, K2 _ _ hh (by simpa using (a.t e e).2.2.2.2.1), ((hy.tk T1).snoc ?_).tk T2⟩
      rw [e1, upd_ne (ne_of_none hk nu).symm]; exact upd_same
    · rw [putB_ne z]
      obtain ⟨zs, h1, h2⟩ := h.kk e
      exact ⟨zs, K _ _ h1 (no (a.t b e).2.2.2.2.1 ((a.k b e).2.2.2.2.2.2.2 z)), h2.tk T⟩
  · by_cases z : e = b
    · subst z; rw [putB_same]
      intro w hw
      rcases List.mem_append.mp hw with hw | hw
      · exact h.cnt e w hw
      · rw [List.mem_singleton] at hw; rw [hw]; exact hc
    · rw [putB_ne z]; exact h.cnt e
  · by_cases z : e = b
    · subst z; rw [putB_same, List.length_append]
      have := h.len e
      simp; omega
    · rw [putB_ne z]; exact Nat.le_succ_of_le (h.len e)
section
variable {P : Program} {w : World} {K : PySem.W.Frag} {mg : Str → Option Value} {base : Heap} {C_Ratio : Addr} {C_Tape : Addr}
theorem ok_law_two {f : Addr} {fd : FuncData} (D : C8.Def K mg "_law_two" s_law_two f fd) (b : Binds K fd ["pool"] []) (T : Txt K mg C_Ratio C_Tape) (c_law_draw : C8.Cal P w K mg base 1 "_law_draw" sp_law_draw []) (c_law_results : C8.Cal P w K mg base 3 "_law_results" sp_law_results [])
    (c_Tape : C8.Mak P w K mg base 1 "Tape" C_Tape (sp_tape K C_Tape) []) (c_law_same : C8.Cal P w K mg base 3 "_law_same" (sp_law_same K 3) []) (c_law_told : C8.Cal P w K mg base 5 "_law_told" (sp_told K C_Tape) []) (c_law_count : C8.Cal P w K mg base 2 "_law_count" sp_law_count [])
    (c_Tape_take : C8.Met P w K mg base 1 C_Tape "take" (sp_take C_Tape) []) : C8.Cal P w K mg base 6 "_law_two" sp_two [] := by
  refine cal0 D b .nil sc_law_two (fun vs H Q E h => ?_) (fun cdv A outer s H vs Q E hr h => ?_)
  · obtain ⟨p, q, ns, rfl, _⟩ := h
    rfl
  · obtain ⟨p, q, ns, rfl, hP, k⟩ := h
    refine ⟨_, (pss_cons (ps_set (i := 1) sc_law_two.nd rfl (by first | exact Or.inl rfl | exact Or.inr rfl) (pe_lst (pa_cons (pe_c c_law_results hr (by first | exact Nat.le_refl _ | decide) rfl (pa_cons (pv 0) pa_nil)) (pa_cons (pe_c c_law_results hr (by first | exact Nat.le_refl _ | decide) rfl (pa_cons (pv 0) pa_nil)) pa_nil))))
(pss_cons (ps_set (i := 2) sc_law_two.nd rfl (by first | exact Or.inl rfl | exact Or.inr rfl) (pe_lst (pa_cons (pe_callTy call_list_of (by rfl) T.n_list bo_list (pa_cons (pe_ix ix_list (pv 1) pe_int (fun _ _ => rfl)) pa_nil)) (pa_cons (pe_callTy call_list_of (by rfl) T.n_list bo_list (pa_cons (pe_ix ix_list (pv 1) pe_int (fun _ _ => rfl)) pa_nil)) pa_nil))))
(pss_cons (ps_set (i := 3) sc_law_two.nd rfl (by first | exact Or.inl rfl | exact Or.inr rfl) (pe_lst (pa_cons (pe_mk c_Tape hr (by first | exact Nat.le_refl _ | decide) rfl (pa_cons (pe_ix ix_list (pv 2) pe_int (fun _ _ => rfl)) pa_nil)) (pa_cons (pe_mk c_Tape hr (by first | exact Nat.le_refl _ | decide) rfl (pa_cons (pe_ix ix_list (pv 2) pe_int (fun _ _ => rfl)) pa_nil)) pa_nil))))
(pss_cons (ps_if (pt_not (pt_val (pe_c c_law_same hr (by first | exact Nat.le_refl _ | decide) rfl (pa_cons (pv 2) (pa_cons (pv 1) pa_nil)))))
  (pss_one (ps_ret pe_bl))
  pss_nil)
(pss_cons (ps_for PassesOwn.never rfl (pi_list (pv 2)) (pg_name (i := 4) sc_law_two.nd rfl (by first | exact Or.inl rfl | exact Or.inr rfl))
  (pss_one (ps_expr (pe_bm PySem.F.plainAttrs_list PySem.F.slot_list_append PySem.F.type_list_append mt_append (pv 4) (pa_cons pe_int pa_nil)))))
(pss_cons (ps_set (i := 5) sc_law_two.nd rfl (by first | exact Or.inl rfl | exact Or.inr rfl) (pe_lst (pa_cons (pe_lst pa_nil) (pa_cons (pe_lst pa_nil) pa_nil))))
(pss_cons (ps_set (i := 6) sc_law_two.nd rfl (by first | exact Or.inl rfl | exact Or.inr rfl) (pe_c c_law_draw hr (by first | exact Nat.le_refl _ | decide) rfl (pa_cons (pv 0) (pa_cons pe_int pa_nil))))
(pss_cut (ps_if (pt_cmpR op_eq (pe_c c_law_draw hr (by first | exact Nat.le_refl _ | decide) rfl (pa_cons (pv 0) (pa_cons pe_int pa_nil))) pe_int (nomark _))
  (pss_one (ps_set (i := 6) sc_law_two.nd rfl (by first | exact Or.inl rfl | exact Or.inr rfl) (pe_op op_add (pv 6) pe_int)))
  pss_nil)
(pss_cons (ps_for PassesOwn.never rfl (pi_range1 (by rfl) T.n_range (pa_cons (pv 6) pa_nil)) (pg_name (i := 7) sc_law_two.nd rfl (by first | exact Or.inl rfl | exact Or.inr rfl))
  (pss_cons (ps_set (i := 8) sc_law_two.nd rfl (by first | exact Or.inl rfl | exact Or.inr rfl) (pe_op op_fdiv (pe_c c_law_draw hr (by first | exact Nat.le_refl _ | decide) rfl (pa_cons (pv 0) (pa_cons pe_int pa_nil))) pe_int))
  (pss_cons (ps_if (pt_not (pt_val (pe_c c_law_told hr (by first | exact Nat.le_refl _ | decide) rfl (pa_cons (pe_ix ix_list (pv 3) (pv 8) (fun _ _ => rfl)) (pa_cons (pe_ix ix_list (pv 5) (pv 8) (fun _ _ => rfl)) pa_nil)))))
    (pss_one (ps_ret pe_bl))
    pss_nil)
  (pss_cons (ps_set (i := 9) sc_law_two.nd rfl (by first | exact Or.inl rfl | exact Or.inr rfl) (pe_c c_law_count hr (by first | exact Nat.le_refl _ | decide) rfl (pa_cons (pv 0) pa_nil)))
  (pss_cons (ps_set (i := 10) sc_law_two.nd rfl (by first | exact Or.inl rfl | exact Or.inr rfl) pe_int)
  (pss_cut (ps_if (pt_cmpR op_lt (pe_callB call_len_seq (by rfl) T.n_len bo_len (pa_cons (pe_ix ix_list (pv 5) (pv 8) (fun _ _ => rfl)) pa_nil)) (pe_callB call_len_seq (by rfl) T.n_len bo_len (pa_cons (pe_ix ix_list (pv 1) (pv 8) (fun _ _ => rfl)) pa_nil)) (nomark _))
    (pss_one (ps_set (i := 10) sc_law_two.nd rfl (by first | exact Or.inl rfl | exact Or.inr rfl) (pe_op op_mod (pe_callTy call_int1 (by rfl) T.n_int bo_int (pa_cons (pe_ix ix_list (pe_ix ix_list (pv 1) (pv 8) (fun _ _ => rfl)) (pe_callB call_len_seq (by rfl) T.n_len bo_len (pa_cons (pe_ix ix_list (pv 5) (pv 8) (fun _ _ => rfl)) pa_nil)) (fun _ _ => rfl)) pa_nil)) (pv 9))))
    pss_nil)
  (pss_cons (ps_set (i := 11) sc_law_two.nd rfl (by first | exact Or.inl rfl | exact Or.inr rfl) (pe_ix ix_list (pv 5) (pv 8) (fun _ _ => rfl)))
  (pss_cons (ps_expr (pe_bm PySem.F.plainAttrs_list PySem.F.slot_list_append PySem.F.type_list_append mt_append (pv 11) (pa_cons (pe_tup (pa_cons (pv 10) (pa_cons (pv 9) pa_nil))) pa_nil)))
  (pss_one (ps_if (pt_not (pt_val (pe_c c_law_same hr (by first | exact Nat.le_refl _ | decide) rfl (pa_cons (pe_mt c_Tape_take hr (by first | exact Nat.le_refl _ | decide) (pe_ix ix_list (pv 3) (pv 8) (fun _ _ => rfl)) (pa_cons (pv 9) pa_nil)) (pa_cons (pv 10) pa_nil)))))
    (pss_one (ps_ret pe_bl))
    pss_nil))))))))))
(pss_cons (ps_if (PW.pt (pw_or (pt_not (pt_val (pe_c c_law_told hr (by first | exact Nat.le_refl _ | decide) rfl (pa_cons (pe_ix ix_list (pv 3) pe_int (fun _ _ => rfl)) (pa_cons (pe_ix ix_list (pv 5) pe_int (fun _ _ => rfl)) pa_nil))))) (pw_or1 (pt_not (pt_val (pe_c c_law_told hr (by first | exact Nat.le_refl _ | decide) rfl (pa_cons (pe_ix ix_list (pv 3) pe_int (fun _ _ => rfl)) (pa_cons (pe_ix ix_list (pv 5) pe_int (fun _ _ => rfl)) pa_nil))))))))
  (pss_one (ps_ret pe_bl))
  pss_nil)
(pss_one (ps_ret (pe_c c_law_same hr (by first | exact Nat.le_refl _ | decide) rfl (pa_cons (pv 2) (pa_cons (pe_lst (pa_cons (pe_op op_cat (pe_ix ix_list (pv 1) pe_int (fun _ _ => rfl)) (pe_lst (pa_cons pe_int pa_nil))) (pa_cons (pe_op op_cat (pe_ix ix_list (pv 1) pe_int (fun _ _ => rfl)) (pe_lst (pa_cons pe_int pa_nil))) pa_nil))) pa_nil))))))))))))))), ?_⟩
    -- lists
    refine ⟨_, rfl, p, q, ns, rfl, hP, fun l0 r0 H1 n0 h0 len0 P1 K1 => ⟨_, rfl, p, q, ns, rfl, P1, fun l1 r1 H2 n1 h1 len1 P2 K2 => ⟨by show 2 ≤ sizeLine; decide, fun Ls nLs => ?_⟩⟩⟩
    have L0 := hP.liv
    obtain ⟨o1, ho1⟩ := P1.some
    obtain ⟨o2, ho2⟩ := P2.some
    have L1 := L0.cons' n0 (L0.keep1 K1 ho1) h0
    have L2 := L1.cons' n1 (L1.keep1 K2 ho2) h1
    have h02 := K2 _ _ h0 (by simpa using L1.ne 0 1 rfl rfl)
    have L3 := L2.cons (o := .lst [.ref l0, .ref l1]) nLs
    have k3 : Keep [] H2 (upd H2 Ls (.lst [.ref l0, .ref l1])) := Keep.new nLs
    have eLs : upd H2 Ls (.lst [.ref l0, .ref l1]) Ls = some (.lst [.ref l0, .ref l1]) := upd_same
    have h03 := k3 _ _ h02 (by simp)
    have h13 := k3 _ _ h1 (by simp)
    have P3 := P2.keep0 k3
    have KA : Keep [p] H (upd H2 Ls (.lst [.ref l0, .ref l1])) := (K1.trans K2).trans (k3.mono (by simp))
    generalize upd H2 Ls (.lst [.ref l0, .ref l1]) = H3 at *
    -- passed
    refine ⟨_, rfl, _, _, _, _, rfl, rfl, SqL.of eLs, rfl, _, _, rfl, .inl (SqL.of h03), fun p0 np0 => ?_⟩
    have k4 : Keep [] H3 (upd H3 p0 (.lst (r0.map V.int))) := Keep.new np0
    have L4 := L3.cons (o := .lst (r0.map V.int)) np0
    refine ⟨_, rfl, _, _, _, _, rfl, rfl, SqL.of (k4 _ _ eLs (by simp)), rfl, _, _, rfl, .inl (SqL.of (k4 _ _ h13 (by simp))), fun p1 np1 => ?_⟩
    have k5 : Keep [] (upd H3 p0 (.lst (r0.map V.int))) (upd (upd H3 p0 (.lst (r0.map V.int))) p1 (.lst (r1.map V.int))) := Keep.new np1
    have L5 := L4.cons (o := .lst (r1.map V.int)) np1
    refine ⟨by show 2 ≤ sizeLine; decide, fun Ps nPs => ?_⟩
    have k6 : Keep [] (upd (upd H3 p0 (.lst (r0.map V.int))) p1 (.lst (r1.map V.int))) (upd (upd (upd H3 p0 (.lst (r0.map V.int))) p1 (.lst (r1.map V.int))) Ps (.lst [.ref p0, .ref p1])) := Keep.new nPs
    have L6 := L5.cons (o := .lst [.ref p0, .ref p1]) nPs
    have ePs : upd (upd (upd H3 p0 (.lst (r0.map V.int))) p1 (.lst (r1.map V.int))) Ps (.lst [.ref p0, .ref p1]) Ps = some (.lst [.ref p0, .ref p1]) := upd_same
    have hp06 := k6 _ _ (k5 _ _ (upd_same (H := H3) (a := p0)) (by simp)) (by simp)
    have hp16 := k6 _ _ (upd_same (H := upd H3 p0 (.lst (r0.map V.int))) (a := p1)) (by simp)
    have k36 := (k4.trans k5).trans k6
    have P6 := P3.keep0 k36
    have KB := KA.trans (k36.mono (by simp))
    have eLs6 := k36 _ _ eLs (by simp)
    have h06 := k36 _ _ h03 (by simp)
    have h16 := k36 _ _ h13 (by simp)
    generalize upd (upd (upd H3 p0 (.lst (r0.map V.int))) p1 (.lst (r1.map V.int))) Ps (.lst [.ref p0, .ref p1]) = H6 at *
    have np0H := P3.free KA np0
    have np1H := (P3.keep0 k4).free (KA.trans (k4.mono (by simp))) np1
    clear k4 L4 k5 L5 k6 k36 np1 nPs np0
    -- tapes
    refine ⟨_, rfl, _, _, _, _, rfl, rfl, SqL.of ePs, rfl, fun x0 d0 nx0 nd0 ne0 => ⟨x0, d0, p0, r0, rfl, SqL.of (made_at nx0 nd0 hp06), upd_same, fun rx0 tx0 H7 nrx0 ntx0 K7 TA0 => ⟨rfl, ?_⟩⟩⟩
    have Lm := L6.made (o := .ins C_Tape d0 []) nx0 nd0 ne0
    have k67 := keep_made nx0 nd0 K7
    obtain ⟨ox0, hox0⟩ := TA0.o
    obtain ⟨xs0, ht0, _⟩ := TA0.t
    have L7 := Lm.cons2 nrx0 ntx0 TA0.ne (Lm.keep1 K7 hox0) TA0.r ht0
    refine ⟨_, rfl, _, _, _, _, rfl, rfl, SqL.of (k67 _ _ ePs (by simp)), rfl, fun x1 d1 nx1 nd1 ne1 => ⟨x1, d1, p1, r1, rfl, SqL.of (made_at nx1 nd1 (k67 _ _ hp16 (by simp))), upd_same, fun rx1 tx1 H8 nrx1 ntx1 K8 TA1 => ⟨rfl, ?_⟩⟩⟩
    have Lm8 := L7.made (o := .ins C_Tape d1 []) nx1 nd1 ne1
    have k78 := keep_made nx1 nd1 K8
    obtain ⟨ox1, hox1⟩ := TA1.o
    obtain ⟨xs1, ht1, _⟩ := TA1.t
    have L8 := Lm8.cons2 nrx1 ntx1 TA1.ne (Lm8.keep1 K8 hox1) TA1.r ht1
    have ntx0H := P6.free KB ((Keep.made (o := .ins C_Tape d0 []) nx0 nd0).free ntx0)
    have ntx1H := P6.free KB (k67.free ((Keep.made (o := .ins C_Tape d1 []) nx1 nd1).free ntx1))
    refine ⟨by show 2 ≤ sizeLine; decide, fun Ts nTs => ?_⟩
    have k89 : Keep [] H8 (upd H8 Ts (.lst [.ref x0, .ref x1])) := Keep.new nTs
    have L9 := L8.cons (o := .lst [.ref x0, .ref x1]) nTs
    have eTs : upd H8 Ts (.lst [.ref x0, .ref x1]) Ts = some (.lst [.ref x0, .ref x1]) := upd_same
    have k69 := (k67.trans k78).trans k89
    have TA0 := TA0.keep (k78.trans k89) (k78.trans k89).tk (by simp) (by simp) (by simp)
    have TA1 := TA1.keep k89 k89.tk (by simp) (by simp) (by simp)
    have P9 := P6.keep0 k69
    have KC := KB.trans (k69.mono (by simp))
    have ePs := k69 _ _ ePs (by simp)
    have eLs := k69 _ _ eLs6 (by simp)
    have hl0 := k69 _ _ h06 (by simp)
    have hl1 := k69 _ _ h16 (by simp)
    have hp0 := k69 _ _ hp06 (by simp)
    have hp1 := k69 _ _ hp16 (by simp)
    generalize upd H8 Ts (.lst [.ref x0, .ref x1]) = H9 at *
    clear k67 k78 k89 k69 Lm Lm8 L7 L8 nrx0 ntx0 nrx1 ntx1 K7 K8 nx0 nd0 ne0 nx1 nd1 ne1 nTs hox0 hox1
    have bz : ∀ r : List Int, r.length ≤ 40 → (r.map V.int).length ≤ 1000000 := fun r h => by rw [List.length_map]; omega
    refine ⟨_, rfl, _, rfl, _, _, rfl, sameL ePs eLs (.cons (sameL hp0 hl0 (same_ints (n := 0) r0) (bz _ len0)) (.cons (sameL hp1 hl1 (same_ints (n := 0) r1) (bz _ len1)) .nil)) (by show 2 ≤ 1000000; decide), _, rfl, iteF ?_⟩
    -- what was passed grows
    have ep01 : p0 ≠ p1 := L9.ne 9 8 rfl rfl
    have hp0L := hp0
    have hp1L := hp1
    refine ⟨_, rfl, Ps, rfl, ⟨_, SqL.of ePs⟩, for_list (K := K) (a := Ps) (xs := [.ref p0, .ref p1]) (fun i σ H' => (∃ o4, σ = [some (.ref p), some (.ref Ls), some (.ref Ps), some (.ref Ts), o4, none, none, none, none, none, none, none]) ∧ Keep [p0, p1] H9 H' ∧
      H' p0 = some (.lst ((if 0 < i then r0 ++ [1] else r0).map V.int)) ∧ H' p1 = some (.lst ((if 1 < i then r1 ++ [1] else r1).map V.int))) ⟨⟨_, rfl⟩, Keep.refl _ _, hp0, hp1⟩ (fun i σ H' _ h => SqL.of (h.2.1 _ _ ePs ?_)) ?_ ?_⟩
    · have a1 := L9.ne 7 9 rfl rfl
      have a2 := L9.ne 7 8 rfl rfl
      simp [a1, a2]
    · rintro i v σ H' hi ⟨⟨o4, rfl⟩, kk, g0, g1⟩
      match i, hi with
      | 0, hi =>
        cases hi
        refine ⟨_, rfl, .inl ⟨rfl, _, SqL.of g0⟩, _, _, _, rfl, rfl, g0, by rw [List.length_map]; exact smallL (by simp; omega), ⟨_, rfl⟩, kk.then_at (by simp), ?_, ?_⟩
        · exact upd_same.trans (by simp)
        · rw [upd_ne ep01.symm]; exact g1
      | 1, hi =>
        cases hi
        refine ⟨_, rfl, .inl ⟨rfl, _, SqL.of g1⟩, _, _, _, rfl, rfl, g1, by rw [List.length_map]; exact smallL (by simp; omega), ⟨_, rfl⟩, kk.then_at (by simp), ?_, ?_⟩
        · rw [upd_ne ep01]; exact g0
        · exact upd_same.trans (by simp)
    rintro σ H10 ⟨⟨o4, rfl⟩, K10, hp0', hp1'⟩
    have hp0 : H10 p0 = some (.lst ((r0 ++ [1]).map V.int)) := hp0'
    have hp1 : H10 p1 = some (.lst ((r1 ++ [1]).map V.int)) := hp1'
    have L10 := L9.keep K10 (fun a ha => by
      rcases List.mem_cons.mp ha with rfl | ha
      · exact ⟨_, hp0⟩
      · rw [List.mem_singleton] at ha; rw [ha]; exact ⟨_, hp1⟩)
    have wT : ∀ {a : Addr} (i : Nat), ([Ts, tx1, rx1, x1, tx0, rx0, x0, Ps, p1, p0, Ls, l1, l0, p, q] : List Addr)[i]? = some a → i ≠ 9 → i ≠ 8 → a ∉ [p0, p1] := fun i h h1 h2 => by
      have a1 := L9.ne i 9 h rfl h1
      have a2 := L9.ne i 8 h rfl h2
      simp [a1, a2]
    have T10 : TK H9 H10 := K10.tkL fun a ha => by
      rcases List.mem_cons.mp ha with rfl | ha
      · exact ⟨_, hp0L⟩
      · rw [List.mem_singleton] at ha; rw [ha]; exact ⟨_, hp1L⟩
    have TA0 := TA0.keep K10 T10 (wT 6 rfl (by decide) (by decide)) (wT 5 rfl (by decide) (by decide)) (wT 4 rfl (by decide) (by decide))
    have TA1 := TA1.keep K10 T10 (wT 3 rfl (by decide) (by decide)) (wT 2 rfl (by decide) (by decide)) (wT 1 rfl (by decide) (by decide))
    have hl0 := K10 _ _ hl0 (wT 12 rfl (by decide) (by decide))
    have hl1 := K10 _ _ hl1 (wT 11 rfl (by decide) (by decide))
    have eLs := K10 _ _ eLs (wT 10 rfl (by decide) (by decide))
    have ePs := K10 _ _ ePs (wT 7 rfl (by decide) (by decide))
    have eTs := K10 _ _ eTs (wT 0 rfl (by decide) (by decide))
    have P10 : Pool H10 p q ns := by
      obtain ⟨i1, i2, i3, i4, i5, g1, g2, g3, g4⟩ := P9
      exact ⟨i1, i2, i3, i4, i5, K10 _ _ g1 (wT 13 rfl (by decide) (by decide)), K10 _ _ g2 (wT 14 rfl (by decide) (by decide)), g3, g4⟩
    have KD : Keep [p] H H10 := fun b o hb hn => by
      have n0 : b ≠ p0 := ne_of_none hb np0H
      have n1 : b ≠ p1 := ne_of_none hb np1H
      exact K10 _ _ (KC _ _ hb hn) (by simp [n0, n1])
    clear K10 T10 hp0' hp1' hp0L hp1L KC P9 wT ep01 L9
    -- taken
    refine ⟨by show 0 ≤ sizeLine; decide, fun k0 nk0 => ⟨by show 0 ≤ sizeLine; decide, fun k1 nk1 => ⟨by show 2 ≤ sizeLine; decide, fun Ks nKs => ?_⟩⟩⟩
    have ka : Keep [] H10 (upd H10 k0 (.lst [])) := Keep.new nk0
    have kb : Keep [] (upd H10 k0 (.lst [])) (upd (upd H10 k0 (.lst [])) k1 (.lst [])) := Keep.new nk1
    have kc : Keep [] (upd (upd H10 k0 (.lst [])) k1 (.lst [])) (upd (upd (upd H10 k0 (.lst [])) k1 (.lst [])) Ks (.lst [.ref k0, .ref k1])) := Keep.new nKs
    have La := L10.cons (o := .lst []) nk0
    have Lb := La.cons (o := .lst []) nk1
    have Lc := Lb.cons (o := .lst [.ref k0, .ref k1]) nKs
    have kt := (ka.trans kb).trans kc
    have eKs : upd (upd (upd H10 k0 (.lst [])) k1 (.lst [])) Ks (.lst [.ref k0, .ref k1]) Ks = some (.lst [.ref k0, .ref k1]) := upd_same
    have hk0 := kc _ _ (kb _ _ (upd_same (H := H10) (a := k0) (o := .lst [])) (by simp)) (by simp)
    have hk1 := kc _ _ (upd_same (H := upd H10 k0 (.lst [])) (a := k1) (o := .lst [])) (by simp)
    generalize upd (upd (upd H10 k0 (.lst [])) k1 (.lst [])) Ks (.lst [.ref k0, .ref k1]) = H11 at *
    have B11 : Both C_Tape H11 (fun b => cond b x1 x0) (fun b => cond b rx1 rx0) (fun b => cond b tx1 tx0) (fun b => cond b k1 k0) (fun b => cond b l1 l0) (fun b => cond b p1 p0) (fun b => cond b r1 r0) (fun _ => []) 0 := by
      refine ⟨fun b => ?_, fun b => ⟨[], ?_, .nil⟩, fun b => ?_, fun b => ?_, fun b w hw => (by cases hw), fun b => Nat.le_refl 0⟩
      · cases b
        · exact TA0.keep kt kt.tk (by simp) (by simp) (by simp)
        · exact TA1.keep kt kt.tk (by simp) (by simp) (by simp)
      · cases b <;> assumption
      · cases b
        · exact kt _ _ hl0 (by simp)
        · exact kt _ _ hl1 (by simp)
      · cases b
        · exact kt _ _ hp0 (by simp)
        · exact kt _ _ hp1 (by simp)
    have P11 := P10.keep0 kt
    have KE := KD.trans (kt.mono (by simp))
    have eLs := kt _ _ eLs (by simp)
    have ePs := kt _ _ ePs (by simp)
    have eTs := kt _ _ eTs (by simp)
    have Ap : Apart p q (fun b => cond b x1 x0) (fun b => cond b rx1 rx0) (fun b => cond b tx1 tx0) (fun b => cond b k1 k0) (fun b => cond b l1 l0) (fun b => cond b p1 p0) [Ls, Ps, Ts, Ks] := by
      have ne := fun {i j : Nat} {a b : Addr} ha hb hij => Lc.ne (a := a) (b := b) i j ha hb hij
      have ix : ∀ b, ([Ks, k1, k0, Ts, tx1, rx1, x1, tx0, rx0, x0, Ps, p1, p0, Ls, l1, l0, p, q] : List Addr)[cond b 6 9]? = some (cond b x1 x0) := fun b => by cases b <;> rfl
      have ir : ∀ b, ([Ks, k1, k0, Ts, tx1, rx1, x1, tx0, rx0, x0, Ps, p1, p0, Ls, l1, l0, p, q] : List Addr)[cond b 5 8]? = some (cond b rx1 rx0) := fun b => by cases b <;> rfl
      have it : ∀ b, ([Ks, k1, k0, Ts, tx1, rx1, x1, tx0, rx0, x0, Ps, p1, p0, Ls, l1, l0, p, q] : List Addr)[cond b 4 7]? = some (cond b tx1 tx0) := fun b => by cases b <;> rfl
      have ik : ∀ b, ([Ks, k1, k0, Ts, tx1, rx1, x1, tx0, rx0, x0, Ps, p1, p0, Ls, l1, l0, p, q] : List Addr)[cond b 1 2]? = some (cond b k1 k0) := fun b => by cases b <;> rfl
      have il : ∀ b, ([Ks, k1, k0, Ts, tx1, rx1, x1, tx0, rx0, x0, Ps, p1, p0, Ls, l1, l0, p, q] : List Addr)[cond b 14 15]? = some (cond b l1 l0) := fun b => by cases b <;> rfl
      have ip : ∀ b, ([Ks, k1, k0, Ts, tx1, rx1, x1, tx0, rx0, x0, Ps, p1, p0, Ls, l1, l0, p, q] : List Addr)[cond b 11 12]? = some (cond b p1 p0) := fun b => by cases b <;> rfl
      refine ⟨fun b => ⟨ne (ix b) (j := 16) rfl ?_, ne (ir b) (j := 16) rfl ?_, ne (it b) (j := 16) rfl ?_, ne (ik b) (j := 16) rfl ?_, ne (il b) (j := 16) rfl ?_, ne (ip b) (j := 16) rfl ?_⟩,
        fun b c => ⟨ne (i := 16) rfl (it b) ?_, ne (i := 17) rfl (it b) ?_, ne (ix c) (it b) ?_, ne (ir c) (it b) ?_, ne (ik c) (it b) ?_, ne (il c) (it b) ?_, ne (ip c) (it b) ?_, fun z => ne (it c) (it b) ?_⟩,
        fun b c => ⟨ne (i := 16) rfl (ik b) ?_, ne (i := 17) rfl (ik b) ?_, ne (ix c) (ik b) ?_, ne (ir c) (ik b) ?_, ne (it c) (ik b) ?_, ne (il c) (ik b) ?_, ne (ip c) (ik b) ?_, fun z => ne (ik c) (ik b) ?_⟩, fun a ha => ?_⟩
      all_goals first
        | (cases b <;> decide)
        | (cases b <;> cases c <;> first | decide | exact absurd rfl z)
        | skip
      have key : ∀ i, ([Ks, k1, k0, Ts, tx1, rx1, x1, tx0, rx0, x0, Ps, p1, p0, Ls, l1, l0, p, q] : List Addr)[i]? = some a → (i = 0 ∨ i = 3 ∨ i = 10 ∨ i = 13) → a ≠ p ∧ ∀ b, a ≠ cond b tx1 tx0 ∧ a ≠ cond b k1 k0 := fun i hi hh =>
        ⟨ne hi (j := 16) rfl (by omega), fun b => ⟨ne hi (it b) (by cases b <;> simp <;> omega), ne hi (ik b) (by cases b <;> simp <;> omega)⟩⟩
      simp only [List.mem_cons, List.not_mem_nil, or_false] at ha
      rcases ha with rfl | rfl | rfl | rfl
      · exact key 13 rfl (by simp)
      · exact key 10 rfl (by simp)
      · exact key 3 rfl (by simp)
      · exact key 0 rfl (by simp)
    have eTs : H11 Ts = some (.lst [.ref ((fun b => cond b x1 x0) false), .ref ((fun b => cond b x1 x0) true)]) := eTs
    have eKs : H11 Ks = some (.lst [.ref ((fun b => cond b k1 k0) false), .ref ((fun b => cond b k1 k0) true)]) := eKs
    have eLs : H11 Ls = some (.lst [.ref ((fun b => cond b l1 l0) false), .ref ((fun b => cond b l1 l0) true)]) := eLs
    have ePs : H11 Ps = some (.lst [.ref ((fun b => cond b p1 p0) false), .ref ((fun b => cond b p1 p0) true)]) := ePs
    have hlen : ∀ b, ((fun b => cond b r1 r0) b).length ≤ 40 := fun b => by cases b <;> assumption
    have kkH : ∀ b, H ((fun b => cond b k1 k0) b) = none ∧ H ((fun b => cond b tx1 tx0) b) = none := by
      intro b
      cases b
      · exact ⟨P10.free KD nk0, ntx0H⟩
      · exact ⟨P10.free KD (ka.free nk1), ntx1H⟩
    clear TA0 TA1 hl0 hl1 hp0 hp1 La Lb Lc L10 L6 L3 L2 L1 L0 ka kb kc hk0 hk1 nk0 nk1 nKs KD
    generalize (fun b => cond b x1 x0) = x at *
    generalize (fun b => cond b rx1 rx0) = rx at *
    generalize (fun b => cond b tx1 tx0) = tx at *
    generalize (fun b => cond b k1 k0) = kk at *
    generalize (fun b => cond b l1 l0) = ll at *
    generalize (fun b => cond b p1 p0) = ps at *
    generalize (fun b => cond b r1 r0) = r at *
    -- how many
    refine ⟨_, rfl, p, q, ns, 11, rfl, by decide, by decide, P11, fun m0 H12 a0 a1 P12 K12 => ?_⟩
    refine ⟨fun σ H' => ∃ m : Int, σ = [some (.ref p), some (.ref Ls), some (.ref Ps), some (.ref Ts), o4, some (.ref Ks), some (.int m), none, none, none, none, none] ∧ 0 ≤ m ∧ m ≤ 40 ∧ Pool H' p q ns ∧ Keep [p] H11 H', ?_, ?_⟩
    · refine ⟨_, rfl, p, q, ns, 4, rfl, by decide, by decide, P12, fun r _ _ _ P13 K13 => ⟨rfl, _, rfl, iteD (fun _ => ?_) (fun _ => ⟨m0, rfl, a0, by omega, P13, K12.trans K13⟩)⟩⟩
      exact ⟨_, rfl, _, _, rfl, rfl, _, rfl, by omega, by omega, P13, K12.trans K13⟩
    rintro σ H13 ⟨m, rfl, m0', m1', P13, K13⟩
    have sK : ∀ {a : Addr} {W : List Addr} {H1 H2 : Hp} {o : HO}, Keep W H1 H2 → H1 a = some o → a ∉ W → H2 a = some o := fun k h w => k _ _ h w
    have nm : ∀ a ∈ [Ls, Ps, Ts, Ks], a ≠ p := fun a ha => (Ap.more a ha).1
    have B13 := B11.keepP P11 K13 Ap
    refine ⟨_, rfl, m, rfl, by omega, by omega, for_range (lo := 0) (n := m.toNat) (fun i σ H' => ∃ (tk : Bool → List (Int × Int)) (o7 o8 o9 o10 o11 : Option V), σ = [some (.ref p), some (.ref Ls), some (.ref Ps), some (.ref Ts), o4, some (.ref Ks), some (.int m), o7, o8, o9, o10, o11] ∧
      Both C_Tape H' x rx tx kk ll ps r tk i ∧ Pool H' p q ns ∧ Keep [p, tx false, tx true, kk false, kk true] H11 H') ⟨_, none, none, none, none, none, rfl, B13, P13, K13.mono (by simp)⟩ ?_ ?_⟩
    · rintro i σ H3 hi ⟨tk, o7, o8, o9, o10, o11, rfl, B3, P3, K3⟩
      have hi40 : i < 40 := by omega
      have nW : ∀ a ∈ [Ls, Ps, Ts, Ks], a ∉ [p, tx false, tx true, kk false, kk true] := fun a ha => by
        obtain ⟨h1, h2⟩ := Ap.more a ha
        simp [h1, (h2 false).1, (h2 true).1, (h2 false).2, (h2 true).2]
      refine ⟨_, rfl, p, q, ns, 3, rfl, by decide, by decide, P3, fun r3 H4 b0 b1 P4 K4 => ⟨_, _, rfl, rfl, ⟨by decide, by decide⟩, ?_⟩⟩
      obtain ⟨b, hb⟩ : ∃ b : Bool, r3 / 2 = ix01 b := by
        rcases (show r3 / 2 = 0 ∨ r3 / 2 = 1 by omega) with h | h
        · exact ⟨false, h⟩
        · exact ⟨true, h⟩
      show gName 8 (.int (r3 / 2)) _ _ _
      rw [hb]
      have B4 := B3.keepP P3 K4 Ap
      have k4 : Keep [p, tx false, tx true, kk false, kk true] H11 H4 := K3.trans (K4.mono (by simp))
      have eTs4 := k4 _ _ eTs (nW _ (by simp))
      have eKs4 := k4 _ _ eKs (nW _ (by simp))
      have eLs4 := k4 _ _ eLs (nW _ (by simp))
      obtain ⟨ys, hky, ply⟩ := B4.kk b
      have hl := B4.len b
      refine ⟨_, rfl, _, rfl, _, _, _, _, rfl, rfl, SqL.of eTs4, at01 b, _, rfl, _, rfl, _, _, _, _, rfl, rfl, SqL.of eKs4, at01 b, x b, rx b, tx b, kk b, r b, tk b, ys, rfl, B4.tape b, hky, ply, B4.cnt b, by omega, fun H5 K5 => ⟨_, rfl, iteF ?_⟩⟩
      refine ⟨_, rfl, p, q, ns, rfl, P4.keep0 K5, fun c H6 c0 c1 P6 K6 => ?_⟩
      have k46 : Keep [p] H4 H6 := (K5.mono (by simp)).trans K6
      have B6 := B4.keepP P4 k46 Ap
      have nm4 : ∀ {a : Addr} {o : HO}, a ∈ [Ls, Ps, Ts, Ks] → H4 a = some o → H6 a = some o := fun ha h => k46 _ _ h (by simpa using nm _ ha)
      have eTs6 := nm4 (by simp) eTs4
      have eKs6 := nm4 (by simp) eKs4
      have eLs6 := nm4 (by simp) eLs4
      obtain ⟨zs, hkz, plz⟩ := B6.kk b
      have zlen := plz.len
      refine ⟨fun σ H' => H' = H6 ∧ σ = [some (.ref p), some (.ref Ls), some (.ref Ps), some (.ref Ts), o4, some (.ref Ks), some (.int m), some (.int (0 + (i : Nat))), some (.int (ix01 b)), some (.int c), some (.int (nextR (r b) (tk b) c)), o11], ?_, ?_⟩
      · refine ⟨_, rfl, _, rfl, _, _, _, _, rfl, rfl, SqL.of eKs6, at01 b, _, _, rfl, .inl (SqL.of hkz), _, rfl, _, rfl, _, _, _, _, rfl, rfl, SqL.of eLs6, at01 b, _, _, rfl, .inl (SqL.of (B6.l b)), _, _, rfl, rfl, _, rfl, iteD (fun h => ?_) (fun h => ⟨rfl, ?_⟩)⟩
        · rw [List.length_map, zlen] at h
          have h' : (tk b).length < (r b).length := by omega
          have hget : ((r b).map V.int)[zs.length]? = some (.int ((r b).getD (tk b).length 0)) := by
            rw [zlen, List.getElem?_map, List.getD_eq_getElem?_getD, List.getElem?_eq_getElem h']; rfl
          refine ⟨_, rfl, _, rfl, _, _, _, _, rfl, rfl, SqL.of eLs6, at01 b, _, rfl, _, rfl, _, _, _, _, rfl, rfl, SqL.of eKs6, at01 b, _, _, rfl, .inl (SqL.of hkz), _, _, _, _, rfl, rfl, SqL.of (B6.l b), atI_nat hget, .inl ⟨_, rfl, _, rfl, _, _, rfl, rfl, c0, rfl, ?_⟩⟩
          unfold nextR
          rw [if_pos h']; rfl
        · rw [List.length_map, zlen] at h
          unfold nextR
          rw [if_neg (by omega)]; rfl
      rintro σ H' ⟨rfl, rfl⟩
      refine ⟨_, rfl, _, rfl, _, _, _, _, rfl, rfl, SqL.of eKs6, at01 b, _, rfl, .inl ⟨rfl, _, SqL.of hkz⟩, _, rfl, _, rfl, by show 2 ≤ sizeLine; decide, fun u nu => ⟨_, _, _, rfl, rfl, Keep.new (W := []) nu _ _ hkz (by simp), by rw [zlen]; exact smallL (by omega), ?_⟩⟩
      have kz : Keep [kk b] H' (upd (upd H' u (.tup [.int (nextR (r b) (tk b) c), .int c])) (kk b) (.lst (zs ++ [.ref u]))) := ((Keep.new (W := []) nu).mono (by simp)).then_at (List.mem_singleton.mpr rfl)
      have tz : TK H' (upd (upd H' u (.tup [.int (nextR (r b) (tk b) c), .int c])) (kk b) (.lst (zs ++ [.ref u]))) := (TK.new nu).trans (TK.lst (Keep.new (W := []) nu _ _ hkz (by simp)))
      obtain ⟨s1, s2, s3, s4, s5, s6, s7, s8⟩ := Ap.k b b
      have TAz := (B6.tape b).keep kz tz (by simpa using s3) (by simpa using s4) (by simpa using s5)
      obtain ⟨dx, hox⟩ := TAz.o
      have nk : ∀ {a : Addr}, a ∈ [Ls, Ps, Ts, Ks] → a ∉ [kk b] := fun ha => by simpa using ((Ap.more _ ha).2 b).2
      refine ⟨_, rfl, _, rfl, _, _, _, _, rfl, rfl, SqL.of (kz _ _ eTs6 (nk (by simp))), at01 b, x b, dx, _, rfl, hox, rfl, _, rfl, x b, rx b, tx b, r b, tk b, c, rfl, c0, by omega, by omega, TAz, fun H7 K7 TA7 => ?_⟩
      refine ⟨_, rfl, _, _, rfl, sameV_atom (.inr (.inl ⟨_, rfl⟩)), _, rfl, iteF ?_⟩
      have B7 := B6.take Ap hkz plz nu rfl K7 TA7 ⟨c0, c1⟩
      have K67 : Keep [p, tx false, tx true, kk false, kk true] H' H7 := (kz.mono (by cases b <;> simp)).trans (K7.mono (by cases b <;> simp))
      refine ⟨_, _, _, _, _, _, rfl, B7, ?_, (k4.trans (k46.mono (by simp))).trans K67⟩
      obtain ⟨i1, i2, i3, i4, i5, g1, g2, g3, g4⟩ := P6
      obtain ⟨t1, t2, _⟩ := Ap.t b b
      exact ⟨i1, i2, i3, i4, i5, K7 _ _ (kz _ _ g1 (by simpa using s1)) (by simpa using t1), K7 _ _ (kz _ _ g2 (by simpa using s2)) (by simpa using t2), g3, g4⟩
    rintro σ H3 ⟨tk, o7, o8, o9, o10, o11, rfl, B3, P3, K3⟩
    have nW : ∀ a ∈ [Ls, Ps, Ts, Ks], a ∉ [p, tx false, tx true, kk false, kk true] := fun a ha => by
      obtain ⟨h1, h2⟩ := Ap.more a ha
      simp [h1, (h2 false).1, (h2 true).1, (h2 false).2, (h2 true).2]
    have eTs3 := K3 _ _ eTs (nW _ (by simp))
    have eKs3 := K3 _ _ eKs (nW _ (by simp))
    have eLs3 := K3 _ _ eLs (nW _ (by simp))
    have ePs3 := K3 _ _ ePs (nW _ (by simp))
    obtain ⟨ys, hky, ply⟩ := B3.kk false
    refine ⟨_, rfl, _, _, _, _, rfl, rfl, SqL.of eTs3, rfl, _, rfl, _, _, _, _, rfl, rfl, SqL.of eKs3, rfl, x false, rx false, tx false, kk false, r false, tk false, ys, rfl, B3.tape false, hky, ply, B3.cnt false, by have := B3.len false; omega, fun H4 K4 => ⟨_, rfl, iteF ?_⟩⟩
    have B4 := B3.keep0 K4
    have eTs4 := K4 _ _ eTs3 (by simp)
    have eKs4 := K4 _ _ eKs3 (by simp)
    obtain ⟨zs, hkz, plz⟩ := B4.kk true
    refine ⟨_, rfl, _, _, _, _, rfl, rfl, SqL.of eTs4, rfl, _, rfl, _, _, _, _, rfl, rfl, SqL.of eKs4, rfl, x true, rx true, tx true, kk true, r true, tk true, zs, rfl, B4.tape true, hkz, plz, B4.cnt true, by have := B4.len true; omega, fun H5 K5 => ⟨_, rfl, iteF ?_⟩⟩
    have B5 := B4.keep0 K5
    have k35 := K4.trans K5
    have eLs5 := k35 _ _ eLs3 (by simp)
    have ePs5 := k35 _ _ ePs3 (by simp)
    have bz : ∀ b, ((r b).map V.int ++ [V.int 1]).length ≤ 1000000 := fun b => by rw [List.length_append, List.length_map]; have := hlen b; simp; omega
    refine ⟨_, rfl, _, rfl, _, _, _, _, rfl, rfl, SqL.of eLs5, rfl, by show 1 ≤ sizeLine; decide, fun o1 no1 => ?_⟩
    have k6 : Keep [] H5 (upd H5 o1 (.lst [.int 1])) := Keep.new no1
    refine ⟨_, _, _, _, rfl, rfl, k6 _ _ (B5.l false) (by simp), upd_same, ?_, fun s0 ns0 => ?_⟩
    · have := bz false
      rw [List.length_append] at this
      exact smallM this
    have k7 : Keep [] (upd H5 o1 (.lst [.int 1])) (upd (upd H5 o1 (.lst [.int 1])) s0 (.lst ((r false).map V.int ++ [.int 1]))) := Keep.new ns0
    have k67 := k6.trans k7
    refine ⟨_, rfl, _, _, _, _, rfl, rfl, SqL.of (k67 _ _ eLs5 (by simp)), rfl, by show 1 ≤ sizeLine; decide, fun o2 no2 => ?_⟩
    have k8 : Keep [] _ (upd (upd (upd H5 o1 (.lst [.int 1])) s0 (.lst ((r false).map V.int ++ [.int 1]))) o2 (.lst [.int 1])) := Keep.new no2
    refine ⟨_, _, _, _, rfl, rfl, (k67.trans k8) _ _ (B5.l true) (by simp), upd_same, ?_, fun s1 ns1 => ?_⟩
    · have := bz true
      rw [List.length_append] at this
      exact smallM this
    have k9 : Keep [] _ (upd (upd (upd (upd H5 o1 (.lst [.int 1])) s0 (.lst ((r false).map V.int ++ [.int 1]))) o2 (.lst [.int 1])) s1 (.lst ((r true).map V.int ++ [.int 1]))) := Keep.new ns1
    refine ⟨by show 2 ≤ sizeLine; decide, fun R nR => ?_⟩
    have k10 : Keep [] _ (upd (upd (upd (upd (upd H5 o1 (.lst [.int 1])) s0 (.lst ((r false).map V.int ++ [.int 1]))) o2 (.lst [.int 1])) s1 (.lst ((r true).map V.int ++ [.int 1]))) R (.lst [.ref s0, .ref s1])) := Keep.new nR
    have k59 := (k67.trans k8).trans (k9.trans k10)
    have e1 : ∀ b, (r b).map V.int ++ [V.int 1] = (r b ++ [1]).map V.int := fun b => by simp
    have hs0 := ((k8.trans k9).trans k10) _ _ (upd_same (H := upd H5 o1 (.lst [.int 1])) (a := s0) (o := .lst ((r false).map V.int ++ [.int 1]))) (by simp)
    have hs1 := k10 _ _ upd_same (by simp)
    have hs0 := hs0.trans (congrArg (fun l => some (HO.lst l)) (e1 false))
    have hs1 := hs1.trans (congrArg (fun l => some (HO.lst l)) (e1 true))
    refine ⟨_, _, rfl, sameL (k59 _ _ ePs5 (by simp)) upd_same (.cons (sameL (k59 _ _ (B5.ps false) (by simp)) hs0 (same_ints (n := 0) _) ?_) (.cons (sameL (k59 _ _ (B5.ps true) (by simp)) hs1 (same_ints (n := 0) _) ?_) .nil)) (by show 2 ≤ 1000000; decide), k _ ((P3.keep0 k35).keep0 k59) ?_⟩
    · rw [← e1]; exact bz false
    · rw [← e1]; exact bz true
    · have K : Keep [p, tx false, tx true, kk false, kk true] H11 _ := K3.trans ((k35.trans k59).mono (by simp))
      intro a o ha hn
      refine K _ _ (KE _ _ ha hn) ?_
      have hn' : a ≠ p := by simpa using hn
      have a1 := ne_of_none ha (kkH false).1
      have a2 := ne_of_none ha (kkH true).1
      have a3 := ne_of_none ha (kkH false).2
      have a4 := ne_of_none ha (kkH true).2
      simp [hn', a1, a2, a3, a4]
end

theorem prodL_snoc (l : List Int) (c : Int) : prodL (l ++ [c]) = prodL l * c := by
  induction l with
  | nil => show c * 1 = 1 * c; omega
  | cons a l ih =>
    show a * prodL (l ++ [c]) = a * prodL l * c
    rw [ih, Int.mul_assoc]
theorem digs_len : ∀ (cs : List Int) (k : Int), (digs cs k).length = cs.length
  | [], _ => rfl
  | c :: cs, k => by show (digs cs k).length + 1 = cs.length + 1; rw [digs_len cs k]
theorem digs_get : ∀ (cs : List Int) (k : Int) (i : Nat) (c : Int), cs[i]? = some c → (digs cs k)[i]? = some (k / prodL (cs.drop (i + 1)) % c, c)
  | [], _, _, _, h => by simp at h
  | a :: cs, k, 0, c, h => by
    simp at h
    subst h
    rfl
  | a :: cs, k, i + 1, c, h => digs_get cs k i c (by simpa using h)
theorem agree_next : ∀ (P : List Int) (l : List (Int × Int)), agree P l → ∀ (i : Nat) (d c : Int), l[i]? = some (d, c) → nextR P (l.take i) c = d
  | _, [], _, i, d, c, h => by simp at h
  | [], (a, b) :: l, ha, 0, d, c, h => by
    simp at h
    obtain ⟨rfl, rfl⟩ := h
    exact ha.1.symm
  | [], (a, b) :: l, ha, i + 1, d, c, h => by
    have := agree_next [] l ha.2 i d c (by simpa using h)
    unfold nextR at this ⊢
    simpa using this
  | p :: P, (a, b) :: l, ha, 0, d, c, h => by
    simp at h
    obtain ⟨rfl, rfl⟩ := h
    unfold nextR
    simpa using ha.1
  | p :: P, (a, b) :: l, ha, i + 1, d, c, h => by
    have := agree_next P l ha.2 i d c (by simpa using h)
    unfold nextR at this ⊢
    have hl : (l.take i).length = i := by
      have := (List.getElem?_eq_some_iff.mp h).1
      rw [List.length_take]; simp at this; omega
    simpa [hl] using this
theorem cut_from {xs : List V} {m : Nat} (h : m ≤ xs.length) : cutV xs (some (m : Int)) none = xs.drop m := by
  unfold cutV
  rw [HT.sIx_nat, HT.sIx_none, Nat.min_eq_left h]
  exact List.take_of_length_le (by rw [List.length_drop]; omega)
theorem prodL_drop_pos {cs : List Int} (h : Pos cs) (n : Nat) : 0 < prodL (cs.drop n) := prodL_pos fun c hc => h c (List.mem_of_mem_drop hc)
theorem prodL_take_pos {cs : List Int} (h : Pos cs) (n : Nat) : 0 < prodL (cs.take n) := prodL_pos fun c hc => h c (List.mem_of_mem_take hc)
theorem prodL_ge : ∀ {cs : List Int}, Pos cs → ∀ c ∈ cs, c ≤ prodL cs
  | [], _, c, hc => by cases hc
  | a :: cs, h, c, hc => by
    have ha := h a (List.mem_cons_self ..)
    have hp := prodL_pos (cs := cs) fun x hx => h x (List.mem_cons_of_mem _ hx)
    show c ≤ a * prodL cs
    rcases List.mem_cons.mp hc with rfl | hc
    · have := Int.mul_le_mul_of_nonneg_left (show 1 ≤ prodL cs by omega) (show 0 ≤ c by omega)
      omega
    · have h1 := prodL_ge (fun x hx => h x (List.mem_cons_of_mem _ hx)) c hc
      have := Int.mul_le_mul_of_nonneg_right (show 1 ≤ a by omega) (show 0 ≤ prodL cs by omega)
      omega
def sp_law (K : PySem.W.Frag) : Sp := fun vs H Q _ => ∃ (a : Addr) (ns : List Int), vs = [.ref a] ∧ SqL K H a (ns.map V.int) ∧ ∀ H', Q (.bl true) H'
section
variable {P : Program} {w : World} {K : PySem.W.Frag} {mg : Str → Option Value} {base : Heap} {C_Ratio : Addr} {C_Tape : Addr}
theorem ok_law {f : Addr} {fd : FuncData} (F : C8.Fun K "law" "law" s_law f fd) (T : Txt K mg C_Ratio C_Tape) (c_law_pool : C8.Cal P w K mg base 1 "_law_pool" (sp_law_pool K) []) (c_law_draw : C8.Cal P w K mg base 1 "_law_draw" sp_law_draw []) (c_law_two : C8.Cal P w K mg base 6 "_law_two" sp_two [])
    (c_Tape : C8.Mak P w K mg base 1 "Tape" C_Tape (sp_tape K C_Tape) []) (c_law_same : C8.Cal P w K mg base 3 "_law_same" (sp_law_same K 3) []) (c_Tape_take : C8.Met P w K mg base 1 C_Tape "take" (sp_take C_Tape) []) (c_Tape_following : C8.Met P w K mg base 1 C_Tape "following" (sp_following C_Tape) []) :
    FnOk P w K mg base C8.CX0 7 f fd ["script"] (sp_law K) := by
  refine C8.fn0 F sc_law (fun vs H Q E h => ?_) (fun cdv A outer s H vs Q E hr h => ?_)
  · obtain ⟨a, ns, rfl, _⟩ := h
    rfl
  · obtain ⟨a, ns, rfl, hS, k⟩ := h
    refine ⟨_, (pss_cons (ps_set (i := 1) sc_law.nd rfl (by first | exact Or.inl rfl | exact Or.inr rfl) (pe_c c_law_pool hr (by first | exact Nat.le_refl _ | decide) rfl (pa_cons (pv 0) (pa_cons pe_int pa_nil))))
(pss_cons (ps_if (pt_not (pt_val (pe_c c_law_two hr (by first | exact Nat.le_refl _ | decide) rfl (pa_cons (pv 1) pa_nil))))
  (pss_one (ps_ret pe_bl))
  pss_nil)
(pss_cons (ps_set (i := 2) sc_law.nd rfl (by first | exact Or.inl rfl | exact Or.inr rfl) (pe_lst pa_nil))
(pss_cons (ps_set (i := 3) sc_law.nd rfl (by first | exact Or.inl rfl | exact Or.inr rfl) pe_int)
(pss_cons (ps_for PassesOwn.never rfl (pi_range1 (by rfl) T.n_range (pa_cons (pe_c c_law_draw hr (by first | exact Nat.le_refl _ | decide) rfl (pa_cons (pv 1) (pa_cons pe_int pa_nil))) pa_nil)) (pg_name (i := 4) sc_law.nd rfl (by first | exact Or.inl rfl | exact Or.inr rfl))
  (pss_cons (ps_set (i := 5) sc_law.nd rfl (by first | exact Or.inl rfl | exact Or.inr rfl) (pe_op op_add pe_int (pe_c c_law_draw hr (by first | exact Nat.le_refl _ | decide) rfl (pa_cons (pv 1) (pa_cons pe_int pa_nil)))))
  (pss_cut (ps_if (pt_cmpR op_eq (pe_c c_law_draw hr (by first | exact Nat.le_refl _ | decide) rfl (pa_cons (pv 1) (pa_cons pe_int pa_nil))) pe_int (nomark _))
    (pss_one (ps_set (i := 5) sc_law.nd rfl (by first | exact Or.inl rfl | exact Or.inr rfl) (pe_op op_add pe_int (pe_c c_law_draw hr (by first | exact Nat.le_refl _ | decide) rfl (pa_cons (pv 1) (pa_cons pe_int pa_nil))))))
    pss_nil)
  (pss_one (ps_if (pt_cmpR op_le (pe_op op_mul (pv 3) (pv 5)) pe_int (nomark _))
    (pss_cons (ps_expr (pe_bm PySem.F.plainAttrs_list PySem.F.slot_list_append PySem.F.type_list_append mt_append (pv 2) (pa_cons (pv 5) pa_nil)))
    (pss_one (ps_set (i := 3) sc_law.nd rfl (by first | exact Or.inl rfl | exact Or.inr rfl) (pe_op op_mul (pv 3) (pv 5)))))
    pss_nil)))))
(pss_cons (ps_set (i := 6) sc_law.nd rfl (by first | exact Or.inl rfl | exact Or.inr rfl) (pe_lst pa_nil))
(pss_cons (ps_for PassesOwn.never rfl (pi_range1 (by rfl) T.n_range (pa_cons (pv 3) pa_nil)) (pg_name (i := 4) sc_law.nd rfl (by first | exact Or.inl rfl | exact Or.inr rfl))
  (pss_cons (ps_set (i := 7) sc_law.nd rfl (by first | exact Or.inl rfl | exact Or.inr rfl) (pe_mk c_Tape hr (by first | exact Nat.le_refl _ | decide) rfl (pa_cons (pv 6) pa_nil)))
  (pss_cons (ps_for PassesOwn.never rfl (pi_range1 (by rfl) T.n_range (pa_cons (pe_callB call_len_seq (by rfl) T.n_len bo_len (pa_cons (pv 2) pa_nil)) pa_nil)) (pg_name (i := 8) sc_law.nd rfl (by first | exact Or.inl rfl | exact Or.inr rfl))
    (pss_cons (ps_set (i := 9) sc_law.nd rfl (by first | exact Or.inl rfl | exact Or.inr rfl) (pv 4))
    (pss_cons (ps_for PassesOwn.never rfl (pi_list (pe_slice sl_list (pv 2) (po_some (pe_op op_add (pv 8) pe_int)) po_none)) (pg_name (i := 5) sc_law.nd rfl (by first | exact Or.inl rfl | exact Or.inr rfl))
      (pss_one (ps_set (i := 9) sc_law.nd rfl (by first | exact Or.inl rfl | exact Or.inr rfl) (pe_op op_fdivG (pv 9) (pv 5)))))
    (pss_one (ps_if (pt_not (pt_val (pe_c c_law_same hr (by first | exact Nat.le_refl _ | decide) rfl (pa_cons (pe_mt c_Tape_take hr (by first | exact Nat.le_refl _ | decide) (pv 7) (pa_cons (pe_ix ix_list (pv 2) (pv 8) (fun _ _ => rfl)) pa_nil)) (pa_cons (pe_op op_mod (pe_callTy call_int1 (by rfl) T.n_int bo_int (pa_cons (pv 9) pa_nil)) (pe_ix ix_list (pv 2) (pv 8) (fun _ _ => rfl))) pa_nil)))))
      (pss_one (ps_ret pe_bl))
      pss_nil)))))
  (pss_cons (ps_set (i := 6) sc_law.nd rfl (by first | exact Or.inl rfl | exact Or.inr rfl) (pe_mt0 c_Tape_following hr (by first | exact Nat.le_refl _ | decide) (pv 7)))
  (pss_one (ps_if (pt_cmpR op_ne (pe_cmpR op_isN (pv 6) pe_non (nomark _)) (pe_cmpR op_eq (pv 4) (pe_op op_sub (pv 3) pe_int) (nomark _)) (nomark _))
    (pss_one (ps_ret pe_bl))
    pss_nil))))))
(pss_one (ps_ret pe_bl))))))))), ?_⟩
    refine ⟨_, rfl, a, ns, 0, rfl, hS, fun p q H1 hp1 P1 K1 => ?_⟩
    refine ⟨_, rfl, p, q, ns, rfl, P1, fun H2 P2 K2 => ⟨_, rfl, iteF ?_⟩⟩
    refine ⟨by show 0 ≤ sizeLine; decide, fun cl ncl => ?_⟩
    have ncp := P2.nep ncl
    have ncq := P2.neq ncl
    refine ⟨_, rfl, p, q, ns, 9, rfl, by decide, by decide, P2.new ncl, fun m H4 a0 a1 P4 K4 => ⟨m, rfl, by omega, by omega, for_range (lo := 0) (n := m.toNat) (fun i σ H' => ∃ (cs : List Int) (o4 o5 : Option V), σ = [some (.ref a), some (.ref p), some (.ref cl), some (.int (prodL cs)), o4, o5, none, none, none, none] ∧
      H' cl = some (.lst (cs.map V.int)) ∧ cs.length ≤ i ∧ Pos cs ∧ prodL cs ≤ 120 ∧ Pool H' p q ns) ⟨[], none, none, rfl, K4 _ _ upd_same (by simpa using ncp), Nat.le_refl 0, (fun _ h => by cases h), by decide, P4⟩ ?_ ?_⟩⟩
    · rintro i σ H5 hi ⟨cs, o4, o5, rfl, hcl, hlen, hpos, h120, P5⟩
      have hpp := prodL_pos hpos
      refine ⟨_, rfl, p, q, ns, 6, rfl, by decide, by decide, P5, fun r1 H6 b0 b1 P6 K6 => ⟨_, _, rfl, rfl, ?_⟩⟩
      refine ⟨fun σ H' => ∃ c : Int, σ = [some (.ref a), some (.ref p), some (.ref cl), some (.int (prodL cs)), some (.int (0 + (i : Nat))), some (.int c), none, none, none, none] ∧ 0 < c ∧ c ≤ 120 ∧ H' cl = some (.lst (cs.map V.int)) ∧ Pool H' p q ns, ?_, ?_⟩
      · have hcl6 := K6 _ _ hcl (by simpa using ncp)
        refine ⟨_, rfl, p, q, ns, 4, rfl, by decide, by decide, P6, fun r _ _ _ P7 K7 => ⟨rfl, _, rfl, iteD (fun _ => ?_) (fun _ => ⟨1 + r1, rfl, by omega, by omega, K7 _ _ hcl6 (by simpa using ncp), P7⟩)⟩⟩
        exact ⟨_, rfl, p, q, ns, 120, rfl, by decide, by decide, P7, fun r2 H8 d0 d1 P8 K8 => ⟨_, _, rfl, rfl, 1 + r2, rfl, by omega, by omega, K8 _ _ (K7 _ _ hcl6 (by simpa using ncp)) (by simpa using ncp), P8⟩⟩
      rintro σ H7 ⟨c, rfl, c0, c1, hcl7, P7⟩
      refine ⟨_, rfl, _, rfl, _, _, rfl, rfl, .inl ⟨by omega, by omega⟩, _, _, rfl, rfl, _, rfl, iteD (fun h => ?_) (fun h => ⟨cs, _, _, rfl, hcl7, by omega, hpos, h120, P7⟩)⟩
      refine ⟨_, rfl, .inl ⟨rfl, _, SqL.of hcl7⟩, _, rfl, _, _, _, rfl, rfl, hcl7, by rw [List.length_map]; exact smallL (by omega), ?_⟩
      refine ⟨_, rfl, _, rfl, _, _, rfl, rfl, .inl ⟨by omega, by omega⟩, ?_⟩
      refine ⟨cs ++ [c], _, _, by rw [prodL_snoc]; rfl, by rw [List.map_append]; exact upd_same, by rw [List.length_append]; simp; omega, ?_, by rw [prodL_snoc]; exact h, P7.own ncp ncq⟩
      intro x hx
      rcases List.mem_append.mp hx with hx | hx
      · exact hpos x hx
      · rw [List.mem_singleton] at hx; omega
    rintro σ H5 ⟨cs, o4, o5, rfl, hcl, hlen, hpos, h120, P5⟩
    have hpp := prodL_pos hpos
    have hlen : cs.length ≤ 8 := by omega
    refine ⟨by show 0 ≤ sizeLine; decide, fun rl0 nrl0 => ?_⟩
    have hcl0 : upd H5 rl0 (.lst []) cl = some (.lst (cs.map V.int)) := Keep.new (W := []) nrl0 _ _ hcl (by simp)
    obtain ⟨n, hn⟩ : ∃ n : Nat, prodL cs = (n : Int) := ⟨(prodL cs).toNat, by omega⟩
    refine ⟨_, rfl, prodL cs, rfl, by omega, by omega, for_range (lo := 0) (n := (prodL cs).toNat) (fun i σ H' => ∃ (o4 o5 o7 o8 o9 : Option V) (v6 : V), σ = [some (.ref a), some (.ref p), some (.ref cl), some (.int (prodL cs)), o4, o5, some v6, o7, o8, o9] ∧ H' cl = some (.lst (cs.map V.int)) ∧
      ((i : Int) < prodL cs → ∃ rl Pz, v6 = .ref rl ∧ H' rl = some (.lst (Pz.map V.int)) ∧ agree Pz (digs cs (i : Int)))) ⟨_, _, none, none, none, _, rfl, hcl0, fun _ => ⟨rl0, [], rfl, upd_same, digs_zero cs⟩⟩ ?_ ?_⟩
    · rintro i σ H6 hi ⟨o4, o5, o7, o8, o9, v6, rfl, hcl6, hh⟩
      have hik : (i : Int) < prodL cs := by omega
      have e0 : (0 : Int) + (i : Int) = (i : Int) := by omega
      rw [e0]
      obtain ⟨rl, Pz, rfl, hrl, hag⟩ := hh hik
      refine ⟨_, rfl, fun x d nx nd ne => ⟨x, d, rl, Pz, rfl, SqL.of (made_at nx nd hrl), upd_same, fun rx tx H7 nrx ntx K7 TA7 => ⟨rfl, ?_⟩⟩⟩
      have k67 := keep_made nx nd K7
      have hcl7 := k67 _ _ hcl6 (by simp)
      have nct : cl ≠ tx := ne_of_none (made_at (o := .ins C_Tape d []) nx nd hcl6) ntx
      have hgc : ∀ {j : Nat} {c : Int}, cs[j]? = some c → (cs.map V.int)[j]? = some (.int c) := fun h => by rw [List.getElem?_map, h]; rfl
      refine ⟨_, rfl, _, _, rfl, .inl (SqL.of hcl7), _, rfl, by rw [List.length_map]; omega, by rw [List.length_map]; omega, ?_⟩
      rw [List.length_map]
      refine for_range (lo := 0) (n := cs.length) (fun j σ H' => ∃ (o5 o8 o9 : Option V), σ = [some (.ref a), some (.ref p), some (.ref cl), some (.int (prodL cs)), some (.int (i : Int)), o5, some (.ref rl), some (.ref x), o8, o9] ∧ Keep [tx] H7 H' ∧
        TapeAt C_Tape H' x rx tx Pz ((digs cs (i : Int)).take j)) ⟨_, _, _, rfl, Keep.refl _ _, TA7⟩ ?_ ?_
      · rintro j σ H8 hj ⟨o5, o8, o9, rfl, K8, TA8⟩
        have ej : (0 : Int) + (j : Int) = (j : Int) := by omega
        rw [ej]
        have hcl8 := K8 _ _ hcl7 (by simpa using nct)
        have hc : cs[j]? = some cs[j] := List.getElem?_eq_getElem hj
        have hcp := hpos _ (List.getElem_mem hj)
        have hcb := prodL_ge hpos _ (List.getElem_mem hj)
        generalize cs[j] = c at *
        refine ⟨_, rfl, ?_⟩
        refine ⟨_, rfl, _, rfl, _, _, rfl, rfl, _, rfl, cl, _, rfl, SqL.of hcl8, fun sl nsl => ?_⟩
        have e1 : ((j : Int) + 1) = ((j + 1 : Nat) : Int) := by omega
        rw [e1, cut_from (by rw [List.length_map]; omega), ← List.map_drop]
        have k9 : Keep [] H8 (upd H8 sl (.lst ((cs.drop (j + 1)).map V.int))) := Keep.new nsl
        refine ⟨sl, rfl, ⟨_, SqL.of upd_same⟩, for_list (K := K) (a := sl) (xs := (cs.drop (j + 1)).map V.int) (fun t σ H' => H' = upd H8 sl (.lst ((cs.drop (j + 1)).map V.int)) ∧ ∃ o5, σ = [some (.ref a), some (.ref p), some (.ref cl), some (.int (prodL cs)), some (.int (i : Int)), o5, some (.ref rl), some (.ref x), some (.int (j : Int)), some (.int ((i : Int) / prodL ((cs.drop (j + 1)).take t)))])
          ⟨rfl, _, by rw [List.take_zero]; show _ = [_, _, _, _, _, _, _, _, _, some (V.int ((i : Int) / 1))]; rw [Int.ediv_one]; rfl⟩ (fun t σ H' _ h => by rw [h.1]; exact SqL.of upd_same) ?_ ?_⟩
        · rintro t v σ H' hv ⟨rfl, o5, rfl⟩
          obtain ⟨z, hz, rfl⟩ := ints_get hv
          obtain ⟨hlt, he⟩ := List.getElem?_eq_some_iff.mp hz
          have hmem : z ∈ cs := List.mem_of_mem_drop (he ▸ List.getElem_mem hlt)
          have hzp := hpos z hmem
          have hzb := prodL_ge hpos z hmem
          have cdz : ∀ {y : Int}, CDivG y z := ⟨by omega, Nat.lt_trans (log2_lt9 (b := 60) (by omega) (by decide)) (by decide)⟩
          refine ⟨_, rfl, _, rfl, _, _, rfl, rfl, cdz, rfl, some (.int z), ?_⟩
          rw [List.take_succ_eq_append_getElem hlt, he, prodL_snoc]
          have : (((i : Int) / prodL ((cs.drop (j + 1)).take t)).fdiv z) = (i : Int) / (prodL ((cs.drop (j + 1)).take t) * z) := by
            rw [Int.fdiv_eq_ediv_of_nonneg _ (by omega), Int.ediv_ediv_of_nonneg (Int.le_of_lt (prodL_pos fun c hc => hpos c (List.mem_of_mem_drop (List.mem_of_mem_take hc))))]
          rw [← this]; rfl
        rintro σ H' ⟨rfl, o5, rfl⟩
        rw [List.length_map, List.take_length]
        have TA9 := TA8.keep k9 k9.tk (by simp) (by simp) (by simp)
        obtain ⟨dx, hox⟩ := id TA9.o
        have hdg := digs_get cs (i : Int) j c hc
        have hnx := agree_next Pz _ hag j _ _ hdg
        have hdl := digs_len cs (i : Int)
        have hcl9 := k9 _ _ hcl8 (by simp)
        obtain ⟨hdlt, hde⟩ := List.getElem?_eq_some_iff.mp hdg
        refine ⟨_, rfl, x, dx, _, rfl, hox, rfl, _, rfl, _, rfl, _, _, _, _, rfl, rfl, SqL.of hcl9, atI_nat (hgc hc), x, rx, tx, Pz, _, c, rfl, hcp, by omega, by rw [List.length_take]; omega, TA9, fun H10 K10 TA10 => ?_⟩
        rw [hnx] at TA10 ⊢
        have hcl10 := K10 _ _ hcl9 (by simpa using nct)
        refine ⟨_, rfl, .inl ⟨_, rfl, _, rfl, _, rfl, _, _, _, _, rfl, rfl, SqL.of hcl10, atI_nat (hgc hc), _, _, rfl, rfl, hcp, ?_⟩⟩
        refine ⟨_, _, rfl, sameV_atom (.inr (.inl ⟨_, rfl⟩)), _, rfl, iteF ?_⟩
        refine ⟨_, _, _, rfl, (K8.trans (k9.mono (by simp))).trans K10, ?_⟩
        rw [List.take_succ_eq_append_getElem hdlt, hde]; exact TA10
      rintro σ H8 ⟨o5, o8, o9, rfl, K8, TA8⟩
      have hdl := digs_len cs (i : Int)
      rw [← hdl, List.take_length] at TA8
      have hcl8 := K8 _ _ hcl7 (by simpa using nct)
      obtain ⟨dx, hox⟩ := id TA8.o
      have hno := next_ok cs (i : Int) hpos (by omega) hik
      refine ⟨_, rfl, x, dx, _, rfl, hox, rfl, x, rx, tx, Pz, _, rfl, by omega, TA8, fun e => ?_, fun ys l H9 e nl hl K9 => ?_⟩
      · have hk := hno.1.mp e
        refine ⟨_, rfl, rfl, _, rfl, _, rfl, _, _, rfl, rfl, rfl, rfl, _, rfl, iteNF (by simp [hk]) ?_⟩
        exact ⟨_, _, _, _, _, _, rfl, hcl8, fun h => by omega⟩
      · have hk : ¬ (i : Int) = prodL cs - 1 := fun z => by have := hno.1.mpr z; rw [e] at this; cases this
        refine ⟨_, rfl, rfl, _, rfl, _, rfl, _, _, rfl, rfl, rfl, rfl, _, rfl, iteNF (by simp [hk]) ?_⟩
        refine ⟨_, _, _, _, _, _, rfl, K9 _ _ hcl8 (by simp), fun h => ⟨l, ys, rfl, hl, ?_⟩⟩
        have e2 : ((i + 1 : Nat) : Int) = (i : Int) + 1 := by omega
        rw [e2]; exact hno.2 ys e
    · rintro σ H6 _
      exact k _
end

theorem all_mk {l : PySem.W.OpenLaw} {w : World} {K : PySem.W.Frag} {h : Heap} {mg : Str → Option Value} {fa : Addr} (X : K.In h) (G : h.Ns mainGlobals mg) (hfa : mg "law" = some (.ref fa))
    {f_law_pool : Addr} {od_law_pool an_law_pool : Option Addr} {sl_law_pool : Array (Option Value)} {oc_law_pool kV_law_pool dc_law_pool pm_law_pool cd_law_pool ct_law_pool : Value}
    {f_law_draw : Addr} {od_law_draw an_law_draw : Option Addr} {sl_law_draw : Array (Option Value)} {oc_law_draw kV_law_draw dc_law_draw pm_law_draw cd_law_draw ct_law_draw : Value}
    {f_law_number : Addr} {od_law_number an_law_number : Option Addr} {sl_law_number : Array (Option Value)} {oc_law_number kV_law_number dc_law_number pm_law_number cd_law_number ct_law_number : Value}
    {f_law_same : Addr} {od_law_same an_law_same : Option Addr} {sl_law_same : Array (Option Value)} {oc_law_same kV_law_same dc_law_same pm_law_same cd_law_same ct_law_same : Value}
    {f_law_lowest : Addr} {od_law_lowest an_law_lowest : Option Addr} {sl_law_lowest : Array (Option Value)} {oc_law_lowest kV_law_lowest dc_law_lowest pm_law_lowest cd_law_lowest ct_law_lowest : Value}
    {f_law_is_ratio : Addr} {od_law_is_ratio an_law_is_ratio : Option Addr} {sl_law_is_ratio : Array (Option Value)} {oc_law_is_ratio kV_law_is_ratio dc_law_is_ratio pm_law_is_ratio cd_law_is_ratio ct_law_is_ratio : Value}
    {f_law_following : Addr} {od_law_following an_law_following : Option Addr} {sl_law_following : Array (Option Value)} {oc_law_following kV_law_following dc_law_following pm_law_following cd_law_following ct_law_following : Value}
    {f_law_told : Addr} {od_law_told an_law_told : Option Addr} {sl_law_told : Array (Option Value)} {oc_law_told kV_law_told dc_law_told pm_law_told cd_law_told ct_law_told : Value}
    {f_law_count : Addr} {od_law_count an_law_count : Option Addr} {sl_law_count : Array (Option Value)} {oc_law_count kV_law_count dc_law_count pm_law_count cd_law_count ct_law_count : Value}
    {f_law_results : Addr} {od_law_results an_law_results : Option Addr} {sl_law_results : Array (Option Value)} {oc_law_results kV_law_results dc_law_results pm_law_results cd_law_results ct_law_results : Value}
    {f_law_two : Addr} {od_law_two an_law_two : Option Addr} {sl_law_two : Array (Option Value)} {oc_law_two kV_law_two dc_law_two pm_law_two cd_law_two ct_law_two : Value}
    {f_law : Addr} {od_law an_law : Option Addr} {sl_law : Array (Option Value)} {oc_law kV_law dc_law pm_law cd_law ct_law : Value}
    {C_Ratio : Addr}
    {C_Tape : Addr}
    {f_Ratio___init : Addr} {od_Ratio___init an_Ratio___init : Option Addr} {sl_Ratio___init : Array (Option Value)} {oc_Ratio___init kV_Ratio___init dc_Ratio___init pm_Ratio___init cd_Ratio___init ct_Ratio___init : Value}
    {T_Ratio___init : Addr} {oT_Ratio___init : Value} {dT_Ratio___init : Option Addr} {nT_Ratio___init : Nat} {slT_Ratio___init : Array (Option Value)} {t_Ratio___init : Tok}
    {f_Tape___init : Addr} {od_Tape___init an_Tape___init : Option Addr} {sl_Tape___init : Array (Option Value)} {oc_Tape___init kV_Tape___init dc_Tape___init pm_Tape___init cd_Tape___init ct_Tape___init : Value}
    {f_Tape_take : Addr} {od_Tape_take an_Tape_take : Option Addr} {sl_Tape_take : Array (Option Value)} {oc_Tape_take kV_Tape_take dc_Tape_take pm_Tape_take cd_Tape_take ct_Tape_take : Value}
    {f_Tape_chance : Addr} {od_Tape_chance an_Tape_chance : Option Addr} {sl_Tape_chance : Array (Option Value)} {oc_Tape_chance kV_Tape_chance dc_Tape_chance pm_Tape_chance cd_Tape_chance ct_Tape_chance : Value}
    {f_Tape_following : Addr} {od_Tape_following an_Tape_following : Option Addr} {sl_Tape_following : Array (Option Value)} {oc_Tape_following kV_Tape_following dc_Tape_following pm_Tape_following cd_Tape_following ct_Tape_following : Value}
    (a_law_pool : PySem.W.nsIn K mainGlobals "_law_pool" = some (some (.ref f_law_pool))) (l_law_pool : K.lookup f_law_pool = some ⟨oc_law_pool, od_law_pool, .func (PySem.W.fnOf "_law_pool" "_law_pool" (fnArgs s_law_pool) (fnBody s_law_pool) (fnScope s_law_pool) .none kV_law_pool dc_law_pool pm_law_pool an_law_pool cd_law_pool ct_law_pool), sl_law_pool⟩) (c_law_pool : PySem.W.codeIn K cd_law_pool "_law_pool" = true) (k_law_pool : PySem.W.keepIn K (.ref f_law_pool) = true)
    (a_law_draw : PySem.W.nsIn K mainGlobals "_law_draw" = some (some (.ref f_law_draw))) (l_law_draw : K.lookup f_law_draw = some ⟨oc_law_draw, od_law_draw, .func (PySem.W.fnOf "_law_draw" "_law_draw" (fnArgs s_law_draw) (fnBody s_law_draw) (fnScope s_law_draw) .none kV_law_draw dc_law_draw pm_law_draw an_law_draw cd_law_draw ct_law_draw), sl_law_draw⟩) (c_law_draw : PySem.W.codeIn K cd_law_draw "_law_draw" = true) (k_law_draw : PySem.W.keepIn K (.ref f_law_draw) = true)
    (a_law_number : PySem.W.nsIn K mainGlobals "_law_number" = some (some (.ref f_law_number))) (l_law_number : K.lookup f_law_number = some ⟨oc_law_number, od_law_number, .func (PySem.W.fnOf "_law_number" "_law_number" (fnArgs s_law_number) (fnBody s_law_number) (fnScope s_law_number) .none kV_law_number dc_law_number pm_law_number an_law_number cd_law_number ct_law_number), sl_law_number⟩) (c_law_number : PySem.W.codeIn K cd_law_number "_law_number" = true) (k_law_number : PySem.W.keepIn K (.ref f_law_number) = true)
    (a_law_same : PySem.W.nsIn K mainGlobals "_law_same" = some (some (.ref f_law_same))) (l_law_same : K.lookup f_law_same = some ⟨oc_law_same, od_law_same, .func (PySem.W.fnOf "_law_same" "_law_same" (fnArgs s_law_same) (fnBody s_law_same) (fnScope s_law_same) .none kV_law_same dc_law_same pm_law_same an_law_same cd_law_same ct_law_same), sl_law_same⟩) (c_law_same : PySem.W.codeIn K cd_law_same "_law_same" = true) (k_law_same : PySem.W.keepIn K (.ref f_law_same) = true)
    (a_law_lowest : PySem.W.nsIn K mainGlobals "_law_lowest" = some (some (.ref f_law_lowest))) (l_law_lowest : K.lookup f_law_lowest = some ⟨oc_law_lowest, od_law_lowest, .func (PySem.W.fnOf "_law_lowest" "_law_lowest" (fnArgs s_law_lowest) (fnBody s_law_lowest) (fnScope s_law_lowest) .none kV_law_lowest dc_law_lowest pm_law_lowest an_law_lowest cd_law_lowest ct_law_lowest), sl_law_lowest⟩) (c_law_lowest : PySem.W.codeIn K cd_law_lowest "_law_lowest" = true) (k_law_lowest : PySem.W.keepIn K (.ref f_law_lowest) = true)
    (a_law_is_ratio : PySem.W.nsIn K mainGlobals "_law_is_ratio" = some (some (.ref f_law_is_ratio))) (l_law_is_ratio : K.lookup f_law_is_ratio = some ⟨oc_law_is_ratio, od_law_is_ratio, .func (PySem.W.fnOf "_law_is_ratio" "_law_is_ratio" (fnArgs s_law_is_ratio) (fnBody s_law_is_ratio) (fnScope s_law_is_ratio) .none kV_law_is_ratio dc_law_is_ratio pm_law_is_ratio an_law_is_ratio cd_law_is_ratio ct_law_is_ratio), sl_law_is_ratio⟩) (c_law_is_ratio : PySem.W.codeIn K cd_law_is_ratio "_law_is_ratio" = true) (k_law_is_ratio : PySem.W.keepIn K (.ref f_law_is_ratio) = true)
    (a_law_following : PySem.W.nsIn K mainGlobals "_law_following" = some (some (.ref f_law_following))) (l_law_following : K.lookup f_law_following = some ⟨oc_law_following, od_law_following, .func (PySem.W.fnOf "_law_following" "_law_following" (fnArgs s_law_following) (fnBody s_law_following) (fnScope s_law_following) .none kV_law_following dc_law_following pm_law_following an_law_following cd_law_following ct_law_following), sl_law_following⟩) (c_law_following : PySem.W.codeIn K cd_law_following "_law_following" = true) (k_law_following : PySem.W.keepIn K (.ref f_law_following) = true)
    (a_law_told : PySem.W.nsIn K mainGlobals "_law_told" = some (some (.ref f_law_told))) (l_law_told : K.lookup f_law_told = some ⟨oc_law_told, od_law_told, .func (PySem.W.fnOf "_law_told" "_law_told" (fnArgs s_law_told) (fnBody s_law_told) (fnScope s_law_told) .none kV_law_told dc_law_told pm_law_told an_law_told cd_law_told ct_law_told), sl_law_told⟩) (c_law_told : PySem.W.codeIn K cd_law_told "_law_told" = true) (k_law_told : PySem.W.keepIn K (.ref f_law_told) = true)
    (a_law_count : PySem.W.nsIn K mainGlobals "_law_count" = some (some (.ref f_law_count))) (l_law_count : K.lookup f_law_count = some ⟨oc_law_count, od_law_count, .func (PySem.W.fnOf "_law_count" "_law_count" (fnArgs s_law_count) (fnBody s_law_count) (fnScope s_law_count) .none kV_law_count dc_law_count pm_law_count an_law_count cd_law_count ct_law_count), sl_law_count⟩) (c_law_count : PySem.W.codeIn K cd_law_count "_law_count" = true) (k_law_count : PySem.W.keepIn K (.ref f_law_count) = true)
    (a_law_results : PySem.W.nsIn K mainGlobals "_law_results" = some (some (.ref f_law_results))) (l_law_results : K.lookup f_law_results = some ⟨oc_law_results, od_law_results, .func (PySem.W.fnOf "_law_results" "_law_results" (fnArgs s_law_results) (fnBody s_law_results) (fnScope s_law_results) .none kV_law_results dc_law_results pm_law_results an_law_results cd_law_results ct_law_results), sl_law_results⟩) (c_law_results : PySem.W.codeIn K cd_law_results "_law_results" = true) (k_law_results : PySem.W.keepIn K (.ref f_law_results) = true)
    (a_law_two : PySem.W.nsIn K mainGlobals "_law_two" = some (some (.ref f_law_two))) (l_law_two : K.lookup f_law_two = some ⟨oc_law_two, od_law_two, .func (PySem.W.fnOf "_law_two" "_law_two" (fnArgs s_law_two) (fnBody s_law_two) (fnScope s_law_two) .none kV_law_two dc_law_two pm_law_two an_law_two cd_law_two ct_law_two), sl_law_two⟩) (c_law_two : PySem.W.codeIn K cd_law_two "_law_two" = true) (k_law_two : PySem.W.keepIn K (.ref f_law_two) = true)
    (a_law : PySem.W.nsIn K mainGlobals "law" = some (some (.ref f_law))) (l_law : K.lookup f_law = some ⟨oc_law, od_law, .func (PySem.W.fnOf "law" "law" (fnArgs s_law) (fnBody s_law) (fnScope s_law) .none kV_law dc_law pm_law an_law cd_law ct_law), sl_law⟩) (c_law : PySem.W.codeIn K cd_law "law" = true) (k_law : PySem.W.keepIn K (.ref f_law) = true)
    (mc_Ratio : PySem.W.nsIn K mainGlobals "Ratio" = some (some (.ref C_Ratio)))
    (pg_Ratio : PySem.W.plainGet K C_Ratio Str.empty = true)
    (hd_Ratio : PySem.W.hasDictIn K C_Ratio = true)
    (po_Ratio : PySem.W.plainOver K C_Ratio = true)
    (sa_Ratio : PySem.W.findIn K (.ref C_Ratio) "__setattr__" = some (some (.builtin "object.__setattr__")))
    (mk_Ratio : PySem.W.makesIn K C_Ratio = true)
    (kc_Ratio : PySem.W.keepIn K (.ref C_Ratio) = true)
    (ha_Ratio : PySem.W.findIn K (.ref C_Ratio) "__class__" = some (some (.builtin "object.__class__")))
    (hn_Ratio : PySem.W.specialIn K (.builtin "object.__class__") "__get__" = some (some (.builtin "getset_descriptor.__get__")))
    (ht_Ratio : PySem.W.takesIn K (.builtin "object.__class__") = some true)
    (hm_Ratio : PySem.W.mroIn K C_Ratio (.type "object") = some true)
    (nnum_Ratio : PySem.W.findIn K (.ref C_Ratio) "num" = some none)
    (nden_Ratio : PySem.W.findIn K (.ref C_Ratio) "den" = some none)
    (mc_Tape : PySem.W.nsIn K mainGlobals "Tape" = some (some (.ref C_Tape)))
    (pg_Tape : PySem.W.plainGet K C_Tape Str.empty = true)
    (hd_Tape : PySem.W.hasDictIn K C_Tape = true)
    (po_Tape : PySem.W.plainOver K C_Tape = true)
    (sa_Tape : PySem.W.findIn K (.ref C_Tape) "__setattr__" = some (some (.builtin "object.__setattr__")))
    (mk_Tape : PySem.W.makesIn K C_Tape = true)
    (kc_Tape : PySem.W.keepIn K (.ref C_Tape) = true)
    (ha_Tape : PySem.W.findIn K (.ref C_Tape) "__class__" = some (some (.builtin "object.__class__")))
    (hn_Tape : PySem.W.specialIn K (.builtin "object.__class__") "__get__" = some (some (.builtin "getset_descriptor.__get__")))
    (ht_Tape : PySem.W.takesIn K (.builtin "object.__class__") = some true)
    (hm_Tape : PySem.W.mroIn K C_Tape (.type "object") = some true)
    (nresults_Tape : PySem.W.findIn K (.ref C_Tape) "results" = some none)
    (ntaken_Tape : PySem.W.findIn K (.ref C_Tape) "taken" = some none)
    (a_Ratio___init : PySem.W.findIn K (.ref C_Ratio) "__init__" = some (some (.ref f_Ratio___init))) (i_Ratio___init : PySem.W.isFn K (.ref f_Ratio___init) = true) (l_Ratio___init : K.lookup f_Ratio___init = some ⟨oc_Ratio___init, od_Ratio___init, .func (PySem.W.fnOf "__init__" "Ratio.__init__" (fnArgs s_Ratio___init) (fnBody s_Ratio___init) (fnScope s_Ratio___init) (.ref T_Ratio___init) kV_Ratio___init dc_Ratio___init pm_Ratio___init an_Ratio___init cd_Ratio___init ct_Ratio___init), sl_Ratio___init⟩) (c_Ratio___init : PySem.W.codeIn K cd_Ratio___init "Ratio.__init__" = true) (k_Ratio___init : PySem.W.keepIn K (.ref f_Ratio___init) = true)
    (lT_Ratio___init : K.lookup T_Ratio___init = some ⟨oT_Ratio___init, dT_Ratio___init, .seq #[.int 1 t_Ratio___init] nT_Ratio___init, slT_Ratio___init⟩)
    (a_Tape___init : PySem.W.findIn K (.ref C_Tape) "__init__" = some (some (.ref f_Tape___init))) (i_Tape___init : PySem.W.isFn K (.ref f_Tape___init) = true) (l_Tape___init : K.lookup f_Tape___init = some ⟨oc_Tape___init, od_Tape___init, .func (PySem.W.fnOf "__init__" "Tape.__init__" (fnArgs s_Tape___init) (fnBody s_Tape___init) (fnScope s_Tape___init) .none kV_Tape___init dc_Tape___init pm_Tape___init an_Tape___init cd_Tape___init ct_Tape___init), sl_Tape___init⟩) (c_Tape___init : PySem.W.codeIn K cd_Tape___init "Tape.__init__" = true) (k_Tape___init : PySem.W.keepIn K (.ref f_Tape___init) = true)
    (a_Tape_take : PySem.W.findIn K (.ref C_Tape) "take" = some (some (.ref f_Tape_take))) (i_Tape_take : PySem.W.isFn K (.ref f_Tape_take) = true) (l_Tape_take : K.lookup f_Tape_take = some ⟨oc_Tape_take, od_Tape_take, .func (PySem.W.fnOf "take" "Tape.take" (fnArgs s_Tape_take) (fnBody s_Tape_take) (fnScope s_Tape_take) .none kV_Tape_take dc_Tape_take pm_Tape_take an_Tape_take cd_Tape_take ct_Tape_take), sl_Tape_take⟩) (c_Tape_take : PySem.W.codeIn K cd_Tape_take "Tape.take" = true) (k_Tape_take : PySem.W.keepIn K (.ref f_Tape_take) = true)
    (a_Tape_chance : PySem.W.findIn K (.ref C_Tape) "chance" = some (some (.ref f_Tape_chance))) (i_Tape_chance : PySem.W.isFn K (.ref f_Tape_chance) = true) (l_Tape_chance : K.lookup f_Tape_chance = some ⟨oc_Tape_chance, od_Tape_chance, .func (PySem.W.fnOf "chance" "Tape.chance" (fnArgs s_Tape_chance) (fnBody s_Tape_chance) (fnScope s_Tape_chance) .none kV_Tape_chance dc_Tape_chance pm_Tape_chance an_Tape_chance cd_Tape_chance ct_Tape_chance), sl_Tape_chance⟩) (c_Tape_chance : PySem.W.codeIn K cd_Tape_chance "Tape.chance" = true) (k_Tape_chance : PySem.W.keepIn K (.ref f_Tape_chance) = true)
    (a_Tape_following : PySem.W.findIn K (.ref C_Tape) "following" = some (some (.ref f_Tape_following))) (i_Tape_following : PySem.W.isFn K (.ref f_Tape_following) = true) (l_Tape_following : K.lookup f_Tape_following = some ⟨oc_Tape_following, od_Tape_following, .func (PySem.W.fnOf "following" "Tape.following" (fnArgs s_Tape_following) (fnBody s_Tape_following) (fnScope s_Tape_following) .none kV_Tape_following dc_Tape_following pm_Tape_following an_Tape_following cd_Tape_following ct_Tape_following), sl_Tape_following⟩) (c_Tape_following : PySem.W.codeIn K cd_Tape_following "Tape.following" = true) (k_Tape_following : PySem.W.keepIn K (.ref f_Tape_following) = true)
    (z_gcd : PySem.W.nsIn K mainGlobals "gcd" = some (some (.builtin "math.gcd")))
    (z_abs : PySem.W.nsIn K mainGlobals "abs" = some none)
    (z_bool : PySem.W.nsIn K mainGlobals "bool" = some none)
    (z_int : PySem.W.nsIn K mainGlobals "int" = some none)
    (z_isinstance : PySem.W.nsIn K mainGlobals "isinstance" = some none)
    (z_len : PySem.W.nsIn K mainGlobals "len" = some none)
    (z_list : PySem.W.nsIn K mainGlobals "list" = some none)
    (z_range : PySem.W.nsIn K mainGlobals "range" = some none)
    (z_str : PySem.W.nsIn K mainGlobals "str" = some none)
    (z_tuple : PySem.W.nsIn K mainGlobals "tuple" = some none)
    : ∃ fd : FuncData, (∀ (s : Shared) (v : Value), BindsTo s fd ⟨[v], []⟩ [("script", v)]) ∧ ∀ base : Heap, K.In base → base.Ns mainGlobals mg → FnOk l.prog w K mg base C8.CX0 7 fa fd ["script"] (sp_law K) := by
  have e := hfa.symm.trans (PySem.W.mg_of X G a_law)
  cases e
  have T : Txt K mg C_Ratio C_Tape := ⟨PySem.W.mg_none_of X G z_abs, PySem.W.mg_none_of X G z_bool, PySem.W.mg_none_of X G z_int, PySem.W.mg_none_of X G z_isinstance, PySem.W.mg_none_of X G z_len, PySem.W.mg_none_of X G z_list, PySem.W.mg_none_of X G z_range, PySem.W.mg_none_of X G z_str, PySem.W.mg_none_of X G z_tuple, PySem.W.mg_of X G z_gcd, ⟨pg_Ratio, hd_Ratio, po_Ratio, sa_Ratio⟩, PySem.W.mg_of X G mc_Ratio, ⟨⟨pg_Ratio, hd_Ratio, po_Ratio, sa_Ratio⟩, ha_Ratio, hn_Ratio, ht_Ratio, hm_Ratio, kitSelf⟩, nnum_Ratio, nden_Ratio, ⟨pg_Tape, hd_Tape, po_Tape, sa_Tape⟩, PySem.W.mg_of X G mc_Tape, ⟨⟨pg_Tape, hd_Tape, po_Tape, sa_Tape⟩, ha_Tape, hn_Tape, ht_Tape, hm_Tape, kitSelf⟩, nresults_Tape, ntaken_Tape, True.intro⟩
  have F_Ratio___init : C8.Fun K "__init__" "Ratio.__init__" s_Ratio___init _ _ := ⟨⟨_, _, _, _, _, _, _, _, _, _, rfl, l_Ratio___init, c_Ratio___init⟩⟩
  have M_Ratio : Mk K C_Ratio f_Ratio___init := ⟨mk_Ratio, a_Ratio___init, i_Ratio___init, kc_Ratio⟩
  have FD_Ratio___init : FunD K "__init__" "Ratio.__init__" (fnArgs s_Ratio___init) (fnBody s_Ratio___init) (fnScope s_Ratio___init) [.int 1] [] f_Ratio___init _ := ⟨⟨_, _, _, _, _, _, _, _, _, _, rfl, l_Ratio___init, c_Ratio___init, .inr ⟨by simp, _, _, [_], _, rfl, lT_Ratio___init, rfl, .cons ⟨_, rfl⟩ .nil⟩, .inl rfl⟩, k_Ratio___init⟩
  obtain ⟨ds2_Ratio___init, v2_Ratio___init, b2_Ratio___init⟩ := FD_Ratio___init.binds1 (ps := ["self", "num", "den"]) 3 1 (by simp) rfl (fun _ _ _ _ _ _ _ us its hu hi => match us, hu, its, hi with | [_, _, _], _, [_], _ => ⟨_, rfl, rfl⟩)
  obtain ⟨ds1_Ratio___init, v1_Ratio___init, b1_Ratio___init⟩ := FD_Ratio___init.binds1 (ps := ["self", "num", "den"]) 2 0 (by simp) rfl (fun _ _ _ _ _ _ _ us its hu hi => match us, hu, its, hi with | [_, _], _, [_], _ => ⟨_, rfl, rfl⟩)
  have F_Tape___init : C8.Fun K "__init__" "Tape.__init__" s_Tape___init _ _ := ⟨⟨_, _, _, _, _, _, _, _, _, _, rfl, l_Tape___init, c_Tape___init⟩⟩
  have M_Tape : Mk K C_Tape f_Tape___init := ⟨mk_Tape, a_Tape___init, i_Tape___init, kc_Tape⟩
  have b_Tape___init : Binds K _ ["self", "results"] [] := C8.Fun.binds F_Tape___init rfl fun _ _ _ _ _ _ us hl => match us, hl with | [_, _], _ => rfl
  have F_Tape_take : C8.Fun K "take" "Tape.take" s_Tape_take _ _ := ⟨⟨_, _, _, _, _, _, _, _, _, _, rfl, l_Tape_take, c_Tape_take⟩⟩
  have M_Tape_take : Meth K C_Tape "take" f_Tape_take := ⟨a_Tape_take, i_Tape_take, k_Tape_take⟩
  have b_Tape_take : Binds K _ ["self", "count"] [] := C8.Fun.binds F_Tape_take rfl fun _ _ _ _ _ _ us hl => match us, hl with | [_, _], _ => rfl
  have F_Tape_chance : C8.Fun K "chance" "Tape.chance" s_Tape_chance _ _ := ⟨⟨_, _, _, _, _, _, _, _, _, _, rfl, l_Tape_chance, c_Tape_chance⟩⟩
  have M_Tape_chance : Meth K C_Tape "chance" f_Tape_chance := ⟨a_Tape_chance, i_Tape_chance, k_Tape_chance⟩
  have b_Tape_chance : Binds K _ ["self"] [] := C8.Fun.binds F_Tape_chance rfl fun _ _ _ _ _ _ us hl => match us, hl with | [_], _ => rfl
  have F_Tape_following : C8.Fun K "following" "Tape.following" s_Tape_following _ _ := ⟨⟨_, _, _, _, _, _, _, _, _, _, rfl, l_Tape_following, c_Tape_following⟩⟩
  have M_Tape_following : Meth K C_Tape "following" f_Tape_following := ⟨a_Tape_following, i_Tape_following, k_Tape_following⟩
  have b_Tape_following : Binds K _ ["self"] [] := C8.Fun.binds F_Tape_following rfl fun _ _ _ _ _ _ us hl => match us, hl with | [_], _ => rfl
  have D_law_pool : C8.Def K mg "_law_pool" s_law_pool _ _ := ⟨⟨⟨_, _, _, _, _, _, _, _, _, _, rfl, l_law_pool, c_law_pool⟩⟩, PySem.W.mg_of X G a_law_pool, k_law_pool⟩
  have b_law_pool : Binds K _ ["script", "budget"] [] := C8.Fun.binds D_law_pool.fn rfl fun _ _ _ _ _ _ us hl => match us, hl with | [_, _], _ => rfl
  have D_law_draw : C8.Def K mg "_law_draw" s_law_draw _ _ := ⟨⟨⟨_, _, _, _, _, _, _, _, _, _, rfl, l_law_draw, c_law_draw⟩⟩, PySem.W.mg_of X G a_law_draw, k_law_draw⟩
  have b_law_draw : Binds K _ ["pool", "size"] [] := C8.Fun.binds D_law_draw.fn rfl fun _ _ _ _ _ _ us hl => match us, hl with | [_, _], _ => rfl
  have D_law_number : C8.Def K mg "_law_number" s_law_number _ _ := ⟨⟨⟨_, _, _, _, _, _, _, _, _, _, rfl, l_law_number, c_law_number⟩⟩, PySem.W.mg_of X G a_law_number, k_law_number⟩
  have b_law_number : Binds K _ ["pool"] [] := C8.Fun.binds D_law_number.fn rfl fun _ _ _ _ _ _ us hl => match us, hl with | [_], _ => rfl
  have D_law_same : C8.Def K mg "_law_same" s_law_same _ _ := ⟨⟨⟨_, _, _, _, _, _, _, _, _, _, rfl, l_law_same, c_law_same⟩⟩, PySem.W.mg_of X G a_law_same, k_law_same⟩
  have b_law_same : Binds K _ ["actual", "due"] [] := C8.Fun.binds D_law_same.fn rfl fun _ _ _ _ _ _ us hl => match us, hl with | [_, _], _ => rfl
  have D_law_lowest : C8.Def K mg "_law_lowest" s_law_lowest _ _ := ⟨⟨⟨_, _, _, _, _, _, _, _, _, _, rfl, l_law_lowest, c_law_lowest⟩⟩, PySem.W.mg_of X G a_law_lowest, k_law_lowest⟩
  have b_law_lowest : Binds K _ ["num", "den"] [] := C8.Fun.binds D_law_lowest.fn rfl fun _ _ _ _ _ _ us hl => match us, hl with | [_, _], _ => rfl
  have D_law_is_ratio : C8.Def K mg "_law_is_ratio" s_law_is_ratio _ _ := ⟨⟨⟨_, _, _, _, _, _, _, _, _, _, rfl, l_law_is_ratio, c_law_is_ratio⟩⟩, PySem.W.mg_of X G a_law_is_ratio, k_law_is_ratio⟩
  have b_law_is_ratio : Binds K _ ["actual", "num", "den"] [] := C8.Fun.binds D_law_is_ratio.fn rfl fun _ _ _ _ _ _ us hl => match us, hl with | [_, _, _], _ => rfl
  have D_law_following : C8.Def K mg "_law_following" s_law_following _ _ := ⟨⟨⟨_, _, _, _, _, _, _, _, _, _, rfl, l_law_following, c_law_following⟩⟩, PySem.W.mg_of X G a_law_following, k_law_following⟩
  have b_law_following : Binds K _ ["taken"] [] := C8.Fun.binds D_law_following.fn rfl fun _ _ _ _ _ _ us hl => match us, hl with | [_], _ => rfl
  have D_law_told : C8.Def K mg "_law_told" s_law_told _ _ := ⟨⟨⟨_, _, _, _, _, _, _, _, _, _, rfl, l_law_told, c_law_told⟩⟩, PySem.W.mg_of X G a_law_told, k_law_told⟩
  have b_law_told : Binds K _ ["tape", "taken"] [] := C8.Fun.binds D_law_told.fn rfl fun _ _ _ _ _ _ us hl => match us, hl with | [_, _], _ => rfl
  have D_law_count : C8.Def K mg "_law_count" s_law_count _ _ := ⟨⟨⟨_, _, _, _, _, _, _, _, _, _, rfl, l_law_count, c_law_count⟩⟩, PySem.W.mg_of X G a_law_count, k_law_count⟩
  have b_law_count : Binds K _ ["pool"] [] := C8.Fun.binds D_law_count.fn rfl fun _ _ _ _ _ _ us hl => match us, hl with | [_], _ => rfl
  have D_law_results : C8.Def K mg "_law_results" s_law_results _ _ := ⟨⟨⟨_, _, _, _, _, _, _, _, _, _, rfl, l_law_results, c_law_results⟩⟩, PySem.W.mg_of X G a_law_results, k_law_results⟩
  have b_law_results : Binds K _ ["pool"] [] := C8.Fun.binds D_law_results.fn rfl fun _ _ _ _ _ _ us hl => match us, hl with | [_], _ => rfl
  have D_law_two : C8.Def K mg "_law_two" s_law_two _ _ := ⟨⟨⟨_, _, _, _, _, _, _, _, _, _, rfl, l_law_two, c_law_two⟩⟩, PySem.W.mg_of X G a_law_two, k_law_two⟩
  have b_law_two : Binds K _ ["pool"] [] := C8.Fun.binds D_law_two.fn rfl fun _ _ _ _ _ _ us hl => match us, hl with | [_], _ => rfl
  have F_law : C8.Fun K "law" "law" s_law _ _ := ⟨⟨_, _, _, _, _, _, _, _, _, _, rfl, l_law, c_law⟩⟩
  refine ⟨PySem.W.fnOf "law" "law" (fnArgs s_law) (fnBody s_law) (fnScope s_law) .none kV_law dc_law pm_law an_law cd_law ct_law, fun s v => .of_eq rfl, fun base _ _ => ?_⟩
  have c_law_pool := ok_law_pool (P := l.prog) (w := w) (base := base) D_law_pool b_law_pool T
  have c_law_draw := ok_law_draw (P := l.prog) (w := w) (base := base) D_law_draw b_law_draw T
  have c_law_number := ok_law_number D_law_number b_law_number T c_law_draw
  have c_law_results := ok_law_results D_law_results b_law_results T c_law_draw c_law_number
  have c_law_same0 := ok_law_same0 (P := l.prog) (w := w) (base := base) D_law_same b_law_same
  have c_law_same1 := ok_law_same D_law_same b_law_same T c_law_same0
  have c_law_same2 := ok_law_same D_law_same b_law_same T c_law_same1
  have c_law_same := ok_law_same D_law_same b_law_same T c_law_same2
  have c_Ratio1 := ok_rat_init (P := l.prog) (w := w) (base := base) M_Ratio F_Ratio___init b1_Ratio___init v1_Ratio___init T
  have c_Ratio := ok_rat_init (P := l.prog) (w := w) (base := base) M_Ratio F_Ratio___init b2_Ratio___init v2_Ratio___init T
  have c_Tape := ok_tape_init (P := l.prog) (w := w) (base := base) M_Tape F_Tape___init b_Tape___init T
  have c_Tape_take := ok_tape_take (P := l.prog) (w := w) (base := base) M_Tape_take F_Tape_take b_Tape_take T
  have c_Tape_chance := ok_tape_chance (P := l.prog) (w := w) (base := base) M_Tape_chance F_Tape_chance b_Tape_chance T c_Ratio
  have c_Tape_following := ok_tape_following (P := l.prog) (w := w) (base := base) M_Tape_following F_Tape_following b_Tape_following T
  have c_law_lowest := ok_law_lowest (P := l.prog) (w := w) (base := base) D_law_lowest b_law_lowest T
  have c_law_is_ratio := ok_law_is_ratio D_law_is_ratio b_law_is_ratio T c_law_lowest c_law_same
  have c_law_following := ok_law_following (P := l.prog) (w := w) (base := base) D_law_following b_law_following T
  have c_law_told := ok_law_told D_law_told b_law_told T c_law_same c_law_is_ratio c_law_following c_Tape_chance c_Tape_following
  have c_law_count := ok_law_count D_law_count b_law_count T c_law_draw
  have c_law_two := ok_law_two D_law_two b_law_two T c_law_draw c_law_results c_Tape c_law_same c_law_told c_law_count c_Tape_take
  exact ok_law F_law T c_law_pool c_law_draw c_law_two c_Tape c_law_same c_Tape_take c_Tape_following
theorem walk {l : PySem.W.OpenLaw} {q : Program} {loose : List Str} {XP : (Str → Option Value) → Heap → Prop} {YP : World → Heap → Prop} {d : DefRec} {K : Params → PySem.W.Frag} (hn : l.most = some 63) (hdf : d.params.defaults = [])
    (hY : ∀ (w : World) (h : Heap), YP w h → (K w.params).In h)
    (F : ∀ (w : World) (mg : Str → Option Value) (fa : Addr) (h : Heap), (K w.params).In h → h.Ns mainGlobals mg → mg d.name = some (.ref fa) →
      ∃ fd : FuncData, (∀ (s : Shared) (u : Value), BindsTo s fd ⟨[u], []⟩ [("script", u)]) ∧ ∀ base : Heap, (K w.params).In base → base.Ns mainGlobals mg → FnOk l.prog w (K w.params) mg base C8.CX0 7 fa fd ["script"] (sp_law (K w.params))) :
    PySem.W.WalkO q loose XP YP l.row.toRowW d [] (fun f vs => PySem.call f vs) :=
  L2.walk_ofB (n := 63) (k := 7) (x := "script") (CX := fun _ => C8.CX0) (sp := fun w => sp_law (K w.params)) hn (by decide) hdf ⟨rfl, by decide, by decide⟩ hY F (fun _ _ a ns hl hb _ hS => ⟨a, ns, rfl, hS, fun _ => rfl⟩) fun _ _ _ _ _ z => z
end My
open PySem PySem.W PyProof.Rows
set_option maxRecDepth 100000 in
set_option maxHeartbeats 0 in
theorem PySem.Challenge.cw_bothgain_k60_lots_that_were_given_holds : PySem.Challenge.rw_bothgain_k60_lots_that_were_given.Holds := by
  w_on; o_law; k_head; (case hw => w_witness2)
  k_fill
  refine My.walk (l := PySem.Challenge.rw_bothgain_k60_lots_that_were_given) rfl rfl (fun w h Y => PySem.W.kIn_of Y) ?F
  case F =>
    intro w mg fa h KX G hmg
    refine' My.all_mk KX G hmg ?a_law_pool ?l_law_pool ?c_law_pool ?k_law_pool ?a_law_draw ?l_law_draw ?c_law_draw ?k_law_draw ?a_law_number ?l_law_number ?c_law_number ?k_law_number ?a_law_same ?l_law_same ?c_law_same ?k_law_same ?a_law_lowest ?l_law_lowest ?c_law_lowest ?k_law_lowest ?a_law_is_ratio ?l_law_is_ratio ?c_law_is_ratio ?k_law_is_ratio ?a_law_following ?l_law_following ?c_law_following ?k_law_following ?a_law_told ?l_law_told ?c_law_told ?k_law_told ?a_law_count ?l_law_count ?c_law_count ?k_law_count ?a_law_results ?l_law_results ?c_law_results ?k_law_results ?a_law_two ?l_law_two ?c_law_two ?k_law_two ?a_law ?l_law ?c_law ?k_law ?mc_Ratio ?pg_Ratio ?hd_Ratio ?po_Ratio ?sa_Ratio ?mk_Ratio ?kc_Ratio ?ha_Ratio ?hn_Ratio ?ht_Ratio ?hm_Ratio ?nnum_Ratio ?nden_Ratio ?mc_Tape ?pg_Tape ?hd_Tape ?po_Tape ?sa_Tape ?mk_Tape ?kc_Tape ?ha_Tape ?hn_Tape ?ht_Tape ?hm_Tape ?nresults_Tape ?ntaken_Tape ?a_Ratio___init ?i_Ratio___init ?l_Ratio___init ?c_Ratio___init ?k_Ratio___init ?lT_Ratio___init ?a_Tape___init ?i_Tape___init ?l_Tape___init ?c_Tape___init ?k_Tape___init ?a_Tape_take ?i_Tape_take ?l_Tape_take ?c_Tape_take ?k_Tape_take ?a_Tape_chance ?i_Tape_chance ?l_Tape_chance ?c_Tape_chance ?k_Tape_chance ?a_Tape_following ?i_Tape_following ?l_Tape_following ?c_Tape_following ?k_Tape_following ?z_gcd ?z_abs ?z_bool ?z_int ?z_isinstance ?z_len ?z_list ?z_range ?z_str ?z_tuple
    (case a_law_pool => k_is)
    (case l_law_pool => k_is)
    (case c_law_pool => k_is)
    (case k_law_pool => k_is)
    (case a_law_draw => k_is)
    (case l_law_draw => k_is)
    (case c_law_draw => k_is)
    (case k_law_draw => k_is)
    (case a_law_number => k_is)
    (case l_law_number => k_is)
    (case c_law_number => k_is)
    (case k_law_number => k_is)
    (case a_law_same => k_is)
    (case l_law_same => k_is)
    (case c_law_same => k_is)
    (case k_law_same => k_is)
    (case a_law_lowest => k_is)
    (case l_law_lowest => k_is)
    (case c_law_lowest => k_is)
    (case k_law_lowest => k_is)
    (case a_law_is_ratio => k_is)
    (case l_law_is_ratio => k_is)
    (case c_law_is_ratio => k_is)
    (case k_law_is_ratio => k_is)
    (case a_law_following => k_is)
    (case l_law_following => k_is)
    (case c_law_following => k_is)
    (case k_law_following => k_is)
    (case a_law_told => k_is)
    (case l_law_told => k_is)
    (case c_law_told => k_is)
    (case k_law_told => k_is)
    (case a_law_count => k_is)
    (case l_law_count => k_is)
    (case c_law_count => k_is)
    (case k_law_count => k_is)
    (case a_law_results => k_is)
    (case l_law_results => k_is)
    (case c_law_results => k_is)
    (case k_law_results => k_is)
    (case a_law_two => k_is)
    (case l_law_two => k_is)
    (case c_law_two => k_is)
    (case k_law_two => k_is)
    (case a_law => k_is)
    (case l_law => k_is)
    (case c_law => k_is)
    (case k_law => k_is)
    (case mc_Ratio => k_is)
    (case pg_Ratio => k_is)
    (case hd_Ratio => k_is)
    (case po_Ratio => k_is)
    (case sa_Ratio => k_is)
    (case mk_Ratio => k_is)
    (case kc_Ratio => k_is)
    (case ha_Ratio => k_is)
    (case hn_Ratio => k_is)
    (case ht_Ratio => k_is)
    (case hm_Ratio => k_is)
    (case nnum_Ratio => k_is)
    (case nden_Ratio => k_is)
    (case mc_Tape => k_is)
    (case pg_Tape => k_is)
    (case hd_Tape => k_is)
    (case po_Tape => k_is)
    (case sa_Tape => k_is)
    (case mk_Tape => k_is)
    (case kc_Tape => k_is)
    (case ha_Tape => k_is)
    (case hn_Tape => k_is)
    (case ht_Tape => k_is)
    (case hm_Tape => k_is)
    (case nresults_Tape => k_is)
    (case ntaken_Tape => k_is)
    (case a_Ratio___init => k_is)
    (case i_Ratio___init => k_is)
    (case l_Ratio___init => k_is)
    (case c_Ratio___init => k_is)
    (case k_Ratio___init => k_is)
    (case lT_Ratio___init => k_is)
    (case a_Tape___init => k_is)
    (case i_Tape___init => k_is)
    (case l_Tape___init => k_is)
    (case c_Tape___init => k_is)
    (case k_Tape___init => k_is)
    (case a_Tape_take => k_is)
    (case i_Tape_take => k_is)
    (case l_Tape_take => k_is)
    (case c_Tape_take => k_is)
    (case k_Tape_take => k_is)
    (case a_Tape_chance => k_is)
    (case i_Tape_chance => k_is)
    (case l_Tape_chance => k_is)
    (case c_Tape_chance => k_is)
    (case k_Tape_chance => k_is)
    (case a_Tape_following => k_is)
    (case i_Tape_following => k_is)
    (case l_Tape_following => k_is)
    (case c_Tape_following => k_is)
    (case k_Tape_following => k_is)
    (case z_gcd => k_is)
    (case z_abs => k_is)
    (case z_bool => k_is)
    (case z_int => k_is)
    (case z_isinstance => k_is)
    (case z_len => k_is)
    (case z_list => k_is)
    (case z_range => k_is)
    (case z_str => k_is)
    (case z_tuple => k_is)

