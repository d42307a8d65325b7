
import PyProof.Rows.All
import Wide.All
import OpenK.AllK
import Wide.FinOn
import HandS.ForMost
import HandS.Codes
import HandS.IsInst
import HandS.EndBits
import HandS.Walk
import HandS.DeepEq
import HandS.Gcd
import HandS.Wide
import HandS.Defaults
import HandS.OwnEq
import HandS.Dict
import HandS.WordsDict
import HandS.Star
import HandS.Strs
import HandS.RaiseMore
import HandS.More
import HandS.ForExc
import HandS.ExcIs
import HandS.ExcField
import KE.KExcSuper
import KE.KSuper
import HandS.TryMany
import HandS.ExcInit
import HandS.CallSlots
import HandS.WrittenGet
import HandS.Iter
import KE.RegKIsAll
import HandS.MakeKwOnly
import PySem.Challenge.RW_bothgain_k72_codes_that_pass_the_check
set_option Elab.async false
set_option linter.all false
set_option maxRecDepth 100000
set_option maxHeartbeats 4000000
set_option pp.maxSteps 400

namespace My
open PySem L2 C8 SX
/-! own base: tests, heaps -/
theorem bo_len : bootBuiltins "len" = some (.builtin "len") := by decide +kernel
theorem bo_isinstance : bootBuiltins "isinstance" = some (.builtin "isinstance") := by decide +kernel
theorem bo_min : bootBuiltins "min" = some (.builtin "min") := by decide +kernel
theorem bo_max : bootBuiltins "max" = some (.builtin "max") := by decide +kernel
theorem bo_abs : bootBuiltins "abs" = some (.builtin "abs") := by decide +kernel
theorem bo_int : bootBuiltins "int" = some (.type "int") := by decide +kernel
theorem bo_str : bootBuiltins "str" = some (.type "str") := by decide +kernel
theorem bo_bool : bootBuiltins "bool" = some (.type "bool") := by decide +kernel
theorem bo_list : bootBuiltins "list" = some (.type "list") := by decide +kernel
theorem bo_ord : bootBuiltins "ord" = some (.builtin "ord") := by decide +kernel
theorem bo_chr : bootBuiltins "chr" = some (.builtin "chr") := by decide +kernel
theorem bo_sum : bootBuiltins "sum" = some (.builtin "sum") := by decide +kernel
theorem bo_all : bootBuiltins "all" = some (.builtin "all") := by decide +kernel
theorem bo_any : bootBuiltins "any" = some (.builtin "any") := by decide +kernel
theorem bo_sorted : bootBuiltins "sorted" = some (.builtin "sorted") := by decide +kernel
theorem bo_dict : bootBuiltins "dict" = some (.type "dict") := by decide +kernel
theorem bo_tuple : bootBuiltins "tuple" = some (.type "tuple") := by decide +kernel
theorem iteD {p A B : Prop} [Decidable p] (h1 : p → A) (h2 : ¬ p → B) : if decide p = true then A else B := by
  by_cases h : p
  · rw [decide_eq_true h]; exact iteT (h1 h)
  · rw [decide_eq_false h]; exact iteF (h2 h)
theorem iteN {p A B : Prop} [Decidable p] (h1 : ¬ p → A) (h2 : p → B) : if (!decide p) = true then A else B := by
  by_cases h : p
  · rw [decide_eq_true h]; exact iteF (h2 h)
  · rw [decide_eq_false h]; exact iteT (h1 h)
theorem iteDT {p A B : Prop} [Decidable p] (h : p) (k : A) : if decide p = true then A else B := iteD (fun _ => k) fun z => absurd h z
theorem iteDF {p A B : Prop} [Decidable p] (h : ¬ p) (k : B) : if decide p = true then A else B := iteD (fun z => absurd z h) fun _ => k
theorem iteNT {p A B : Prop} [Decidable p] (h : ¬ p) (k : A) : if (!decide p) = true then A else B := iteN (fun _ => k) fun z => absurd z h
theorem iteNF {p A B : Prop} [Decidable p] (h : p) (k : B) : if (!decide p) = true then A else B := iteN (fun z => absurd h z) fun _ => k
theorem iteB {b : Bool} {A B : Prop} (h1 : b = true → A) (h2 : b = false → B) : if b = true then A else B := by
  cases b with
  | true => exact iteT (h1 rfl)
  | false => exact iteF (h2 rfl)
/-- in a comprehension without a test -/
theorem yes_then {σ : St} {H : Hp} {F G : Hp → Prop} (h : F H) : tYes σ H (fun b H3 => if b = true then F H3 else G H3) := h
/-- all that was tracked stands, but at W -/
def Keep (W : List Addr) (H H' : Hp) : Prop := ∀ b o, H b = some o → b ∉ W → H' b = some o
theorem Keep.refl (W : List Addr) (H : Hp) : Keep W H H := fun _ _ h _ => h
theorem Keep.trans {W : List Addr} {H H1 H2 : Hp} (a : Keep W H H1) (b : Keep W H1 H2) : Keep W H H2 := fun c o h w => b c o (a c o h w) w
theorem Keep.mono {W W' : List Addr} {H H1 : Hp} (a : Keep W H H1) (h : ∀ b, b ∈ W → b ∈ W') : Keep W' H H1 := fun c o q w => a c o q fun z => w (h c z)
theorem Keep.new {W : List Addr} {H : Hp} {p : Addr} {o : HO} (h : H p = none) : Keep W H (upd H p o) := fun b u q _ => by
  rw [upd_ne (ne_of_none q h)]; exact q
theorem Keep.at_ {W : List Addr} {H : Hp} {p : Addr} {o : HO} (h : p ∈ W) : Keep W H (upd H p o) := fun b u q w => by
  rw [upd_ne (fun z => w (by rw [z]; exact h))]; exact q
theorem Keep.then_new {W : List Addr} {H H1 : Hp} {p : Addr} {o : HO} (a : Keep W H H1) (h : H1 p = none) : Keep W H (upd H1 p o) := a.trans (Keep.new h)
theorem Keep.then_at {W : List Addr} {H H1 : Hp} {p : Addr} {o : HO} (a : Keep W H H1) (h : p ∈ W) : Keep W H (upd H1 p o) := a.trans (Keep.at_ h)
/-- what was new since H is not among the kept -/
theorem Keep.then_own {W : List Addr} {H H1 : Hp} {p : Addr} {o : HO} (a : Keep W H H1) (h : H p = none) : Keep W H (upd H1 p o) := fun b u q w => by
  rw [upd_ne (ne_of_none q h)]; exact a b u q w
theorem Keep.free {H H' : Hp} (e : Keep [] H H') {l : Addr} (h : H' l = none) : H l = none := by
  cases q : H l with
  | none => rfl
  | some o => rw [e l o q (by simp)] at h; cases h
theorem Keep.free1 {H H' : Hp} {p : Addr} {o : HO} (e : Keep [p] H H') (hp : H' p = some o) {l : Addr} (h : H' l = none) : H l = none := by
  cases q : H l with
  | none => rfl
  | some u =>
    by_cases z : l = p
    · subst z; rw [hp] at h; cases h
    · rw [e l u q (by simpa using z)] at h; cases h
theorem Keep.seqL {W : List Addr} {K : PySem.W.Frag} {H H' : Hp} {a : Addr} {xs : List V} (e : Keep W H H') (h : SqL K H a xs) (w : a ∉ W) : SqL K H' a xs := by
  rcases h with (h | ⟨o, h⟩) | h
  · exact .inl (.inl (e _ _ h w))
  · exact .inl (.inr ⟨o, e _ _ h w⟩)
  · exact .inr h
theorem Keep.seqT {W : List Addr} {K : PySem.W.Frag} {H H' : Hp} {a : Addr} {xs : List V} (e : Keep W H H') (h : SqT K H a xs) (w : a ∉ W) : SqT K H' a xs := by
  rcases h with (h | ⟨o, h⟩) | h
  · exact .inl (.inl (e _ _ h w))
  · exact .inl (.inr ⟨o, e _ _ h w⟩)
  · exact .inr h
theorem Keep.same {H H' : Hp} (e : Keep [] H H') : Same H H' := fun b o h => e b o h (by simp)
theorem ints_get {ns : List Int} {i : Nat} {v : V} (h : (ns.map V.int)[i]? = some v) : ∃ z, ns[i]? = some z ∧ v = V.int z := by
  rw [List.getElem?_map] at h
  cases e : ns[i]? with
  | none => rw [e] at h; cases h
  | some z => rw [e] at h; exact ⟨z, rfl, (Option.some.inj h).symm⟩
theorem strs_get {ns : List Str} {i : Nat} {v : V} (h : (ns.map V.str)[i]? = some v) : ∃ z, ns[i]? = some z ∧ v = V.str z := by
  rw [List.getElem?_map] at h
  cases e : ns[i]? with
  | none => rw [e] at h; cases h
  | some z => rw [e] at h; exact ⟨z, rfl, (Option.some.inj h).symm⟩
theorem smallM {n : Nat} (h : n ≤ 1000000) : n ≤ sizeLine := Nat.le_trans h (by decide)
theorem smallL {n : Nat} (h : n ≤ 1000000) : n < sizeLine := Nat.lt_of_le_of_lt h (by decide)
/-- a promise that asks the impossible: any def at all keeps it -/
def spNo : Sp := fun _ _ _ _ => False
/-! the same rules with the written part named (within a comprehension) -/
section
variable {X : Cx} {K : PySem.W.Frag}
theorem pe_fldK {e : Expr} {f : Str} {pos : Pos} {ta : TE} (he : PE X e ta) (hb : attributeBase e f X.env (eval e X.env) = eval e X.env) (hK : X.K = K := by rfl) : PE X (.Attribute e f pos) (tFld K ta f) := hK ▸ pe_fld he hb
theorem ix_listK (hK : X.K = K := by rfl) : IxR X (rIxL K) := hK ▸ ix_list
theorem ix_tupK (hK : X.K = K := by rfl) : IxR X (rIxT K) := hK ▸ ix_tup
theorem sl_listK (hK : X.K = K := by rfl) : SlR X (rSlL K) := hK ▸ sl_list
theorem sl_tupK (hK : X.K = K := by rfl) : SlR X (rSlT K) := hK ▸ sl_tup
theorem call_len_seqK (hK : X.K = K := by rfl) : CallR X (.builtin "len") (fun xs H Q => ∃ p ys, xs = [.ref p] ∧ (SqL K H p ys ∨ SqT K H p ys) ∧ Q (.int ys.length) H) := hK ▸ call_len_seq
theorem call_list_ofK (hK : X.K = K := by rfl) : CallR X (.type "list") (fun xs H Q => ∃ p ys, xs = [.ref p] ∧ (SqL K H p ys ∨ SqT K H p ys) ∧ ∀ l, H l = none → Q (.ref l) (upd H l (.lst ys))) := hK ▸ call_list_of
theorem call_isiK2 (hK : X.K = K := by rfl) : CallR X (.builtin "isinstance") (rIsi K) := hK ▸ call_isi
end
/-- behind the making of an instance -/
theorem keep_made {H H2 : Hp} {x dx : Addr} {o : HO} (hx : H x = none) (hd : H dx = none) (k : Keep [x] (upd (upd H dx (.own x)) x o) H2) : Keep [] H H2 := fun b u e _ =>
  k b u (by rw [upd_ne (ne_of_none e hx), upd_ne (ne_of_none e hd)]; exact e) (by simpa using ne_of_none e hx)
theorem kitSelf {K : PySem.W.Frag} {C : Addr} : PySem.W.kitOne K (.ref C) (.ref C) = some true := by
  unfold PySem.W.kitOne
  simp
/-- a call without arguments -/
theorem pe_c0 {X : Cx} {x : Str} {p pos : Pos} {k j : Nat} {sp : Sp} {dvs : List V} (c : C8.Cal X.prog X.w X.K X.mg X.base k x sp dvs) (hr : Room j X.A) (hk : k ≤ j) (hg : Gl X x) (hdb : (x == ("__debug__" : Str)) = false := by decide) :
    PE X (.Call (.Name x p) [] [] pos) (tCall sp dvs C8.E0 tNil) := by
  obtain ⟨f, fd, ps, ds, F, hm, kp, b, d⟩ := c.ex
  exact pe_call0 F (hr.mono hk) hg hm kp b d C8.pass0 hdb

/-! the text by places -/
def top (i : Nat) : Stmt := PySem.Challenge.pw_bothgain_k72_codes_that_pass_the_check.main.body.getD i (.Pass ⟨0, 0, 0, 0⟩)
abbrev s_law_pool : Stmt := top 18
theorem sc_law_pool : FnScope ["script", "budget"] ["script", "budget"] (fnScope s_law_pool) := fnScope_by (by decide +kernel)
abbrev s_law_draw : Stmt := top 19
theorem sc_law_draw : FnScope ["pool", "size", "cell", "value"] ["pool", "size"] (fnScope s_law_draw) := fnScope_by (by decide +kernel)
abbrev s_law_spend : Stmt := top 20
theorem sc_law_spend : FnScope ["pool"] ["pool"] (fnScope s_law_spend) := fnScope_by (by decide +kernel)
abbrev s_law_few : Stmt := top 21
theorem sc_law_few : FnScope ["pool", "most", "few"] ["pool", "most"] (fnScope s_law_few) := fnScope_by (by decide +kernel)
abbrev s_law_number : Stmt := top 22
theorem sc_law_number : FnScope ["pool"] ["pool"] (fnScope s_law_number) := fnScope_by (by decide +kernel)
abbrev s_law_same : Stmt := top 23
theorem sc_law_same : FnScope ["actual", "due", "k"] ["actual", "due"] (fnScope s_law_same) := fnScope_by (by decide +kernel)
abbrev s_BadCode___init : Stmt := L2.inClass (top 5) 0
abbrev s_argument_fits : Stmt := top 13
theorem sc_argument_fits : FnScope ["instruction", "slots", "moves", "name", "argument"] ["instruction", "slots", "moves"] (fnScope s_argument_fits) := fnScope_by (by decide +kernel)
abbrev s_targets_of : Stmt := top 14
theorem sc_targets_of : FnScope ["at", "instruction", "name", "argument"] ["at", "instruction"] (fnScope s_targets_of) := fnScope_by (by decide +kernel)
abbrev s_Checker___init : Stmt := L2.inClass (top 15) 0
theorem sc_Checker___init : FnScope ["self", "code", "slots", "moves", "thinking"] ["self", "code", "slots", "moves", "thinking"] (fnScope s_Checker___init) := fnScope_by (by decide +kernel)
abbrev s_Checker_reaches : Stmt := L2.inClass (top 15) 3
theorem sc_Checker_reaches : FnScope ["self", "targets", "height", "target"] ["self", "targets", "height"] (fnScope s_Checker_reaches) := fnScope_by (by decide +kernel)
abbrev s_Checker_returns : Stmt := L2.inClass (top 15) 2
theorem sc_Checker_returns : FnScope ["self", "at", "target"] ["self", "at", "target"] (fnScope s_Checker_returns) := fnScope_by (by decide +kernel)
abbrev s_Checker_good : Stmt := L2.inClass (top 15) 1
theorem sc_Checker_good : FnScope ["self", "at", "names", "instruction", "takes", "gives", "height", "after"] ["self", "at"] (fnScope s_Checker_good) := fnScope_by (by decide +kernel)
abbrev s_check_code : Stmt := top 16
theorem sc_check_code : FnScope ["code", "slots", "moves", "thinking", "checker", "at"] ["code", "slots", "moves", "thinking"] (fnScope s_check_code) := fnScope_by (by decide +kernel)
abbrev s_law_names_of_code : Stmt := top 27
theorem sc_law_names_of_code : FnScope ["text"] [] (fnScope s_law_names_of_code) := fnScope_by (by decide +kernel)
abbrev s_law_takes : Stmt := top 30
theorem sc_law_takes : FnScope ["name", "text", "row"] ["name"] (fnScope s_law_takes) := fnScope_by (by decide +kernel)
abbrev s_law_argument : Stmt := top 31
theorem sc_law_argument : FnScope ["pair", "slots", "moves", "most"] ["pair", "slots", "moves"] (fnScope s_law_argument) := fnScope_by (by decide +kernel)
abbrev s_law_targets : Stmt := top 32
theorem sc_law_targets : FnScope ["at", "pair"] ["at", "pair"] (fnScope s_law_targets) := fnScope_by (by decide +kernel)
abbrev s_law_checked : Stmt := top 33
theorem sc_law_checked : FnScope ["code", "slots", "moves", "brain", "heights", "highest", "at", "pair", "takes", "good", "height", "target"] ["code", "slots", "moves", "brain"] (fnScope s_law_checked) := fnScope_by (by decide +kernel)
abbrev s_law_told : Stmt := top 34
theorem sc_law_told : FnScope ["code", "slots", "moves", "brain", "e"] ["code", "slots", "moves", "brain"] (fnScope s_law_told) := fnScope_by (by decide +kernel)
abbrev s_law_some_value : Stmt := top 24
theorem sc_law_some_value : FnScope ["pool", "slots", "moves", "brain", "deep", "kind", "left", "right", "other"] ["pool", "slots", "moves", "brain", "deep"] (fnScope s_law_some_value) := fnScope_by (by decide +kernel)
abbrev s_law_some_code : Stmt := top 25
theorem sc_law_some_code : FnScope ["pool", "slots", "moves", "brain", "deep", "code", "k", "kind", "value", "inner", "other"] ["pool", "slots", "moves", "brain", "deep"] (fnScope s_law_some_code) := fnScope_by (by decide +kernel)
abbrev s_law_whole_code : Stmt := top 26
theorem sc_law_whole_code : FnScope ["pool", "slots", "moves", "brain", "code"] ["pool", "slots", "moves", "brain"] (fnScope s_law_whole_code) := fnScope_by (by decide +kernel)
abbrev s_law_any : Stmt := top 28
theorem sc_law_any : FnScope ["pool", "name", "argument"] ["pool"] (fnScope s_law_any) := fnScope_by (by decide +kernel)
abbrev s_law_spoilt : Stmt := top 29
theorem sc_law_spoilt : FnScope ["pool", "code", "slots", "moves", "place", "name", "argument", "kind", "far"] ["pool", "code", "slots", "moves"] (fnScope s_law_spoilt) := fnScope_by (by decide +kernel)
abbrev s_law : Stmt := top 35
theorem sc_law : FnScope ["script", "pool", "slots", "moves", "brain", "code", "count", "pieces", "k", "passed", "due"] ["script"] (fnScope s_law) := fnScope_by (by decide +kernel)
end My
/-! an own exception class over ValueError (by way of GameError) whose __init__ says super().__init__('..') and keeps its one argument -/
namespace SupX_BadCode
open My PySem L2 C8 PySem.W PySem.Calls PyProof.Rows PySem.HandSPX
/-- what the written part says of the class at C, and of its __init__ at fI -/
structure Txt (P : Program) (K : Frag) (mg : Str → Option Value) (nm : Str) (C fI : Addr) : Prop where
  gC : mg nm = some (.ref C)
  cls : ∃ nm q N bs bm sn sub ab col dd k0 k1 k2 k3 k5, K.lookup C = some (excClassObj nm q C N bs bm true sn sub ab col dd k0 k1 k2 k3 k5 "ValueError.__new__") ∧ refsVE bm = true
  along : ks_superIn K C C "__init__" = some (some (.builtin "ValueError.__init__"))
  veC : subIn K (.ref C) (.type "ValueError") = some true
  sa : findIn K (.ref C) "__setattr__" = some (some (.builtin "object.__setattr__"))
  ga : findIn K (.ref C) "__getattribute__" = some (some (.builtin "BaseException.__getattribute__"))
  gg : findIn K (.ref C) "__getattr__" = some none
  noN : findIn K (.ref C) "at" = some none
  iC : findIn K (.ref C) "__init__" = some (some (.ref fI))
  tC : typeIn K (.ref fI) = some (.type "function")
  kC : keepIn K (.ref C) = true
  exC : subIn K (.ref C) (.type "BaseException") = some true
  tyC : typeIn K (.ref C) = some (.type "type")
  hdC : hasDictIn K C = true
  opq : nsIn K cStatics "thirdparty.any" = some none
  noS : mg "super" = none
  mroC : mroIn K C (.ref C) = some true
  top : (P.main.scope.names.lookup ("super" : Str)).isSome = false
  fn : ∃ (oc : Value) (od : Option Addr) (doc pm : Value) (an : Option Addr) (cda : Addr) (ct : Value) (osl : Array (Option Value)) (cc : Addr) (cl : Value) (cld : Option Addr) (csl : Array (Option Value)) (ccl : Value) (cdd : Option Addr) (vs : Array Value) (ccs : Array (Option Value)) (file : Str) (tf : Tok),
    K.lookup fI = some ⟨oc, od, .func (fnX "__init__" "BadCode.__init__" (fnArgs s_BadCode___init) (fnBody s_BadCode___init) (fnScope s_BadCode___init) [("__class__", cc)] .none .none doc pm an (.ref cda) ct), osl⟩ ∧ codeIn K (.ref cda) "BadCode.__init__" = true ∧
    K.lookup cc = some ⟨cl, cld, .cell (some (.ref C)), csl⟩ ∧ K.lookup cda = some ⟨ccl, cdd, .fields vs, ccs⟩ ∧ vs[2]? = some (.str file tf) ∧ ((P.main.file : Str) == file) = true
/-- what __init__ leaves of a fresh exception at x -/
structure Left (h h' : Heap) (x C dx t1 : Addr) (v : Value) : Prop where
  keep : ∀ b o, b ≠ x → h.get? b = some o → h'.get? b = some o
  obj : h'.get? x = some { cls := .ref C, dict := some dx, data := .fields #[.ref t1, .none, .none, .none, .bool false, .none] }
  dbig : h.objs.size ≤ dx
  dne : dx ≠ x
  ns : h'.Ns1 dx (fun y => if y = "at" then some v else none)
section
variable {prog : Program} {w : World} {A : Around} {E : Value → Shared → Prop} {R : Result → Shared → Prop} {s : Shared} {K : Frag} {mg mb : Str → Option Value} {C fI : Addr} {nm : Str}
/-- such an __init__, run on a fresh exception -/
theorem init (T : Txt prog K mg nm C fI) {x t0 : Addr} {v : Value} (X : K.In s.heap) (hlim : s.heap.NoLimit) (hmg : s.heap.Ns mainGlobals mg) (hmb : s.heap.Ns builtinsNs mb) (hsu : mb "super" = some (.type "super"))
    (hx : s.heap.get? x = some (excO C t0)) (hnx : K.lookup x = none) (hroom : A.depth < recursionLimit)
    (hq : ∀ h' tk dx t1, Left s.heap h' x C dx t1 v → R (.ok (.ret .none)) { s with heap := h', toks := tk }) :
    codeAny (model prog w) A (.call (.ref fI) ⟨[.ref x, v], []⟩) R s := by
  obtain ⟨oc, od, doc, pm, an, cda, ct, osl, cc, cl, cld, csl, ccl, cdd, vs, ccs, file, tf, ho, hcd, hcc, hcda, hvs, hfile⟩ := T.fn
  obtain ⟨nmC, q, N, bs, bm, sn, sub, ab, col, dd, k0, k1, k2, k3, k5, hC, hbm⟩ := T.cls
  have hcl : clsIn K C = some { name := nmC, bases := bs, mro := .ref C :: bm, ns := N, qualname := q, hasDict := true, slotNames := sn, subclasses := sub, abstract := ab, collection := col, hasDel := false } := by unfold clsIn; rw [hC] <;> rfl
  have hal := T.along
  unfold ks_superIn at hal
  rw [hcl] at hal
  have hxC : x ≠ C := fun z => by rw [z, hC] at hnx; cases hnx
  refine ks_codeAny_call_defAt (fd := fnX "__init__" "BadCode.__init__" (fnArgs s_BadCode___init) (fnBody s_BadCode___init) (fnScope s_BadCode___init) [("__class__", cc)] .none .none doc pm an (.ref cda) ct) (binds := [("self", .ref x), ("at", v)]) hroom (X _ _ ho) rfl hlim
    (codeRec_of X hcd) rfl ?hb ?hcell ?hloc (fun h₁ hns k => ?_) rfl rfl rfl
  case hb => exact BindsTo.of_eq (by first | rfl | with_unfolding_all rfl)
  case hcell =>
    show ∀ x ∈ (fnScope s_BadCode___init).names, x.2 ≠ .cell
    decide +kernel
  case hloc =>
    intro y hy
    rcases List.mem_cons.mp hy with rfl | hy
    · first | rfl | kernel_rfl
    · rw [List.mem_singleton.mp hy]
      first | rfl | kernel_rfl
  have X1 : K.In h₁ := X.keeps k
  have hx1 := k _ _ hx
  have hxL : s.heap.objs.size ≠ x := Nat.ne_of_gt (Heap.lt_size hx)
  show PySem.wpAt _ (A.deeper (ksEnv "BadCode.__init__" (fnScope s_BadCode___init) s.heap.objs.size fI (.ref cda) cc)) (.func (fnBody s_BadCode___init) (ksEnv "BadCode.__init__" (fnScope s_BadCode___init) s.heap.objs.size fI (.ref cda) cc)) (execs (fnBody s_BadCode___init) (ksEnv "BadCode.__init__" (fnScope s_BadCode___init) s.heap.objs.size fI (.ref cda) cc)) _ _ _
  refine ks_wpAt_execs_cons (ks_wpAt_Expr_any (ks_wpAt_MethodCall ?_))
  obtain ⟨arS, har, hars⟩ : ∃ ar, ((fnArgs s_BadCode___init).posonlyargs ++ (fnArgs s_BadCode___init).args).head? = some ar ∧ ar.arg = "self" := ⟨_, rfl, rfl⟩
  refine ks_wpAt_super_base (f := fI) (cc := cda) (file := file) (tf := tf) (vs := vs) (ar := arS) rfl rfl (by decide) rfl (X1 _ _ ho) rfl har rfl (X1 _ _ hcda) rfl hvs hfile T.top ?_
  refine ks_loadName_global rfl rfl (loadGlobal_builtin (hmg.keeps k) T.noS (hmb.keeps k) hsu ⟨rfl, ?_⟩)
  refine wpAny_loadName_free rfl rfl (c := cc) rfl ⟨_, X1 _ _ hcc, rfl⟩ ?_
  rw [hars]
  refine wpAny_loadName_local rfl rfl hns (v := .ref x) ?_ ?_
  · first | rfl | with_unfolding_all rfl | kernel_rfl
  refine ks_wpAny_isType_cls (X1 _ _ hC) rfl ⟨rfl, ?_⟩
  refine ks_wpAny_call_super (X1 _ _ hC) rfl hx1 rfl (fun c e => by cases e) (looks_mroIn X1 T.mroC) (fun h2 e2 g2 => ?_)
  have X2 : K.In h2 := X1.keeps g2
  have hx2 := g2 _ _ hx1
  have hI : InstAt h2 x (excO C t0) C none := ⟨hx2, rfl, rfl, trivial⟩
  refine kxs_getMethod kxs_ValueError e2 (looks_opaque X2 T.opq) (l₀ := .ref C :: bm) ((looks_clsIn X2 hcl).andThen .now) rfl X2 hal (hI.type.andThen (looks_subIn X2 T.veC)) hxC (by decide) ?_
  have up3 : ∀ b o, h2.get? b = some o → (h2.push (kxs_mw "ValueError.__init__" x)).get? b = some o := fun b o e => Heap.get?_push_of_some _ e
  have hw3 : (h2.push (kxs_mw "ValueError.__init__" x)).get? h2.objs.size = some (kxs_mw "ValueError.__init__" x) := Heap.get?_push_at rfl rfl
  generalize h2.push (kxs_mw "ValueError.__init__" x) = h3 at *
  refine kxs_callWith1 (u := h2.objs.size) (i := "ValueError.__init__") (x := x) (h₀ := h2) (L := x) (news := [(h2.objs.size, kxs_mw "ValueError.__init__" x)]) (fun p hp => ?_) (by simp) ?_
  · rw [List.mem_singleton] at hp
    subst hp
    exact ⟨hw3, fun z => absurd (Heap.lt_size hx2) (by rw [← show h2.objs.size = x from z]; exact Nat.lt_irrefl _), by
      cases e : h2.get? h2.objs.size with
      | none => rfl
      | some o => exact absurd (Heap.lt_size e) (Nat.lt_irrefl _)⟩
  refine PyProof.Rows.spliced_more (wpAny_Constant_str (PyProof.Rows.spliced_none ⟨hw3, ?_⟩))
  refine wpAny_call (codeAny_of_tree ?_)
  show wpAny _ _ (callAny (.ref h2.objs.size) ⟨[_], []⟩) _ _ _
  have hmwT : (Value.type "method-wrapper" == Value.type "method" || Value.type "method-wrapper" == Value.type "builtin_function_or_method" || Value.type "method-wrapper" == Value.type "method-wrapper") = true := by decide
  simp only [callAny]
  refine wpAny_bind (wpAny_load hw3 ?_)
  simp only [kxs_mw, hmwT, if_true]
  have X3 : K.In h3 := X2.keeps up3
  have hx3 := up3 _ _ hx2
  refine KFB.if_so (by decide) (wpAny_bind (check_bound_init F.excBase_ValueError.toExcCallFacts (X3 _ _ hC) hx3 rfl (wpAny_bind (wpAny_pure (wpAny_pure ⟨plainId_quiet F.excBase_ValueError.init.plain _, codeAny_builtin F.excBase_ValueError.initEntry ?_⟩)))))
  refine exc_init_tree (cls := .ref C) (t0 := t0) (dv := none) (c2 := .none) (c3 := .none) (b4 := .bool false) hx3 (by show 1 ≤ sizeLine; decide) (fun h4 k4 hx4 _ => ?_)
  have X4 : K.In h4 := fun a o e => k4 a o (fun z => by rw [z, hnx] at e; cases e) (X3 a o e)
  have old : ∀ b o, b ≠ x → h₁.get? b = some o → h4.get? b = some o := fun b o hb e => k4 b o hb (up3 b o (g2 b o e))
  have hns4 := hns.at (h' := h4) fun o e => old _ o hxL e
  refine wpAt_of_wpAny (wpAny_execs_cons (plainObj_wpAny_Assign_Attribute (wpAny_Name (wpAny_loadName_local rfl rfl hns4 (v := v) ?_ (wpAny_Name (wpAny_loadName_local rfl rfl hns4 (v := .ref x) ?_ ?_))))))
  · first | rfl | with_unfolding_all rfl | kernel_rfl
  · first | rfl | with_unfolding_all rfl | kernel_rfl
  refine set_plain X4 (ox := excO C h3.objs.size) (od := none) ⟨hx4, rfl, rfl, trivial⟩ T.sa ?_
  refine exc_osa X4 hx4 hcl (show refsVE (.ref C :: bm) = true from hbm) rfl T.noN (fun h5 tk5 dx k5 dn dne hx5 hn5 => wpAny_execs_nil (hq h5 tk5 dx _ ⟨fun b o hb e => k5 b o hb (old b o hb (k b o e)), hx5, ?_, dne, hn5⟩))
  exact Nat.le_of_lt (Nat.lt_of_lt_of_le hns4.lt dn)
/-- a made one -/
structure Made (h h' : Heap) (e C d : Addr) (v : Value) : Prop where
  keep : ∀ b o, h.get? b = some o → h'.get? b = some o
  new : h.objs.size ≤ e
  obj : ∃ oe vs, h'.get? e = some oe ∧ oe.cls = .ref C ∧ oe.dict = some d ∧ oe.data = .fields vs ∧ vs[1]? = some .none
  dbig : h.objs.size ≤ d
  dne : d ≠ e
  ns : h'.Ns1 d (fun y => if y = "at" then some v else none)
theorem made (T : Txt prog K mg nm C fI) {v : Value} (X : K.In s.heap) (hlim : s.heap.NoLimit) (hmg : s.heap.Ns mainGlobals mg) (hmb : s.heap.Ns builtinsNs mb) (hsu : mb "super" = some (.type "super")) (hroom : A.depth + 1 < recursionLimit)
    (hq : ∀ h' tk e d, Made s.heap h' e C d v → R (.ok (.ret (.ref e))) { s with heap := h', toks := tk }) : codeAny (model prog w) A (.call (.ref C) ⟨[v], []⟩) R s := by
  obtain ⟨nmC, q, N, bs, bm, sn, sub, ab, col, dd, k0, k1, k2, k3, k5, hC, hbm⟩ := T.cls
  obtain ⟨hp, g, dr, tk, os⟩ := s
  have up : ∀ b o, hp.get? b = some o → ((hp.push (kdv_tup [v])).push (excO C hp.objs.size)).get? b = some o := fun b o e => Heap.get?_push_of_some _ (Heap.get?_push_of_some _ e)
  have at2 : ((hp.push (kdv_tup [v])).push (excO C hp.objs.size)).get? (hp.objs.size + 1) = some (excO C hp.objs.size) := by heap_get
  have none2 : K.lookup (hp.objs.size + 1) = none := by
    cases e : K.lookup (hp.objs.size + 1) with
    | none => rfl
    | some o => exact absurd (Nat.lt_of_succ_lt (Heap.lt_size (show hp.get? (hp.objs.size + 1) = some o from X _ _ e))) (Nat.lt_irrefl _)
  refine call_own F.excBase_ValueError (fun Y => refsVE_contains Y bm hbm) (X _ _ hC) (looks_findIn X T.iC) (fun self => bind_fn X self T.tC) (by show 1 ≤ sizeLine; decide) ?_
  refine init (s := ⟨(hp.push (kdv_tup [v])).push (excO C hp.objs.size), g, dr, tk, os⟩) T (X.keeps up) (hlim.keeps up) (hmg.keeps up) (hmb.keeps up) hsu at2 none2 ?_ fun h' tk' dx t1 L => ⟨rfl, ?_⟩
  · show A.depth + 1 < recursionLimit
    exact hroom
  · have big : hp.objs.size + 1 + 1 ≤ dx := by
      have z := L.dbig
      rw [Heap.size_push, Heap.size_push] at z
      exact z
    exact hq h' tk' (hp.objs.size + 1) dx ⟨fun b o e => L.keep b o (Nat.ne_of_lt (Nat.lt_succ_of_lt (Heap.lt_size e))) (up b o e), Nat.le_succ _, ⟨_, _, L.obj, rfl, rfl, rfl, rfl⟩, Nat.le_trans (Nat.le_trans (Nat.le_succ _) (Nat.le_succ _)) big, L.dne, L.ns⟩
end
/-! the rules -/
theorem relO_fld {v : V} {u : Value} (r : RelV v u) (f : Str) : RelO (List.lookup f [(("at" : Str), v)]) (if f = "at" then some u else none) := by
  by_cases h : f = "at"
  · subst h
    have q : List.lookup ("at" : Str) [(("at" : Str), v)] = some v := by simp [List.lookup]
    rw [q, if_pos rfl]
    exact r
  · have e : (f == ("at" : Str)) = false := by simpa using h
    rw [if_neg h]
    simp [List.lookup, e]
    trivial
/-- BadCode(e), raised -/
def tMkE (C : Addr) (ta : TA) : L2.St → Hp → XK → Prop := fun σ H Q => ta σ H fun vs H1 => ∃ v, vs = [v] ∧ ∀ d, H1 d = none → Q (.ref C) (some d) (upd H1 d (.xd [(("at" : Str), v)]))
section
variable {X : Cx} {C fI : Addr} {nm : Str}
theorem pmk {a : Expr} {ta : TA} {p pos : Pos} {k : Nat} (T : Txt X.prog X.K X.mg nm C fI) (hr : Room k X.A) (ha : PA X [a] ta) (hg : Gl X nm := by rfl) (hdb : (nm == ("__debug__" : Str)) = false := by decide)
    (he : starEach (a :: []) X.env = (false, eval a X.env) :: starEach [] X.env := by rfl) (hpl : (backTo pos (starEach [] X.env)).any (·.1) = false := by rfl) :
    PMk X (.Call (.Name nm p) [a] [] pos) (tMkE C ta) := by
  intro pins s σ H Q I h
  refine wpAny_Call_Name_kw (ld_glob I hg T.gC ?_ hdb)
  refine PySem.W.callWith_K (h₀ := X.base) I.ok.mod.kin T.kC (thn (ha.run pos pins s σ H _ I h) fun us s1 hh => ?_) he hpl
  obtain ⟨vs, H1, I1, r1, v, ev, q1⟩ := hh
  subst ev
  refine ⟨I1.kIn, ?_⟩
  cases r1 with
  | cons rv rn =>
    rename_i u us'
    cases rn
    show wpAny _ _ (call (.ref C) [u]) _ _ _
    have lim := I1.nolimit
    obtain ⟨mb, hmb1, hmb2⟩ := I1.mod.blt
    have hg1 := I1.mod.glob.keeps I1.bk
    have hb1 := hmb1.keeps I1.bk
    have hsu : mb "super" = some (.type "super") := (hmb2 _ (by decide)).trans (by decide +kernel)
    obtain ⟨hp, g, dr, tk, os⟩ := s1
    refine wpAny_call (made (mb := mb) T I1.kIn lim hg1 hb1 hsu (by have := hr.dp; omega) fun h' tk' e d M => ?_)
    show MkP X pins σ Q (.ref e) ⟨h', g, dr, tk', os⟩
    obtain ⟨oe, fv, hoe, hc, hd, hdat, h1⟩ := M.obj
    obtain ⟨G', g1, g2⟩ := restrict h' fun b => decide (b ≠ e)
    have there : ∀ b, b ≠ e → G'.get? b = h'.get? b := fun b hb => g1 b (decide_eq_true hb)
    have gone : G'.get? e = none := g2 e (by simp)
    have J : Inv X pins σ (upd H1 d (.xd [(("at" : Str), v)])) ⟨G', g, dr, tk', os⟩ := I1.laid (t' := tk') (fun b o q => (there b (Nat.ne_of_lt (Nat.lt_of_lt_of_le (Heap.lt_size q) M.new))).trans (M.keep b o q)) M.dbig
      ⟨_, M.ns.at (fun o q => (there d M.dne).trans q), fun f => relO_fld rv f⟩
    refine ⟨e, oe, fv, ⟨G', g, dr, tk', os⟩, _, .ref C, some d, rfl, J, fun b o q => ?_, gone, hoe, ⟨hc, hd⟩, hdat, h1, ?_, rfl, I1.bare, raises_own T.exC T.tyC, q1 d (I1.hok.fresh M.dbig)⟩
    · by_cases hb : b = e
      · have q' : G'.get? b = some o := q
        rw [hb, gone] at q'; cases q'
      · exact (there b hb).symm.trans q
    · rw [upd_ne (Ne.symm M.dne)]
      exact I1.hok.fresh M.new
/-- raise BadCode(e) -/
def tRaiseE (C : Addr) (W : WX) (ta : TA) : TS := fun _ σ H => tMkE C ta σ H fun cls d H' => W cls d σ H'
theorem ps_raiseE {a : Expr} {ta : TA} {W : WX} {p pos pos2 : Pos} {k : Nat} (hc : X.calm = true) (T : Txt X.prog X.K X.mg nm C fI) (hr : Room k X.A) (tk : Takes X W) (ha : PA X [a] ta) (hg : Gl X nm := by rfl) (hdb : (nm == ("__debug__" : Str)) = false := by decide)
    (he : starEach (a :: []) X.env = (false, eval a X.env) :: starEach [] X.env := by rfl) (hpl : (backTo pos (starEach [] X.env)).any (·.1) = false := by rfl) :
    PS X (.Raise (some (.Call (.Name nm p) [a] [] pos)) none pos2) (tRaiseE C W ta) := ps_raise hc tk (pmk T hr ha hg hdb he hpl)
end
end SupX_BadCode

namespace My
open PySem L2 C8 SX
end My
/-! isinstance(e, ..) of a caught error of an own class that has its dict -/
namespace ExIs
open PySem PySem.W PySem.Spec PySem.Calls PyProof.Rows
/-- what the class at D must say -/
structure ErrC (K : Frag) (D : Addr) : Prop where
  ga : findIn K (.ref D) "__getattribute__" = some (some (.builtin "BaseException.__getattribute__"))
  gg : findIn K (.ref D) "__getattr__" = some none
  exC : subIn K (.ref D) (.type "BaseException") = some true
  hdC : hasDictIn K D = true
  ca : findIn K (.ref D) "__class__" = some (some (.builtin "object.__class__"))
  sp : specialIn K (.builtin "object.__class__") "__get__" = some (some (.builtin "getset_descriptor.__get__"))
  tk : takesIn K (.builtin "object.__class__") = some true
  mo : mroIn K D (.type "object") = some true
theorem ErrC.clsThere {K : Frag} {D : Addr} (T : ErrC K D) : ∃ cd, clsIn K D = some cd := by
  obtain ⟨cd, hc, _⟩ := any_some T.hdC
  exact ⟨cd, hc⟩
theorem ErrC.binds {K : Frag} {D : Addr} (T : ErrC K D) (od : Option Obj) : findObj K D od "__class__" = some (.bind (.builtin "getset_descriptor.__get__") (.builtin "object.__class__")) := by
  obtain ⟨cd, hcd⟩ := T.clsThere
  have e1 := T.ca
  have e2 := T.sp
  have e3 := T.tk
  unfold findObj
  rw [hcd, Option.bind_some, e1, Option.bind_some]
  simp [e2, e3]
section
variable {prog : Program} {w : World} {A : Around} {E : Value → Shared → Prop} {s : Shared} {K : Frag} {x D : Addr} {ox : Obj} {od : Option Obj}
theorem askClass {Q : Option Value → Shared → Prop} (T : ErrC K D) (X : K.In s.heap) (I : InstAt s.heap x ox D od) (h : Q (some (.ref D)) { s with toks := s.toks + 1 }) : wpAny (model prog w) A (getAttr? (.ref x) "__class__") Q E s := by
  obtain ⟨hp, gs, dr, tok, os⟩ := s
  have ty := I.type (M := model prog w)
  have lga := looks_findIn (M := model prog w) X T.ga
  have lgg := looks_findIn (M := model prog w) X T.gg
  have lcl := looks_find (M := model prog w) X I (T.binds od)
  have isB : Looks (model prog w) hp (isInstance (.ref x) (.type "BaseException")) true := ty.andThen (looks_subIn X T.exC)
  have nq : (Value.builtin "BaseException.__getattribute__" == Value.builtin "object.__getattribute__") = false := by decide +kernel
  unfold getAttr? getAttrBy? getAttrBy
  refine wpAny_bind (wpAny_mkText (wpAny_bind (wpAny_attempt (wpAny_holding (wpAny_bind (ty.at (wpAny_bind (lga.at (?goal : _))))))))) 
  show wpAny _ _ (ite ((onTheHeap (Value.ref D) && Value.builtin "BaseException.__getattribute__" == Value.builtin "object.__getattribute__") = true) _ _) _ _ _
  rw [if_neg (by rw [nq]; simp)]
  unfold getAttrByItsOwn hookBefore
  refine wpAny_bind (?g2 : _)
  have onH : onTheHeap (Value.ref D) = true := rfl
  rw [if_pos onH]
  refine lgg.at (wpAny_bind (wpAny_attempt (wpAny_holding (?g3 : _))))
  unfold callGetattribute
  rw [if_neg (by simp)]
  unfold boundAndCalled
  rw [PySem.F.excAttr_ValueError.ga.bind (.ref x)]
  refine wpAny_bind (wpAny_pure (?g4 : _))
  show wpAny _ _ (call (.builtin "BaseException.__getattribute__") [.ref x, .str "__class__" tok]) _ _ _
  refine wpAny_call (codeAny_call_builtin PySem.F.excAttr_ValueError.ga.plain PySem.F.entry_bexc_ga (@check_slot (model prog w) _ _ ⟨hp, gs, dr, tok + 1, os⟩ "BaseException.__getattribute__" "BaseException" "__getattribute__" (.ref x) [.str "__class__" tok] [] _ (by decide +kernel) (by decide +kernel) isB
    (PySem.F.args_bexc_ga (.ref x) (.str "__class__" tok)) (?g5 : _)))
  unfold Builtin.«object.__getattribute__»
  refine wpAny_bind (wpAny_of_eq (a := ((Value.ref x : Value), [Value.str "__class__" tok])) (by first | rfl | (simp only [slotArgs]; rfl)) (wpAny_bind (wpAny_pure (wpAny_bind (ty.at (wpAny_bind (lcl.at (?g6 : _))))))))
  show wpAny _ _ (holding [Value.builtin "object.__class__"] (call (.builtin "getset_descriptor.__get__") [.builtin "object.__class__", .ref x, .ref D]) >>= ret) _ _ _
  refine wpAny_bind (wpAny_holding (wpAny_call (class_get (s := ⟨hp, gs, dr, tok + 1, os⟩) (ox := ox) (od := od) X I T.mo (wpAny_pure (?g7 : _)))))
  show wpAny _ _ (handedOut (.ref D)) _ _ _
  rw [handedOut_of (v := .ref D) rfl]
  first | exact wpAny_pure (wpAny_pure h) | exact wpAny_pure h | exact wpAny_pure (wpAny_bind (wpAny_pure (wpAny_pure h)))
theorem kit (T : ErrC K D) : KitX K (.ref x) (.ref D) (fun h => InstAt h x ox D od) where
  ty := fun _ _ _ I => I.type
  it := fun _ _ X _ => by
    obtain ⟨cd, hcd⟩ := T.clsThere
    unfold clsIn at hcd
    split at hcd
    · rename_i c' d' cd' sl' ho
      intro A' Q' E' s' k q
      unfold isType loadHead
      exact wpAny_bind (wpAny_loadPart (k _ _ (X _ _ ho)) (wpAny_pure q))
    · cases hcd
  ne := fun h tp dd its n sl X htp => Bool.eq_false_iff.mpr fun q => by
    obtain ⟨cd, hcd⟩ := T.clsThere
    have e : D = tp := Value.ref.inj (beq_iff_eq.mp q)
    subst e
    unfold clsIn at hcd
    split at hcd
    · rename_i c' d' cd' sl' ho
      cases (X _ _ ho).symm.trans htp
    · cases hcd
  ca := fun X I k => askClass T X I k
end
end ExIs
namespace L2
open PySem PySem.Spec PyProof.Rows
theorem inst_of {X : Cx} {pins : List (Addr × Obj)} {σ : L2.St} {H : Hp} {s : Shared} {a D dd : Addr} {oe : Obj} {pn : List (Addr × Obj)} {fs : List (Str × V)} (I : Inv (X.suite a ((a, oe) :: pn)) pins σ H s) (hz : Zc (.ref D) (some dd) oe) (hf : ∃ vs, oe.data = .fields vs) (he : H dd = some (.xd fs)) :
    ∃ od, PySem.W.InstAt s.heap a oe D (some od) := by
  obtain ⟨ha, _⟩ := I.pin (a, oe) (List.mem_append_left _ List.mem_cons_self)
  obtain ⟨vs, hd⟩ := hf
  have hx : ObjOk X.prog X.w H s.heap dd (.xd fs) := I.hok dd _ he
  obtain ⟨mA, hns, _⟩ := hx
  obtain ⟨od, ho, _⟩ := lookIn_ns hns
  exact ⟨od, ha, hz.1, by unfold PySem.W.notCls; rw [hd] <;> rfl, by rw [hz.2]; exact ho⟩
/-- isinstance(e, C), e the caught exception -/
def rIsX (K : PySem.W.Frag) (a : Addr) (cls : Value) (d : Option Addr) : List V → Hp → VK → Prop := fun xs H Q => ∃ (D C dd : Addr) (fs : List (Str × V)) (b : Bool), xs = [.ref a, .ref C] ∧ cls = .ref D ∧ d = some dd ∧ ExIs.ErrC K D ∧ H dd = some (.xd fs) ∧ PySem.W.kitOne K (.ref D) (.ref C) = some b ∧ Q (.bl b) H
theorem call_isX {X : Cx} {a : Addr} {cls : Value} {d : Option Addr} {oe : Obj} {pn : List (Addr × Obj)} (hz : Zc cls d oe) (hf : ∃ vs, oe.data = .fields vs) : CallR (X.suite a ((a, oe) :: pn)) (.builtin "isinstance") (rIsX X.K a cls d) := by
  intro pins s σ H xs us Q I r h
  obtain ⟨D, C, dd, fs, b, rfl, rfl, rfl, T, hx, e, q⟩ := h
  obtain ⟨u1, u2, rfl, r1, r2⟩ := vals2 r
  cases (show u1 = Value.ref a from r1)
  cases (show u2 = Value.ref C from r2)
  obtain ⟨od, J⟩ := inst_of I hz hf hx
  exact PySem.W.kia_one (ExIs.kit T) I.kIn J e (fun z => nomatch z) fun tk => ⟨.bl b, H, I.tok tk, rfl, q⟩
theorem crefs_of {cs : List Addr} {its : List Value} (h : Vals (cs.map V.ref) its) : its = cs.map Value.ref := by
  induction cs generalizing its with
  | nil => cases h; rfl
  | cons c cs ih =>
    cases h with
    | cons h1 h2 => rw [ih h2]; cases (show _ = Value.ref c from h1); rfl
/-- isinstance(e, (C1, ..)) -/
def rIsXT (K : PySem.W.Frag) (a : Addr) (cls : Value) (d : Option Addr) : List V → Hp → VK → Prop := fun xs H Q => ∃ (D tp dd : Addr) (cs : List Addr) (fs : List (Str × V)) (b : Bool), xs = [.ref a, .ref tp] ∧ cls = .ref D ∧ d = some dd ∧ ExIs.ErrC K D ∧ H dd = some (.xd fs) ∧ H tp = some (.tup (cs.map V.ref)) ∧
  PySem.W.kitAny K (.ref D) (cs.map Value.ref) = some b ∧ Q (.bl b) H
theorem call_isXT {X : Cx} {a : Addr} {cls : Value} {d : Option Addr} {oe : Obj} {pn : List (Addr × Obj)} (hz : Zc cls d oe) (hf : ∃ vs, oe.data = .fields vs) : CallR (X.suite a ((a, oe) :: pn)) (.builtin "isinstance") (rIsXT X.K a cls d) := by
  intro pins s σ H xs us Q I r h
  obtain ⟨D, tp, dd, cs, fs, b, rfl, rfl, rfl, T, hx, hT, e, q⟩ := h
  obtain ⟨u1, u2, rfl, r1, r2⟩ := vals2 r
  cases (show u1 = Value.ref a from r1)
  cases (show u2 = Value.ref tp from r2)
  obtain ⟨od, J⟩ := inst_of I hz hf hx
  obtain ⟨_, its, rv, o, h1, h2, n, h3⟩ := (show ObjOk X.prog X.w H s.heap tp (.tup (cs.map V.ref)) from I.hok tp _ hT)
  have e3 := crefs_of rv
  subst e3
  obtain ⟨oc, od2, dt, sl⟩ := o
  simp only at h2 h3
  subst h2 h3
  exact PySem.W.kia_tup (ExIs.kit T) I.kIn J h1 e (fun z => nomatch z) fun tk => ⟨.bl b, H, I.tok tk, rfl, q⟩
end L2
namespace My
open PySem L2 C8 SX

/-- what the walk asks of the module -/
structure Txt (K : PySem.W.Frag) (mg : Str → Option Value) (C_Checker : Addr) (C_GameError : Addr) (C_BadText : Addr) (C_TooLarge : Addr) (C_BadMove : Addr) (C_BadCode : Addr) (T_SIGNS : Addr) (T_ROUND_NAMES : Addr) (T_BRAIN_NAMES : Addr) (T_EFFECTS : Addr) : Prop where
  n_bool : mg "bool" = none
  n_int : mg "int" = none
  n_isinstance : mg "isinstance" = none
  n_len : mg "len" = none
  n_list : mg "list" = none
  n_max : mg "max" = none
  n_min : mg "min" = none
  n_ord : mg "ord" = none
  n_range : mg "range" = none
  n_str : mg "str" = none
  n_tuple : mg "tuple" = none
  cl_Checker : Cls K C_Checker
  m_Checker : mg "Checker" = some (.ref C_Checker)
  i_Checker : InsC K C_Checker
  a_Checker_code : NoAttr K C_Checker "code"
  a_Checker_slots : NoAttr K C_Checker "slots"
  a_Checker_moves : NoAttr K C_Checker "moves"
  a_Checker_thinking : NoAttr K C_Checker "thinking"
  a_Checker_heights : NoAttr K C_Checker "heights"
  a_Checker_highest : NoAttr K C_Checker "highest"
  v_GREATEST : ∃ u, mg "GREATEST" = some u ∧ RelV (.int 65535) u
  v_SIGNS : ∃ u, mg "SIGNS" = some u ∧ RelV (.ref T_SIGNS) u
  q_SIGNS : ∀ H : Hp, SqT K H T_SIGNS ((["+", "-", "*", "/", "mod", "<", "="] : List Str).map V.str)
  d_SIGNS : ∃ o, K.lookup T_SIGNS = some o ∧ o.cls = .type "tuple" ∧ o.dict = none
  v_HIGHEST : ∃ u, mg "HIGHEST" = some u ∧ RelV (.int 16) u
  v_ROUND_NAMES : ∃ u, mg "ROUND_NAMES" = some u ∧ RelV (.ref T_ROUND_NAMES) u
  q_ROUND_NAMES : ∀ H : Hp, SqT K H T_ROUND_NAMES ((["push", "load", "store", "sign", "jump", "skip", "lot", "end", "ask", "show", "pay", "take"] : List Str).map V.str)
  d_ROUND_NAMES : ∃ o, K.lookup T_ROUND_NAMES = some o ∧ o.cls = .type "tuple" ∧ o.dict = none
  v_BRAIN_NAMES : ∃ u, mg "BRAIN_NAMES" = some u ∧ RelV (.ref T_BRAIN_NAMES) u
  q_BRAIN_NAMES : ∀ H : Hp, SqT K H T_BRAIN_NAMES ((["push", "load", "store", "sign", "jump", "skip", "lot", "end", "view", "long", "unit", "back"] : List Str).map V.str)
  d_BRAIN_NAMES : ∃ o, K.lookup T_BRAIN_NAMES = some o ∧ o.cls = .type "tuple" ∧ o.dict = none
  v_EFFECTS : ∃ u, mg "EFFECTS" = some u ∧ RelV (.ref T_EFFECTS) u
  m_GameError : mg "GameError" = some (.ref C_GameError)
  m_BadText : mg "BadText" = some (.ref C_BadText)
  m_TooLarge : mg "TooLarge" = some (.ref C_TooLarge)
  m_BadMove : mg "BadMove" = some (.ref C_BadMove)
  m_BadCode : mg "BadCode" = some (.ref C_BadCode)
  e_BadCode : ExIs.ErrC K C_BadCode
  f_BadCode : XfC K C_BadCode
  no_BadCode : PySem.W.findIn K (.ref C_BadCode) "at" = some none
  x_BadCode : PySem.W.exmOne K (.ref C_BadCode) (.ref C_BadCode) = some true
  kit1 : PySem.W.kitOne K (.ref C_BadCode) (.ref C_GameError) = some true
  kit2 : PySem.W.kitAny K (.ref C_BadCode) [.ref C_BadMove, .ref C_BadText, .ref C_TooLarge] = some false
  ok : True
/-! defs that raise: their promise, their calls (in a def that raises, in a try) -/
structure CalX (P : Program) (w : World) (K : PySem.W.Frag) (mg : Str → Option Value) (base : Heap) (k : Nat) (x : Str) (sp : Sp) (dvs : List V) : Prop where
  ex : ∃ (f : Addr) (fd : FuncData) (ps : List Str) (ds : List Value), FnOk P w K mg base (L2.CX P w) k f fd ps sp ∧ mg x = some (.ref f) ∧ PySem.W.keepIn K (.ref f) = true ∧ Binds K fd ps ds ∧ Vals dvs ds
/-- .. called with keywords -/
structure CalXK (P : Program) (w : World) (K : PySem.W.Frag) (mg : Str → Option Value) (base : Heap) (k : Nat) (x : Str) (sp : Sp) (n : Nat) (ks : List Str) (gV : List V → List V → List V) : Prop where
  ex : ∃ (f : Addr) (fd : FuncData) (ps : List Str) (g : List Value → List Value → List Value), FnOk P w K mg base (L2.CX P w) k f fd ps sp ∧ mg x = some (.ref f) ∧ PySem.W.keepIn K (.ref f) = true ∧ KBn K fd ps n ks g gV
structure MetX (P : Program) (w : World) (K : PySem.W.Frag) (mg : Str → Option Value) (base : Heap) (k : Nat) (C : Addr) (m : Str) (sp : Sp) (dvs : List V) : Prop where
  ex : ∃ (f : Addr) (fd : FuncData) (ps : List Str) (ds : List Value), Cls K C ∧ Meth K C m f ∧ FnOk P w K mg base (L2.CX P w) k f fd ps sp ∧ Binds K fd ps ds ∧ Vals dvs ds
section
variable {P : Program} {w : World} {K : PySem.W.Frag} {mg : Str → Option Value} {base : Heap}
theorem fnx {x qual : Str} {st : Stmt} {f : Addr} {fd : FuncData} {N ps : List Str} {k : Nat} {sp : Sp} (F : C8.Fun K x qual st f fd) (S : FnScope N ps (fnScope st)) (len : ∀ vs H Q E, sp vs H Q E → vs.length = ps.length)
    (hbody : ∀ (cdv : Value) (A : Around) (outer : List Env) (s : Shared) (H : Hp) (vs : List V) (Q : VK) (E : XK), Room k (A.deeper (PyProof.Rows.envOfC qual (fnScope st) s.heap.objs.size f cdv)) → sp vs H Q E →
      ∃ t, PSs (cxOf (L2.CX P w) P w K mg base N qual (fnScope st) f cdv A outer s H E) (fnBody st) t ∧ t { nx := fun _ H' => Q .non H', rt := Q } (start N vs) H) : FnOk P w K mg base (L2.CX P w) (k + 1) f fd ps sp := by
  obtain ⟨oc, od, dV, kV, doc, pm, an, cdv, ct, osl, rfl, lk, hcd⟩ := F.ex
  exact fn_of lk hcd S len fun A outer s H vs Q E hr hsp => hbody cdv A outer s H vs Q E hr hsp
theorem CalX.of {x : Str} {st : Stmt} {f : Addr} {fd : FuncData} {ps : List Str} {ds : List Value} {dvs : List V} {k : Nat} {sp : Sp} (F : C8.Def K mg x st f fd) (ok : FnOk P w K mg base (L2.CX P w) k f fd ps sp) (b : Binds K fd ps ds) (d : Vals dvs ds) : CalX P w K mg base k x sp dvs :=
  ⟨f, fd, ps, ds, ok, F.mgf, F.kp, b, d⟩
end
section
variable {X : Cx} {k j n : Nat} {C : Addr} {x m : Str} {sp : Sp} {dvs : List V} {p pos apos : Pos} {e o : Expr} {es : List Expr} {ta : TE} {t tk : TA} {E : XK} {W : WX} {ks : List Str} {gV : List V → List V → List V} {kws : List Keyword}
/-- called in a def that lets out what E says -/
theorem pe_cX (c : CalX X.prog X.w X.K X.mg X.base k x sp dvs) (hr : Room j X.A) (hk : k ≤ j) (hg : Gl X x) (hx : Passes (L2.CX X.prog X.w) X E) (ha : PA X (e :: es) t)
    (hdb : (x == ("__debug__" : Str)) = false := by decide) (he : starEach (e :: es) X.env = (false, eval e X.env) :: starEach es X.env := by rfl) (hpl : (backTo pos (starEach es X.env)).any (·.1) = false := by rfl) :
    PE X (.Call (.Name x p) (e :: es) [] pos) (tCall sp dvs E t) := by
  obtain ⟨f, fd, ps, ds, F, hm, kp, b, d⟩ := c.ex
  exact pe_call F (hr.mono hk) hg hm kp b d hx ha hdb he hpl
/-- called in a try -/
theorem pe_cS (c : CalX X.prog X.w X.K X.mg X.base k x sp dvs) (hr : Room j X.A) (hk : k ≤ j) (hg : Gl X x) (tk : Takes X W) (ha : PA X (e :: es) t)
    (hdb : (x == ("__debug__" : Str)) = false := by decide) (he : starEach (e :: es) X.env = (false, eval e X.env) :: starEach es X.env := by rfl) (hpl : (backTo pos (starEach es X.env)).any (·.1) = false := by rfl) :
    PE X (.Call (.Name x p) (e :: es) [] pos) (tCallSD sp dvs (WE W) t) := by
  obtain ⟨f, fd, ps, ds, F, hm, kp, b, d⟩ := c.ex
  exact pe_callSD F (hr.mono hk) hg hm kp b d (fun σ => passAt tk σ) ha hdb he hpl
def tCallSK (sp : Sp) (n : Nat) (ks : List Str) (gV : List V → List V → List V) (E : L2.St → XK) (t tk : TA) : TE := fun σ H Q => t σ H fun vs H1 => tk σ H1 fun zs H2 => vs.length = n ∧ zs.length = ks.length ∧ sp (gV vs zs) H2 Q (E σ)
/-- called in a try, with keywords -/
theorem pe_cKS (c : CalXK X.prog X.w X.K X.mg X.base k x sp n ks gV) (hr : Room j X.A) (hk : k ≤ j) (hg : Gl X x) (tw : Takes X W) (ha : PA X (e :: es) t) (hkw : PK X kws tk)
    (hall : (backToKw pos (keywordEach kws X.env)).all (·.1.isSome) = true := by rfl) (hks : (backToKw pos (keywordEach kws X.env)).filterMap (·.1) = ks := by rfl)
    (hdb : (x == ("__debug__" : Str)) = false := by decide) (he : starEach (e :: es) X.env = (false, eval e X.env) :: starEach es X.env := by rfl)
    (hpl : ((backTo pos (starEach (e :: es) X.env)).any (·.1) || (backToKw pos (keywordEach kws X.env)).any (·.1.isNone)) = false := by rfl) :
    PE X (.Call (.Name x p) (e :: es) kws pos) (tCallSK sp n ks gV (WE W) t tk) := by
  obtain ⟨f, fd, ps, g, F, hm, kp, b⟩ := c.ex
  refine ⟨fun pins s σ H Q I h => wpAny_Call_Name_kw (ld_glob I hg hm (PySem.W.callWith_KW (h₀ := X.base) I.ok.mod.kin kp hall (thn (ha.run pos pins s σ H _ I h) fun us s1 ⟨vs, H1, I1, r, q⟩ => ?_) hpl he) hdb)⟩
  refine thn (hkw.run pos pins s1 σ H1 _ I1 q) fun ws s2 ⟨zs, H2, I2, rz, l1, l2, q2⟩ => ⟨I2.kIn, ?_⟩
  rw [hks]
  have r2 := b.rel r rz
  refine wpAny_call (codeAny_mono (F.run X.A X.stack s2 H2 ⟨us, ks.zip ws⟩ (g us ws) (gV vs zs) Q (WE W σ) (hr.mono hk) I2.env0 (b.to s2 us ws I2.kIn (r.length.symm.trans l1) (rz.length.symm.trans l2)) r2 q2) fun r s' hq => ?_)
  cases r with
  | error er => exact passAt tw σ pins H2 s2 er s' I2 hq
  | ok fl =>
    cases fl with
    | ret u => exact I2.after hq
    | next => exact hq.elim
    | brk => exact hq.elim
    | cont => exact hq.elim
end

/-! ratios: an own object of two ints -/
theorem kND : ¬ (("num" : Str) = "den") := by decide +kernel
theorem kDN : ¬ (("den" : Str) = "num") := by decide +kernel
def rf (n d : Int) : List (Str × V) := putF "den" (.int d) (putF "num" (.int n) [])
theorem rf_num (n d : Int) : (rf n d).lookup ("num" : Str) = some (.int n) := by
  unfold rf
  rw [lookup_putF, if_neg kND, lookup_putF, if_pos rfl]
theorem rf_den (n d : Int) : (rf n d).lookup ("den" : Str) = some (.int d) := by
  unfold rf
  rw [lookup_putF, if_pos rfl]
theorem rf_no (n d : Int) {m : Str} (h1 : ¬ m = "num") (h2 : ¬ m = "den") : (rf n d).lookup m = none := by
  unfold rf
  rw [lookup_putF, if_neg h2, lookup_putF, if_neg h1]; rfl
/-- a Ratio stands at p -/
def RatAt (C : Addr) (H : Hp) (p : Addr) (n d : Int) : Prop := ∃ dx, H p = some (.ins C dx (rf n d))
theorem RatAt.keep {C p : Addr} {H H' : Hp} {W : List Addr} {n d : Int} (h : RatAt C H p n d) (k : Keep W H H') (w : p ∉ W) : RatAt C H' p n d := by
  obtain ⟨dx, h⟩ := h
  exact ⟨dx, k _ _ h w⟩
theorem RatAt.keep0 {C p : Addr} {H H' : Hp} {n d : Int} (h : RatAt C H p n d) (k : Keep [] H H') : RatAt C H' p n d := h.keep k (by simp)
/-- the sign of the divisor stands with the common part -/
def sg (n d : Int) : Int := if d < 0 then -((Nat.gcd n.natAbs d.natAbs : Nat) : Int) else ((Nat.gcd n.natAbs d.natAbs : Nat) : Int)
def redN (n d : Int) : Int := n.fdiv (sg n d)
def redD (n d : Int) : Int := d.fdiv (sg n d)
theorem gcd_pos_of {n d : Int} (h : d ≠ 0) : 0 < Nat.gcd n.natAbs d.natAbs := Nat.gcd_pos_of_pos_right _ (by omega)
theorem sg_ne {n d : Int} (h : d ≠ 0) : sg n d ≠ 0 := by
  have := gcd_pos_of (n := n) h
  unfold sg
  split <;> omega
theorem sg_dvd_n (n d : Int) : sg n d ∣ n := by
  have h : ((Nat.gcd n.natAbs d.natAbs : Nat) : Int) ∣ n := Int.ofNat_dvd_left.mpr (Nat.gcd_dvd_left _ _)
  unfold sg
  split
  · exact Int.neg_dvd.mpr h
  · exact h
theorem sg_dvd_d (n d : Int) : sg n d ∣ d := by
  have h : ((Nat.gcd n.natAbs d.natAbs : Nat) : Int) ∣ d := Int.ofNat_dvd_left.mpr (Nat.gcd_dvd_right _ _)
  unfold sg
  split
  · exact Int.neg_dvd.mpr h
  · exact h
theorem fdiv_of_mul {m c s : Int} (hs : s ≠ 0) (h : m = s * c) : m.fdiv s = c := by
  subst h; exact Int.mul_fdiv_cancel_left c hs
theorem red_n {n d : Int} (h : d ≠ 0) : redN n d * sg n d = n := by
  obtain ⟨c, hc⟩ := sg_dvd_n n d
  unfold redN
  rw [fdiv_of_mul (sg_ne h) hc, Int.mul_comm]; exact hc.symm
theorem red_d {n d : Int} (h : d ≠ 0) : redD n d * sg n d = d := by
  obtain ⟨c, hc⟩ := sg_dvd_d n d
  unfold redD
  rw [fdiv_of_mul (sg_ne h) hc, Int.mul_comm]; exact hc.symm
theorem redD_pos {n d : Int} (h : d ≠ 0) : 0 < redD n d := by
  have e := red_d (n := n) h
  have g := gcd_pos_of (n := n) h
  have hne : redD n d ≠ 0 := fun z => by rw [z, Int.zero_mul] at e; exact h e.symm
  rcases Int.lt_or_gt_of_ne hne with hl | hl
  · exfalso
    unfold sg at e
    split at e
    · rename_i hd
      have : 0 ≤ redD n d * -((Nat.gcd n.natAbs d.natAbs : Nat) : Int) := Int.mul_nonneg_of_nonpos_of_nonpos (by omega) (by omega)
      omega
    · rename_i hd
      have : redD n d * ((Nat.gcd n.natAbs d.natAbs : Nat) : Int) < 0 := Int.mul_neg_of_neg_of_pos hl (by omega)
      omega
  · exact hl
/-- the same ratio -/
theorem red_cross {n d : Int} (h : d ≠ 0) : redN n d * d = n * redD n d := by
  have e1 := red_n (n := n) h
  have e2 := red_d (n := n) h
  calc redN n d * d = redN n d * (redD n d * sg n d) := by rw [e2]
    _ = redN n d * sg n d * redD n d := by rw [Int.mul_comm (redD n d), Int.mul_assoc]
    _ = n * redD n d := by rw [e1]
theorem red_gcd {n d : Int} (h : d ≠ 0) : Nat.gcd (redN n d).natAbs (redD n d).natAbs = 1 := by
  have e1 : (redN n d).natAbs * (sg n d).natAbs = n.natAbs := by rw [← Int.natAbs_mul, red_n h]
  have e2 : (redD n d).natAbs * (sg n d).natAbs = d.natAbs := by rw [← Int.natAbs_mul, red_d h]
  have e3 : (sg n d).natAbs = Nat.gcd n.natAbs d.natAbs := by unfold sg; split <;> omega
  have e4 := Nat.gcd_mul_right (redN n d).natAbs (sg n d).natAbs (redD n d).natAbs
  rw [e1, e2, e3] at e4
  have g := gcd_pos_of (n := n) h
  exact Nat.eq_of_mul_eq_mul_right g (by omega)
theorem red_abs_n {n d : Int} (h : d ≠ 0) : (redN n d).natAbs ≤ n.natAbs := by
  have e1 : (redN n d).natAbs * (sg n d).natAbs = n.natAbs := by rw [← Int.natAbs_mul, red_n h]
  have : 0 < (sg n d).natAbs := by have := sg_ne (n := n) h; omega
  rw [← e1]
  exact Nat.le_mul_of_pos_right _ this
theorem red_dvd {n d : Int} (h : d ≠ 0) : redD n d ∣ d := ⟨sg n d, (red_d h).symm⟩
/-- what the rules ask of numbers below a power of two -/
theorem log2_lt9 {i : Int} {b : Nat} (h : i.natAbs < 2 ^ b) (h0 : 0 < b) : i.natAbs.log2 < b := PySem.Flt.log2_lt_of h0 h
section
variable {X : Cx}
def CDivG (_ j : Int) : Prop := j ≠ 0 ∧ j.natAbs.log2 < 9000
theorem op_fdivG : OpR X (binaryOp .FloorDiv) (rI CDivG fun i j => .int (i.fdiv j)) := opI fun i j _ _ _ _ _ hc q =>
  PyProof.Rows.floordiv_int hc.1 q (.inl (PyProof.noPylong_of_log2 hc.2))
def CPowB (i j : Int) : Prop := 2 ≤ i.natAbs ∧ 1 ≤ j ∧ (Builtin.Int.intBits i : Int) * j ≤ 100000000
theorem op_mulO : OpR X (binaryOp .Mult) (rI IntMulOk fun i j => .int (i * j)) := opI fun _ _ _ _ _ _ _ hc q => PyProof.Rows.mul_int q hc
end
def sp_rat (C : Addr) : Sp := fun vs H Q _ => ∃ (x dx : Addr) (n d : Int), vs = [.ref x, .int n, .int d] ∧ d ≠ 0 ∧ d.natAbs < 2 ^ 8000 ∧ H x = some (.ins C dx []) ∧
  ∀ H', Keep [x] H H' → H' x = some (.ins C dx (rf (redN n d) (redD n d))) → Q .non H'

/-! the law's draws -/
def Pool (H : Hp) (p q : Addr) (ns : List Int) (bud : Int) : Prop := ∃ (i1 i2 i3 i4 : Int), H p = some (.lst [.ref q, .int i1, .int i2, .int i3, .int i4, .int bud]) ∧ H q = some (.lst (ns.map V.int)) ∧ q ≠ p ∧ 0 ≤ i1
theorem Pool.some {H : Hp} {p q : Addr} {ns : List Int} {bud : Int} (h : Pool H p q ns bud) : ∃ o, H p = Option.some o := by
  obtain ⟨i1, i2, i3, i4, h, _⟩ := h
  exact ⟨_, h⟩
theorem Pool.some2 {H : Hp} {p q : Addr} {ns : List Int} {bud : Int} (h : Pool H p q ns bud) : ∃ o, H q = Option.some o := by
  obtain ⟨i1, i2, i3, i4, _, h, _⟩ := h
  exact ⟨_, h⟩
theorem Pool.keep {H H' : Hp} {p q : Addr} {ns : List Int} {bud : Int} {W : List Addr} (h : Pool H p q ns bud) (k : Keep W H H') (w : ∀ b, b ∈ W → H b = none) : Pool H' p q ns bud := by
  obtain ⟨i1, i2, i3, i4, h1, h2, h3, h4⟩ := h
  have no : ∀ b o, H b = Option.some o → b ∉ W := fun b o e z => by rw [w b z] at e; cases e
  exact ⟨i1, i2, i3, i4, k _ _ h1 (no _ _ h1), k _ _ h2 (no _ _ h2), h3, h4⟩
theorem Pool.keep0 {H H' : Hp} {p q : Addr} {ns : List Int} {bud : Int} (h : Pool H p q ns bud) (k : Keep [] H H') : Pool H' p q ns bud := h.keep k fun _ z => by cases z
theorem Pool.new {H : Hp} {p q a : Addr} {ns : List Int} {bud : Int} {o : HO} (h : Pool H p q ns bud) (n : H a = none) : Pool (upd H a o) p q ns bud := h.keep0 (Keep.new n)
theorem Pool.own {H : Hp} {p q a : Addr} {ns : List Int} {bud : Int} {o : HO} (h : Pool H p q ns bud) (h1 : a ≠ p) (h2 : a ≠ q) : Pool (upd H a o) p q ns bud := by
  obtain ⟨i1, i2, i3, i4, g1, g2, g3, g4⟩ := h
  exact ⟨i1, i2, i3, i4, by rw [upd_ne h1.symm]; exact g1, by rw [upd_ne h2.symm]; exact g2, g3, g4⟩
theorem Pool.free {H H' : Hp} {p q l : Addr} {ns : List Int} {bud : Int} (P : Pool H' p q ns bud) (e : Keep [p] H H') (h : H' l = none) : H l = none := by
  obtain ⟨o, ho⟩ := P.some
  exact e.free1 ho h
theorem Pool.nep {H : Hp} {p q l : Addr} {ns : List Int} {bud : Int} (P : Pool H p q ns bud) (h : H l = none) : l ≠ p := by
  obtain ⟨o, ho⟩ := P.some
  exact (ne_of_none ho h).symm
theorem Pool.neq {H : Hp} {p q l : Addr} {ns : List Int} {bud : Int} (P : Pool H p q ns bud) (h : H l = none) : l ≠ q := by
  obtain ⟨o, ho⟩ := P.some2
  exact (ne_of_none ho h).symm
def sp_law_pool (K : PySem.W.Frag) : Sp := fun vs H Q _ => ∃ (a : Addr) (ns : List Int) (bud : Int), vs = [.ref a, .int bud] ∧ SqL K H a (ns.map V.int) ∧
  ∀ p q H', H p = none → Pool H' p q ns bud → Keep [] H H' → Q (.ref p) H'
def sp_law_draw : Sp := fun vs H Q _ => ∃ (p q : Addr) (ns : List Int) (bud size : Int), vs = [.ref p, .int size] ∧ 0 < size ∧ size < 2 ^ 60 ∧ Pool H p q ns bud ∧
  ∀ r H', 0 ≤ r → r < size → Pool H' p q ns bud → Keep [p] H H' → Q (.int r) H'
def sp_law_spend : Sp := fun vs H Q _ => ∃ p q ns bud, vs = [.ref p] ∧ Pool H p q ns bud ∧ ∀ H', Pool H' p q ns (bud - 1) → Keep [p] H H' → Q (.bl (decide (bud - 1 ≥ 0))) H'
section
variable {P : Program} {w : World} {K : PySem.W.Frag} {mg : Str → Option Value} {base : Heap} {C_Checker : Addr} {C_GameError : Addr} {C_BadText : Addr} {C_TooLarge : Addr} {C_BadMove : Addr} {C_BadCode : Addr} {f_BadCode___init : Addr} {T_SIGNS : Addr} {T_ROUND_NAMES : Addr} {T_BRAIN_NAMES : Addr} {T_EFFECTS : Addr}
theorem ok_law_pool {f : Addr} {fd : FuncData} (D : C8.Def K mg "_law_pool" s_law_pool f fd) (b : Binds K fd ["script", "budget"] []) (T : Txt K mg C_Checker C_GameError C_BadText C_TooLarge C_BadMove C_BadCode T_SIGNS T_ROUND_NAMES T_BRAIN_NAMES T_EFFECTS) : C8.Cal P w K mg base 1 "_law_pool" (sp_law_pool K) [] := by
  refine cal0 D b .nil sc_law_pool (fun vs H Q E h => ?_) (fun cdv A outer s H vs Q E hr h => ?_)
  · obtain ⟨a, ns, b, rfl, _⟩ := h
    rfl
  · obtain ⟨a, ns, b, rfl, hS, k⟩ := h
    refine ⟨_, (pss_one (ps_ret (pe_lst (pa_cons (pe_callTy call_list_of (by rfl) T.n_list bo_list (pa_cons (pv 0) pa_nil)) (pa_cons pe_int (pa_cons pe_int (pa_cons pe_int (pa_cons pe_int (pa_cons (pv 1) pa_nil))))))))), ?_⟩
    refine ⟨_, rfl, _, _, rfl, .inl hS, fun l hl => ⟨_, rfl, (by show 6 ≤ sizeLine; decide), fun p hp => ?_⟩⟩
    have hlp : l ≠ p := ne_of_none (H := upd H l (.lst (ns.map V.int))) upd_same hp
    have hp0 : H p = none := (Keep.new (W := []) hl).free hp
    refine k p l _ hp0 ⟨_, _, _, _, upd_same, (by rw [upd_ne hlp]; exact upd_same), hlp, Int.le_refl 0⟩ ((Keep.new hl).then_new hp)
theorem ok_law_draw {f : Addr} {fd : FuncData} (D : C8.Def K mg "_law_draw" s_law_draw f fd) (b : Binds K fd ["pool", "size"] []) (T : Txt K mg C_Checker C_GameError C_BadText C_TooLarge C_BadMove C_BadCode T_SIGNS T_ROUND_NAMES T_BRAIN_NAMES T_EFFECTS) : C8.Cal P w K mg base 1 "_law_draw" sp_law_draw [] := by
  refine cal0 D b .nil sc_law_draw (fun vs H Q E h => ?_) (fun cdv A outer s H vs Q E hr h => ?_)
  · obtain ⟨p, q, ns, bud, size, rfl, _⟩ := h
    rfl
  · obtain ⟨p, q, ns, bud, size, rfl, hs0, hs1, ⟨i1, i2, i3, i4, h1, h2, hqp, hi1⟩, k⟩ := h
    have hbig : (2147483647 : Int) > 0 := by decide
    have cdg : ∀ {i : Int}, CDivG i size := ⟨by omega, Nat.lt_trans (log2_lt9 (b := 60) (by omega) (by decide)) (by decide)⟩
    refine ⟨_, (pss_cut (ps_if (PW.pt (pw_and (pt_cmpR op_le (pe_ix ix_list (pv 0) pe_int (fun _ _ => rfl)) pe_int (nomark _)) (pw_and (pt_cmpR op_le (pe_ix ix_list (pv 0) pe_int (fun _ _ => rfl)) pe_int (nomark _)) (pw_and1 (pt_cmpR op_lt (pe_ix ix_list (pv 0) pe_int (fun _ _ => rfl)) (pe_callB call_len_seq (by rfl) T.n_len bo_len (pa_cons (pe_ix ix_list (pv 0) pe_int (fun _ _ => rfl)) pa_nil)) (nomark _))))))
  (pss_cons (ps_set (i := 2) sc_law_draw.nd rfl (by first | exact Or.inl rfl | exact Or.inr rfl) (pe_ix ix_list (pe_ix ix_list (pv 0) pe_int (fun _ _ => rfl)) (pe_ix ix_list (pv 0) pe_int (fun _ _ => rfl)) (fun _ _ => rfl)))
  (pss_cons (ps_asg (pe_op op_add (pe_ix ix_list (pv 0) pe_int (fun _ _ => rfl)) pe_int) (pg_sub (pv 0) pe_int set_list))
  (pss_cons (ps_asg (pe_op op_mod (pe_callTy call_int1 (by rfl) T.n_int bo_int (pa_cons (pe_op op_add (pe_op op_mul (pe_ix ix_list (pv 0) pe_int (fun _ _ => rfl)) pe_int) (pv 2)) pa_nil)) pe_int) (pg_sub (pv 0) pe_int set_list))
  (pss_cons (ps_asg pe_int (pg_sub (pv 0) pe_int set_list))
  (pss_one (ps_if (pt_cmpR op_ge (pv 2) (pe_op op_pow pe_int pe_int) (nomark _))
    (pss_one (ps_asg (pv 2) (pg_sub (pv 0) pe_int set_list)))
    pss_nil))))))
  pss_nil)
(pss_cons (ps_if (pt_cmpR op_gt (pe_ix ix_list (pv 0) pe_int (fun _ _ => rfl)) pe_int (nomark _))
  (pss_cons (ps_set (i := 3) sc_law_draw.nd rfl (by first | exact Or.inl rfl | exact Or.inr rfl) (pe_op op_mod (pe_callTy call_int1 (by rfl) T.n_int bo_int (pa_cons (pe_ix ix_list (pv 0) pe_int (fun _ _ => rfl)) pa_nil)) (pv 1)))
  (pss_cons (ps_asg (pe_op op_fdivG (pe_ix ix_list (pv 0) pe_int (fun _ _ => rfl)) (pv 1)) (pg_sub (pv 0) pe_int set_list))
  (pss_cons (ps_asg pe_int (pg_sub (pv 0) pe_int set_list))
  (pss_one (ps_ret (pv 3))))))
  pss_nil)
(pss_cons (ps_asg (pe_op op_sub (pe_ix ix_list (pv 0) pe_int (fun _ _ => rfl)) pe_int) (pg_sub (pv 0) pe_int set_list))
(pss_cons (ps_asg (pe_op op_mod (pe_callTy call_int1 (by rfl) T.n_int bo_int (pa_cons (pe_op op_add (pe_op op_mul (pe_ix ix_list (pv 0) pe_int (fun _ _ => rfl)) pe_int) pe_int) pa_nil)) pe_int) (pg_sub (pv 0) pe_int set_list))
(pss_one (ps_ret (pe_op op_mod (pe_op op_mod (pe_callTy call_int1 (by rfl) T.n_int bo_int (pa_cons (pe_op op_add (pe_op op_mul (pe_ix ix_list (pv 0) pe_int (fun _ _ => rfl)) pe_int) pe_int) pa_nil)) pe_int) (pv 1)))))))), ?_⟩
    -- the state between the statements
    refine ⟨fun σ H' => ∃ (c : Option V) (j1 j2 j3 j4 : Int), σ = [some (.ref p), some (.int size), c, none] ∧ H' p = some (.lst [.ref q, .int j1, .int j2, .int j3, .int j4, .int bud]) ∧ Keep [p] H H' ∧ 0 ≤ j1, ?_, ?_⟩
    · have stay : ∃ (c : Option V) (j1 j2 j3 j4 : Int), ([some (.ref p), some (.int size), none, none] : List (Option V)) = [some (.ref p), some (.int size), c, none] ∧ H p = some (.lst [.ref q, .int j1, .int j2, .int j3, .int j4, .int bud]) ∧ Keep [p] H H ∧ 0 ≤ j1 :=
        ⟨_, i1, i2, i3, i4, rfl, h1, Keep.refl _ _, hi1⟩
      refine ⟨_, rfl, _, _, _, _, rfl, rfl, SqL.of h1, rfl, _, _, rfl, rfl, _, rfl, iteD (fun _ => ?_) (fun _ => stay)⟩
      refine ⟨_, rfl, _, _, _, _, rfl, rfl, SqL.of h1, rfl, _, _, rfl, rfl, _, rfl, iteD (fun _ => ?_) (fun _ => stay)⟩
      refine ⟨_, rfl, _, _, _, _, rfl, rfl, SqL.of h1, rfl, _, rfl, _, _, _, _, rfl, rfl, SqL.of h1, rfl, _, _, rfl, .inl (SqL.of h2), _, _, rfl, rfl, _, rfl, iteD (fun hlt => ?_) (fun _ => stay)⟩
      obtain ⟨j, rfl⟩ : ∃ j : Nat, i1 = (j : Int) := ⟨i1.toNat, by omega⟩
      rw [List.length_map] at hlt
      have hj : j < ns.length := by omega
      have hc : (ns.map V.int)[j]? = some (.int ns[j]) := by rw [List.getElem?_map, List.getElem?_eq_getElem hj]; rfl
      refine ⟨_, rfl, _, _, _, _, rfl, rfl, SqL.of h1, rfl, _, rfl, _, _, _, _, rfl, rfl, SqL.of h1, rfl, _, _, _, _, rfl, rfl, SqL.of h2, atI_nat hc, ?_⟩
      refine ⟨_, rfl, _, _, _, _, rfl, rfl, SqL.of h1, rfl, _, _, rfl, rfl, _, rfl, _, _, _, _, rfl, rfl, h1, rfl, ?_⟩
      refine ⟨_, rfl, _, _, _, _, rfl, rfl, SqL.of upd_same, rfl, _, _, rfl, rfl, .inr ⟨by decide, by decide⟩, _, rfl, _, _, rfl, rfl, .inl ⟨_, rfl, _, _, rfl, rfl, hbig, _, rfl, _, _, _, _, rfl, rfl, upd_same, rfl, ?_⟩⟩
      refine ⟨_, rfl, _, _, _, _, rfl, rfl, upd_same, rfl, ?_⟩
      have kk : Keep [p] H (upd (upd (upd H p (.lst (List.set [.ref q, .int (j : Int), .int i2, .int i3, .int i4, .int bud] 1 (.int ((j : Int) + 1))))) p
        (.lst (List.set (List.set [.ref q, .int (j : Int), .int i2, .int i3, .int i4, .int bud] 1 (.int ((j : Int) + 1))) 3 (.int ((i3 * 31 + ns[j]) % 2147483647))))) p
        (.lst (List.set (List.set (List.set [.ref q, .int (j : Int), .int i2, .int i3, .int i4, .int bud] 1 (.int ((j : Int) + 1))) 3 (.int ((i3 * 31 + ns[j]) % 2147483647))) 4 (.int 7)))) :=
        ((Keep.at_ (List.mem_singleton.mpr rfl)).then_at (List.mem_singleton.mpr rfl)).then_at (List.mem_singleton.mpr rfl)
      refine ⟨_, rfl, _, _, rfl, rfl, ⟨by decide, by decide, by decide⟩, _, _, rfl, rfl, _, rfl, iteD (fun _ => ?_) (fun _ => ?_)⟩
      · refine ⟨_, rfl, _, rfl, _, _, _, _, rfl, rfl, upd_same, rfl, ?_⟩
        exact ⟨_, _, _, _, _, rfl, upd_same, kk.then_at (List.mem_singleton.mpr rfl), by omega⟩
      · exact ⟨_, _, _, _, _, rfl, upd_same, kk, by omega⟩
    · rintro σ' H' ⟨c, j1, j2, j3, j4, rfl, g1, kk, hj1⟩
      have g2 : H' q = some (.lst (ns.map V.int)) := kk q _ h2 (by simpa using hqp)
      refine ⟨_, rfl, _, _, _, _, rfl, rfl, SqL.of g1, rfl, _, _, rfl, rfl, _, rfl, iteD (fun _ => ?_) (fun _ => ?_)⟩
      · refine ⟨_, rfl, _, _, _, _, rfl, rfl, SqL.of g1, rfl, .inl ⟨_, rfl, _, rfl, _, _, rfl, rfl, hs0, ?_⟩⟩
        refine ⟨_, rfl, _, _, _, _, rfl, rfl, SqL.of g1, rfl, _, rfl, _, _, rfl, rfl, cdg, _, rfl, _, _, _, _, rfl, rfl, g1, rfl, ?_⟩
        refine ⟨_, rfl, _, _, _, _, rfl, rfl, upd_same, rfl, ?_⟩
        refine ⟨_, rfl, ?_⟩
        refine k _ _ (Int.emod_nonneg _ (by omega)) (Int.emod_lt_of_pos _ hs0) ⟨_, _, _, _, upd_same, ?_, hqp, hj1⟩ ((kk.then_at (List.mem_singleton.mpr rfl)).then_at (List.mem_singleton.mpr rfl))
        rw [upd_ne hqp, upd_ne hqp]; exact g2
      · refine ⟨_, rfl, _, _, _, _, rfl, rfl, SqL.of g1, rfl, _, _, rfl, rfl, _, rfl, _, _, _, _, rfl, rfl, g1, rfl, ?_⟩
        refine ⟨_, rfl, _, _, _, _, rfl, rfl, SqL.of upd_same, rfl, _, _, rfl, rfl, .inr ⟨by decide, by decide⟩, _, _, rfl, rfl, .inl ⟨_, rfl, _, _, rfl, rfl, hbig, _, rfl, _, _, _, _, rfl, rfl, upd_same, rfl, ?_⟩⟩
        refine ⟨_, rfl, _, _, _, _, rfl, rfl, SqL.of upd_same, rfl, _, _, rfl, rfl, .inr ⟨by decide, by decide⟩, _, _, rfl, rfl, .inl ⟨_, rfl, _, _, rfl, rfl, hbig, _, rfl, _, _, rfl, rfl, hs0, ?_⟩⟩
        refine k _ _ (Int.emod_nonneg _ (by omega)) (Int.emod_lt_of_pos _ hs0) ⟨_, _, _, _, upd_same, ?_, hqp, hj1⟩ ((kk.then_at (List.mem_singleton.mpr rfl)).then_at (List.mem_singleton.mpr rfl))
        rw [upd_ne hqp, upd_ne hqp]; exact g2
theorem ok_law_spend {f : Addr} {fd : FuncData} (D : C8.Def K mg "_law_spend" s_law_spend f fd) (b : Binds K fd ["pool"] []) (T : Txt K mg C_Checker C_GameError C_BadText C_TooLarge C_BadMove C_BadCode T_SIGNS T_ROUND_NAMES T_BRAIN_NAMES T_EFFECTS) : C8.Cal P w K mg base 1 "_law_spend" sp_law_spend [] := by
  refine cal0 D b .nil sc_law_spend (fun vs H Q E h => ?_) (fun cdv A outer s H vs Q E hr h => ?_)
  · obtain ⟨p, q, ns, bud, rfl, _⟩ := h
    rfl
  · obtain ⟨p, q, ns, bud, rfl, ⟨i1, i2, i3, i4, h1, h2, hqp, hi1⟩, k⟩ := h
    refine ⟨_, (pss_cons (ps_asg (pe_op op_sub (pe_ix ix_list (pv 0) pe_int (fun _ _ => rfl)) pe_int) (pg_sub (pv 0) pe_int set_list))
(pss_one (ps_ret (pe_cmpR op_ge (pe_ix ix_list (pv 0) pe_int (fun _ _ => rfl)) pe_int (nomark _))))), ?_⟩
    refine ⟨_, rfl, _, _, _, _, rfl, rfl, SqL.of h1, rfl, _, _, rfl, rfl, _, rfl, _, _, _, _, rfl, rfl, h1, rfl, ?_⟩
    refine ⟨_, rfl, _, _, _, _, rfl, rfl, SqL.of upd_same, rfl, _, _, rfl, rfl, ?_⟩
    exact k _ ⟨_, _, _, _, upd_same, by rw [upd_ne hqp]; exact h2, hqp, hi1⟩ (Keep.at_ (List.mem_singleton.mpr rfl))
end

/-- tuples stand -/
def TK (H H' : Hp) : Prop := ∀ b xs, H b = some (.tup xs) → H' b = some (.tup xs)
theorem TK.refl (H : Hp) : TK H H := fun _ _ h => h
theorem TK.trans {H H1 H2 : Hp} (a : TK H H1) (b : TK H1 H2) : TK H H2 := fun c xs h => b c xs (a c xs h)
theorem TK.new {H : Hp} {p : Addr} {o : HO} (h : H p = none) : TK H (upd H p o) := fun b xs q => by rw [upd_ne (ne_of_none q h)]; exact q
theorem TK.lst {H : Hp} {p : Addr} {o : HO} {ys : List V} (h : H p = some (.lst ys)) : TK H (upd H p o) := fun b xs q => by
  rw [upd_ne (ne_of q h (by intro z; cases z))]; exact q
theorem Keep.tk {H H' : Hp} (k : Keep [] H H') : TK H H' := fun b xs q => k b _ q (by simp)
theorem Keep.tk1 {H H' : Hp} {p : Addr} {ys : List V} (k : Keep [p] H H') (h : H p = some (.lst ys)) : TK H H' := fun b xs q => k b _ q (by
  have := ne_of q h (by intro z; cases z)
  simpa using this)

/-! tuples that stand, in the walk's heap or in the module's -/
def KT (K : PySem.W.Frag) (a : Addr) (xs : List V) : Prop := ∃ (o : Obj) (its : Array Value) (n : Nat), K.lookup a = some o ∧ o.cls = .type "tuple" ∧ o.data = .seq its n ∧ its.size ≤ sizeLine ∧ Vals xs its.toList
def At (K : PySem.W.Frag) (H : Hp) (a : Addr) (xs : List V) : Prop := H a = some (.tup xs) ∨ KT K a xs
theorem At.sq {K : PySem.W.Frag} {H : Hp} {a : Addr} {xs : List V} (h : At K H a xs) : SqT K H a xs := by
  rcases h with h | h
  · exact SqT.of h
  · exact .inr h
theorem At.ty {K : PySem.W.Frag} {H : Hp} {a : Addr} {xs : List V} (h : At K H a xs) : TyX K H (.ref a) (.type "tuple") := by
  rcases h with h | ⟨o, its, n, h, c, _⟩
  · exact .base (.tup h)
  · exact .kTuple h c
theorem At.tk {K : PySem.W.Frag} {H H' : Hp} {a : Addr} {xs : List V} (k : TK H H') (h : At K H a xs) : At K H' a xs := by
  rcases h with h | h
  · exact .inl (k _ _ h)
  · exact .inr h
/-! the law's look whether two values are the same: only the answer True is told -/
def SameV (K : PySem.W.Frag) : Nat → Hp → V → V → Prop
  | 0, _, _, _ => False
  | n + 1, H, a, d => (a = d ∧ ((∃ x, d = .str x) ∨ (∃ i, d = .int i) ∨ (∃ b, d = .bl b) ∨ d = .non)) ∨
    ∃ p q xs ys, a = .ref p ∧ d = .ref q ∧ ((H p = some (.lst xs) ∧ H q = some (.lst ys)) ∨ (At K H p xs ∧ At K H q ys)) ∧ xs.length = ys.length ∧ xs.length ≤ sizeLine ∧
      ∀ (i : Nat) x y, xs[i]? = some x → ys[i]? = some y → SameV K n H x y
def sp_law_same (K : PySem.W.Frag) (n : Nat) : Sp := fun vs H Q _ => ∃ a d, vs = [a, d] ∧ SameV K n H a d ∧ Q (.bl true) H
theorem sameV_atom {K : PySem.W.Frag} {n : Nat} {H : Hp} {d : V} (h : (∃ x, d = .str x) ∨ (∃ i, d = .int i) ∨ (∃ b, d = .bl b) ∨ d = .non) : SameV K (n + 1) H d d := .inl ⟨rfl, h⟩
section
variable {K : PySem.W.Frag}
theorem kLT : PySem.W.kitOne K (.type "list") (.type "tuple") = some false := kit_ty (by decide +kernel)
theorem kLL : PySem.W.kitOne K (.type "list") (.type "list") = some true := kit_ty (by decide +kernel)
theorem kTT : PySem.W.kitOne K (.type "tuple") (.type "tuple") = some true := kit_ty (by decide +kernel)
theorem kTL : PySem.W.kitOne K (.type "tuple") (.type "list") = some false := kit_ty (by decide +kernel)
theorem kST : PySem.W.kitOne K (.type "str") (.type "tuple") = some false := kit_ty (by decide +kernel)
theorem kSL : PySem.W.kitOne K (.type "str") (.type "list") = some false := kit_ty (by decide +kernel)
theorem kSB : PySem.W.kitOne K (.type "str") (.type "bool") = some false := kit_ty (by decide +kernel)
theorem kSI : PySem.W.kitOne K (.type "str") (.type "int") = some false := kit_ty (by decide +kernel)
theorem kSS : PySem.W.kitOne K (.type "str") (.type "str") = some true := kit_ty (by decide +kernel)
theorem kIT : PySem.W.kitOne K (.type "int") (.type "tuple") = some false := kit_ty (by decide +kernel)
theorem kIL : PySem.W.kitOne K (.type "int") (.type "list") = some false := kit_ty (by decide +kernel)
theorem kIB : PySem.W.kitOne K (.type "int") (.type "bool") = some false := kit_ty (by decide +kernel)
theorem kII : PySem.W.kitOne K (.type "int") (.type "int") = some true := kit_ty (by decide +kernel)
theorem kBT : PySem.W.kitOne K (.type "bool") (.type "tuple") = some false := kit_ty (by decide +kernel)
theorem kBL : PySem.W.kitOne K (.type "bool") (.type "list") = some false := kit_ty (by decide +kernel)
theorem kBB : PySem.W.kitOne K (.type "bool") (.type "bool") = some true := kit_ty (by decide +kernel)
theorem kBI : PySem.W.kitOne K (.type "bool") (.type "int") = some true := kit_ty (by decide +kernel)
theorem kNT : PySem.W.kitOne K (.type "NoneType") (.type "tuple") = some false := kit_ty (by decide +kernel)
theorem kNL : PySem.W.kitOne K (.type "NoneType") (.type "list") = some false := kit_ty (by decide +kernel)
theorem kNB : PySem.W.kitOne K (.type "NoneType") (.type "bool") = some false := kit_ty (by decide +kernel)
theorem kNI : PySem.W.kitOne K (.type "NoneType") (.type "int") = some false := kit_ty (by decide +kernel)
end

section
variable {P : Program} {w : World} {K : PySem.W.Frag} {mg : Str → Option Value} {base : Heap} {C_Checker : Addr} {C_GameError : Addr} {C_BadText : Addr} {C_TooLarge : Addr} {C_BadMove : Addr} {C_BadCode : Addr} {f_BadCode___init : Addr} {T_SIGNS : Addr} {T_ROUND_NAMES : Addr} {T_BRAIN_NAMES : Addr} {T_EFFECTS : Addr}
theorem ok_law_same0 {f : Addr} {fd : FuncData} (D : C8.Def K mg "_law_same" s_law_same f fd) (b : Binds K fd ["actual", "due"] []) : C8.Cal P w K mg base 0 "_law_same" (sp_law_same K 0) [] :=
  ⟨f, fd, ["actual", "due"], [], ⟨fun vs H Q E h => (by obtain ⟨a, d, rfl, _⟩ := h; rfl), fun A outer s H args us vs Q E _ _ _ _ h => (by obtain ⟨a, d, _, z, _⟩ := h; exact z.elim)⟩, D.mgf, D.kp, b, .nil⟩
theorem ok_law_same {f : Addr} {fd : FuncData} (D : C8.Def K mg "_law_same" s_law_same f fd) (b : Binds K fd ["actual", "due"] []) (T : Txt K mg C_Checker C_GameError C_BadText C_TooLarge C_BadMove C_BadCode T_SIGNS T_ROUND_NAMES T_BRAIN_NAMES T_EFFECTS) {n k : Nat} (c_law_same : C8.Cal P w K mg base k "_law_same" (sp_law_same K n) []) :
    C8.Cal P w K mg base (k + 1) "_law_same" (sp_law_same K (n + 1)) [] := by
  refine cal0 D b .nil sc_law_same (fun vs H Q E h => ?_) (fun cdv A outer s H vs Q E hr h => ?_)
  · obtain ⟨a, d, rfl, _⟩ := h
    rfl
  · obtain ⟨a, d, rfl, hs, k⟩ := h
    have hu := hu_of hr
    refine ⟨_, (pss_cons (ps_if (PW.pt (pw_or (pt_val (pe_callB call_isi (by rfl) T.n_isinstance bo_isinstance (pa_cons (pv 1) (pa_cons (pe_bltn (v := .ty "tuple") (by rfl) T.n_tuple bo_tuple rfl) pa_nil)))) (pw_or1 (pt_val (pe_callB call_isi (by rfl) T.n_isinstance bo_isinstance (pa_cons (pv 1) (pa_cons (pe_bltn (v := .ty "list") (by rfl) T.n_list bo_list rfl) pa_nil)))))))
  (pss_cons (ps_if (PW.pt (pw_or (pt_cmpR op_ne (pe_callB call_isi (by rfl) T.n_isinstance bo_isinstance (pa_cons (pv 1) (pa_cons (pe_bltn (v := .ty "tuple") (by rfl) T.n_tuple bo_tuple rfl) pa_nil))) (pe_callB call_isi (by rfl) T.n_isinstance bo_isinstance (pa_cons (pv 0) (pa_cons (pe_bltn (v := .ty "tuple") (by rfl) T.n_tuple bo_tuple rfl) pa_nil))) (nomark _)) (pw_or1 (pt_cmpR op_ne (pe_callB call_isi (by rfl) T.n_isinstance bo_isinstance (pa_cons (pv 1) (pa_cons (pe_bltn (v := .ty "list") (by rfl) T.n_list bo_list rfl) pa_nil))) (pe_callB call_isi (by rfl) T.n_isinstance bo_isinstance (pa_cons (pv 0) (pa_cons (pe_bltn (v := .ty "list") (by rfl) T.n_list bo_list rfl) pa_nil))) (nomark _)))))
    (pss_one (ps_ret pe_bl))
    pss_nil)
  (pss_cons (ps_if (pt_cmpR op_ne (pe_callB call_len_seq (by rfl) T.n_len bo_len (pa_cons (pv 0) pa_nil)) (pe_callB call_len_seq (by rfl) T.n_len bo_len (pa_cons (pv 1) pa_nil)) (nomark _))
    (pss_one (ps_ret pe_bl))
    pss_nil)
  (pss_cons (ps_for PassesOwn.never rfl (pi_range1 (by rfl) T.n_range (pa_cons (pe_callB call_len_seq (by rfl) T.n_len bo_len (pa_cons (pv 1) pa_nil)) pa_nil)) (pg_name (i := 2) sc_law_same.nd rfl (by first | exact Or.inl rfl | exact Or.inr rfl))
    (pss_one (ps_if (pt_not (pt_val (pe_c c_law_same hr (by first | exact Nat.le_refl _ | decide) rfl (pa_cons (pe_ix ix_seq (pv 0) (pv 2) (fun _ _ => rfl)) (pa_cons (pe_ix ix_seq (pv 1) (pv 2) (fun _ _ => rfl)) pa_nil)))))
      (pss_one (ps_ret pe_bl))
      pss_nil)))
  (pss_one (ps_ret pe_bl)))))
  pss_nil)
(pss_cons (ps_if (PW.pt (pw_or (pt_cmpR op_isN (pv 1) pe_non (nomark _)) (pw_or1 (pt_val (pe_callB call_isi (by rfl) T.n_isinstance bo_isinstance (pa_cons (pv 1) (pa_cons (pe_bltn (v := .ty "bool") (by rfl) T.n_bool bo_bool rfl) pa_nil)))))))
  (pss_one (ps_ret (pe_and (pe_cmpR op_eq (pe_cmpR op_isN (pv 0) pe_non (nomark _)) (pe_cmpR op_isN (pv 1) pe_non (nomark _)) (nomark _)) (pe_and (pe_or (pe_cmpR op_isN (pv 1) pe_non (nomark _)) (pe_one (pe_callB call_isi (by rfl) T.n_isinstance bo_isinstance (pa_cons (pv 0) (pa_cons (pe_bltn (v := .ty "bool") (by rfl) T.n_bool bo_bool rfl) pa_nil))))) (pe_one (pe_cmpR op_eq (pv 0) (pv 1) (nomark _)))))))
  pss_nil)
(pss_cons (ps_if (pt_val (pe_callB call_isi (by rfl) T.n_isinstance bo_isinstance (pa_cons (pv 1) (pa_cons (pe_bltn (v := .ty "int") (by rfl) T.n_int bo_int rfl) pa_nil))))
  (pss_one (ps_ret (pe_and (pe_callB call_isi (by rfl) T.n_isinstance bo_isinstance (pa_cons (pv 0) (pa_cons (pe_bltn (v := .ty "int") (by rfl) T.n_int bo_int rfl) pa_nil))) (pe_and (pe_not (pe_callB call_isi (by rfl) T.n_isinstance bo_isinstance (pa_cons (pv 0) (pa_cons (pe_bltn (v := .ty "bool") (by rfl) T.n_bool bo_bool rfl) pa_nil)))) (pe_one (pe_cmpR op_eq (pv 0) (pv 1) (nomark _)))))))
  pss_nil)
(pss_one (ps_ret (pe_and (pe_callB call_isi (by rfl) T.n_isinstance bo_isinstance (pa_cons (pv 0) (pa_cons (pe_bltn (v := .ty "str") (by rfl) T.n_str bo_str rfl) pa_nil))) (pe_one (pe_cmpR op_eq (pv 0) (pv 1) (nomark _))))))))), ?_⟩
    -- the part behind the lengths, for lists and for tuples
    rcases hs with ⟨rfl, ⟨x, rfl⟩ | ⟨x, rfl⟩ | ⟨x, rfl⟩ | rfl⟩ | ⟨p, q, xs, ys, rfl, rfl, hh, hl, hz, hall⟩
    · refine ⟨_, rfl, _, _, _, _, _, rfl, .ty _, .base (.str x), kST, _, rfl, iteF ⟨_, rfl, _, _, _, _, _, rfl, .ty _, .base (.str x), kSL, _, rfl, iteF ?_⟩⟩
      refine ⟨_, rfl, rfl, _, rfl, iteDF (by simp) ⟨_, rfl, _, _, _, _, _, rfl, .ty _, .base (.str x), kSB, _, rfl, iteF ?_⟩⟩
      refine ⟨_, rfl, _, _, _, _, _, rfl, .ty _, .base (.str x), kSI, _, rfl, iteF ?_⟩
      refine ⟨_, rfl, _, _, _, _, _, rfl, .ty _, .base (.str x), kSS, _, rfl, iteT ⟨_, rfl, _, rfl, rfl, ?_⟩⟩
      rw [decide_eq_true rfl]; exact k
    · refine ⟨_, rfl, _, _, _, _, _, rfl, .ty _, .base (.int x), kIT, _, rfl, iteF ⟨_, rfl, _, _, _, _, _, rfl, .ty _, .base (.int x), kIL, _, rfl, iteF ?_⟩⟩
      refine ⟨_, rfl, rfl, _, rfl, iteDF (by simp) ⟨_, rfl, _, _, _, _, _, rfl, .ty _, .base (.int x), kIB, _, rfl, iteF ?_⟩⟩
      refine ⟨_, rfl, _, _, _, _, _, rfl, .ty _, .base (.int x), kII, _, rfl, iteT ?_⟩
      refine ⟨_, rfl, _, _, _, _, _, rfl, .ty _, .base (.int x), kII, _, rfl, iteT ⟨_, rfl, _, _, _, _, _, rfl, .ty _, .base (.int x), kIB, _, rfl, _, rfl, iteT ⟨_, rfl, _, rfl, rfl, ?_⟩⟩⟩
      rw [decide_eq_true rfl]; exact k
    · refine ⟨_, rfl, _, _, _, _, _, rfl, .ty _, .base (.bl x), kBT, _, rfl, iteF ⟨_, rfl, _, _, _, _, _, rfl, .ty _, .base (.bl x), kBL, _, rfl, iteF ?_⟩⟩
      refine ⟨_, rfl, rfl, _, rfl, iteDF (by simp) ⟨_, rfl, _, _, _, _, _, rfl, .ty _, .base (.bl x), kBB, _, rfl, iteT ?_⟩⟩
      refine ⟨_, rfl, rfl, _, rfl, rfl, rfl, _, rfl, iteDT (by simp) ?_⟩
      refine ⟨_, rfl, rfl, _, rfl, iteDF (by simp) ?_⟩
      refine ⟨_, rfl, _, _, _, _, _, rfl, .ty _, .base (.bl x), kBB, ?_⟩
      refine ⟨_, rfl, iteT ⟨_, rfl, _, rfl, rfl, ?_⟩⟩
      rw [decide_eq_true rfl]; exact k
    · refine ⟨_, rfl, _, _, _, _, _, rfl, .ty _, .base .non, kNT, _, rfl, iteF ⟨_, rfl, _, _, _, _, _, rfl, .ty _, .base .non, kNL, _, rfl, iteF ?_⟩⟩
      refine ⟨_, rfl, rfl, _, rfl, iteDT (by simp) ?_⟩
      refine ⟨_, rfl, rfl, _, rfl, rfl, rfl, _, rfl, iteDT (by simp) ?_⟩
      refine ⟨_, rfl, rfl, _, rfl, iteDT (by simp) ?_⟩
      refine ⟨_, rfl, iteT ⟨_, rfl, _, rfl, rfl, ?_⟩⟩
      rw [decide_eq_true rfl]; exact k
    · obtain ⟨t, b1, b2, ty1, ty2, k1, k2, hb, sq⟩ : ∃ (t : Value) (b1 b2 : Bool), TyX K H (.ref p) t ∧ TyX K H (.ref q) t ∧ PySem.W.kitOne K t (.type "tuple") = some b1 ∧ PySem.W.kitOne K t (.type "list") = some b2 ∧ (b1 = true ∨ b2 = true) ∧
          ((SqL K H p xs ∧ SqL K H q ys) ∨ (SqT K H p xs ∧ SqT K H q ys)) := by
        rcases hh with ⟨h1, h2⟩ | ⟨h1, h2⟩
        · exact ⟨_, _, _, .base (.lst h1), .base (.lst h2), kLT, kLL, .inr rfl, .inl ⟨SqL.of h1, SqL.of h2⟩⟩
        · exact ⟨_, _, _, h1.ty, h2.ty, kTT, kTL, .inl rfl, .inr ⟨h1.sq, h2.sq⟩⟩
      have sqp : SqL K H p xs ∨ SqT K H p xs := sq.elim (fun z => .inl z.1) fun z => .inr z.1
      have sqq : SqL K H q ys ∨ SqT K H q ys := sq.elim (fun z => .inl z.2) fun z => .inr z.2
      have bz : (ys.length : Int) < 2 ^ 62 := by
        have e : sizeLine = 16777216 := sizeLine_eq
        have : ys.length ≤ 16777216 := by omega
        omega
      -- the part behind the first test
      have rest : ∀ {D : Ends} {t1 : TS}, t1 D [some (.ref p), some (.ref q), none] H → t1 D [some (.ref p), some (.ref q), none] H := fun z => z
      refine ⟨_, rfl, _, _, _, _, _, rfl, .ty _, ty2, k1, _, rfl, iteB (fun e1 => ?_) (fun e1 => ⟨_, rfl, _, _, _, _, _, rfl, .ty _, ty2, k2, _, rfl, iteB (fun e2 => ?_) (fun e2 => ?_)⟩)⟩
      rotate_left 2
      · rcases hb with z | z
        · rw [e1] at z; cases z
        · rw [e2] at z; cases z
      all_goals
        refine ⟨_, rfl, _, _, _, _, _, rfl, .ty _, ty2, k1, _, rfl, _, _, _, _, _, rfl, .ty _, ty1, k1, rfl, _, rfl, iteNF (by simp) ?_⟩
        refine ⟨_, rfl, _, _, _, _, _, rfl, .ty _, ty2, k2, _, rfl, _, _, _, _, _, rfl, .ty _, ty1, k2, rfl, _, rfl, iteNF (by simp) ?_⟩
        refine ⟨_, rfl, _, _, rfl, sqp, _, rfl, _, _, rfl, sqq, rfl, _, rfl, iteNF (by rw [hl]) ?_⟩
        refine ⟨_, rfl, _, _, rfl, sqq, _, rfl, by omega, bz, for_range (lo := 0) (n := ys.length) (fun i σ H' => ∃ kv, σ = [some (.ref p), some (.ref q), kv] ∧ H' = H) ⟨none, rfl, rfl⟩ ?_ ?_⟩
        · rintro i σ H' hi ⟨kv, rfl, rfl⟩
          have hx : xs[i]? = some (xs[i]'(by omega)) := List.getElem?_eq_getElem _
          have hy : ys[i]? = some ys[i] := List.getElem?_eq_getElem _
          have e0 : (0 : Int) + (i : Int) = (i : Int) := by omega
          rw [e0]
          rcases sq with ⟨s1, s2⟩ | ⟨s1, s2⟩
          · refine ⟨_, rfl, _, rfl, .inl ⟨_, _, _, _, rfl, rfl, s1, atI_nat hx, _, rfl, _, rfl, .inl ⟨_, _, _, _, rfl, rfl, s2, atI_nat hy, ?_⟩⟩⟩
            exact ⟨_, _, rfl, hall i _ _ hx hy, _, rfl, iteF ⟨_, rfl, rfl⟩⟩
          · refine ⟨_, rfl, _, rfl, .inr (.inl ⟨_, _, _, _, rfl, rfl, s1, atI_nat hx, _, rfl, _, rfl, .inr (.inl ⟨_, _, _, _, rfl, rfl, s2, atI_nat hy, ?_⟩)⟩)⟩
            exact ⟨_, _, rfl, hall i _ _ hx hy, _, rfl, iteF ⟨_, rfl, rfl⟩⟩
        · rintro σ H' ⟨kv, rfl, rfl⟩
          exact k
end

/-! codes, in plain words -/
abbrev Ins := Str × Int
def allNm : List Str := ["push", "load", "store", "sign", "jump", "skip", "lot", "end", "ask", "show", "pay", "take", "view", "long", "unit", "back"]
def nmsOf (brain : Bool) : List Str := if brain then ["push", "load", "store", "sign", "jump", "skip", "lot", "end", "view", "long", "unit", "back"] else ["push", "load", "store", "sign", "jump", "skip", "lot", "end", "ask", "show", "pay", "take"]
def fitsA (n : Str) (a slots moves : Int) : Bool :=
  if n = "push" then decide (0 ≤ a ∧ a ≤ 65535) else if n = "load" ∨ n = "store" then decide (0 ≤ a ∧ a < slots) else if n = "sign" then decide (0 ≤ a ∧ a < 7) else if n = "show" then decide (0 ≤ a ∧ a ≤ 2)
  else if n = "ask" then decide (0 ≤ a ∧ a < moves) else if n = "jump" ∨ n = "skip" ∨ n = "back" then decide (a ≥ 0) else decide (a = 0)
def tgts (at_ : Int) (n : Str) (a : Int) : List Int := if n = "end" ∨ n = "back" then [] else if n = "jump" then [at_ + 1 + a] else if n = "skip" then [at_ + 1, at_ + 1 + a] else [at_ + 1]
def eff (n : Str) : Int × Int :=
  if n = "push" ∨ n = "load" ∨ n = "ask" ∨ n = "long" then (0, 1) else if n = "store" ∨ n = "skip" ∨ n = "show" ∨ n = "pay" ∨ n = "take" then (1, 0) else if n = "sign" then (2, 1) else if n = "lot" ∨ n = "view" then (1, 1) else (0, 0)
abbrev Hts := Int → Option Int
def setH (h : Hts) (i v : Int) : Hts := fun j => if j = i then some v else h j
/-- the heights at the targets -/
def reach (len : Nat) (v : Int) : List Int → Hts → Option Hts
  | [], h => some h
  | t :: ts, h => if t ≥ (len : Int) ∨ (h t).getD v ≠ v then none else reach len v ts (setH h t v)
def backOk (cs : List Ins) (h : Hts) (i t : Int) : Bool := decide (0 ≤ t ∧ t < i) && decide (cs[t.toNat]? = some (("unit" : Str), (0 : Int))) && decide (h t = h i)
def b2i' (b : Bool) : Int := if b then 1 else 0
/-- one place of a code -/
def good1 (cs : List Ins) (slots moves : Int) (brain : Bool) (i : Int) (n : Str) (a : Int) (h : Hts) (top : Int) : Option (Hts × Int) :=
  match h i with
  | none => none
  | some v =>
    if n ∉ nmsOf brain then none else if fitsA n a slots moves = false then none
    else if v < (eff n).1 ∨ v - (eff n).1 + (eff n).2 > 16 then none
    else
      let w := v - (eff n).1 + (eff n).2
      let top' := if w > top then w else top
      if n = "end" then (if v = b2i' brain then some (h, top') else none)
      else if n = "back" then (if backOk cs h i (i - a) = true then some (h, top') else none)
      else (reach cs.length w (tgts i n a) h).map fun h' => (h', top')
def h0 : Hts := fun j => if j = 0 then some 0 else none
/-- the first i places -/
def upto (cs : List Ins) (slots moves : Int) (brain : Bool) : Nat → Option (Hts × Int)
  | 0 => some (h0, 0)
  | i + 1 => match upto cs slots moves brain i, cs[i]? with
    | some s, some p => good1 cs slots moves brain (i : Int) p.1 p.2 s.1 s.2
    | _, _ => none
/-! codes in the heap -/
inductive Prs (H : Hp) : List V → List Ins → Prop
  | nil : Prs H [] []
  | cons {t : Addr} {n : Str} {a : Int} {vs : List V} {l : List Ins} : H t = some (.tup [.str n, .int a]) → Prs H vs l → Prs H (.ref t :: vs) ((n, a) :: l)
theorem Prs.tk {H H' : Hp} (k : TK H H') {vs : List V} {l : List Ins} (h : Prs H vs l) : Prs H' vs l := by
  induction h with
  | nil => exact .nil
  | cons h _ ih => exact .cons (k _ _ h) ih
theorem Prs.app {H : Hp} {vs us : List V} {l m : List Ins} (h : Prs H vs l) (g : Prs H us m) : Prs H (vs ++ us) (l ++ m) := by
  induction h with
  | nil => exact g
  | cons h _ ih => exact .cons h ih
theorem Prs.len {H : Hp} {vs : List V} {l : List Ins} (h : Prs H vs l) : vs.length = l.length := by
  induction h with
  | nil => rfl
  | cons _ _ ih => rw [List.length_cons, List.length_cons, ih]
theorem Prs.get {H : Hp} {vs : List V} {l : List Ins} (h : Prs H vs l) : ∀ {i : Nat} {n : Str} {a : Int}, l[i]? = some (n, a) → ∃ t, vs[i]? = some (.ref t) ∧ H t = some (.tup [.str n, .int a]) := by
  induction h with
  | nil => intro i n a h; simp at h
  | cons h _ ih =>
    intro i n a hv
    cases i with
    | zero => simp at hv; obtain ⟨rfl, rfl⟩ := hv; exact ⟨_, rfl, h⟩
    | succ i => simpa using ih (by simpa using hv)
theorem Prs.take {H : Hp} {vs : List V} {l : List Ins} (h : Prs H vs l) : ∀ (i : Nat), Prs H (vs.take i) (l.take i) := by
  induction h with
  | nil => intro i; simp; exact .nil
  | cons h _ ih =>
    intro i
    cases i with
    | zero => exact .nil
    | succ i => exact .cons h (ih i)
theorem Prs.drop {H : Hp} {vs : List V} {l : List Ins} (h : Prs H vs l) : ∀ (i : Nat), Prs H (vs.drop i) (l.drop i) := by
  induction h with
  | nil => intro i; simp; exact .nil
  | cons h h2 ih =>
    intro i
    cases i with
    | zero => exact .cons h h2
    | succ i => exact ih i
/-- a code, as a list or as a tuple -/
def CodeAt (H : Hp) (c : Addr) (cs : List Ins) : Prop := ∃ xs, (H c = some (.lst xs) ∨ H c = some (.tup xs)) ∧ Prs H xs cs
theorem CodeAt.keep {H H' : Hp} {c : Addr} {cs : List Ins} {W : List Addr} (h : CodeAt H c cs) (k : Keep W H H') (t : TK H H') (w : c ∉ W) : CodeAt H' c cs := by
  obtain ⟨xs, h1, h2⟩ := h
  exact ⟨xs, h1.elim (fun z => .inl (k _ _ z w)) fun z => .inr (k _ _ z w), h2.tk t⟩
/-- the names that a code may hold -/
def NmOk (cs : List Ins) : Prop := ∀ p ∈ cs, p.1 ∈ allNm ++ (["", "halt", "push ", "pushes"] : List Str)
/-- the heights, as the dict has them -/
def HtsAt (H : Hp) (d : Addr) (h : Hts) (m : Nat) : Prop := ∃ kvs : List (Key × V), H d = some (.dK kvs) ∧ kvs.length ≤ m ∧ ∀ i : Int, valV kvs (.inl i) = (h i).map V.int
theorem HtsAt.get {H : Hp} {d : Addr} {h : Hts} {m : Nat} (x : HtsAt H d h m) (i : Int) : DGet H d (.int i) ((h i).map V.int) := by
  obtain ⟨kvs, h1, _, h3⟩ := x
  rw [← h3]
  exact DGet.k (k := .inl i) h1
theorem HtsAt.put {H : Hp} {d : Addr} {h : Hts} {m : Nat} (x : HtsAt H d h m) (i v : Int) (hm : m < 1000000) : ∃ H', DPut H d (.int i) (.int v) H' ∧ HtsAt H' d (setH h i v) (m + 1) ∧ (∃ o, H d = some o ∧ ∃ kvs, o = .dK kvs) ∧ ∃ o', H' = upd H d o' := by
  obtain ⟨kvs, h1, h2, h3⟩ := x
  refine ⟨_, DPut.k (k := .inl i) h1 (smallL (by omega)), ⟨_, upd_same, ?_, fun j => ?_⟩, ⟨_, h1, _, rfl⟩, _, rfl⟩
  · have := length_putK kvs (.inl i) (.int v)
    omega
  · rw [valV_put]
    unfold setH
    by_cases e : j = i
    · subst e; rw [if_pos rfl, if_pos rfl]; rfl
    · rw [if_neg (fun z => e (Sum.inl.inj z)), if_neg e, h3]
def chkF (c d : Addr) (slots moves : Int) (brain : Bool) (top : Int) : List (Str × V) := [("code", .ref c), ("slots", .int slots), ("moves", .int moves), ("thinking", .bl brain), ("heights", .ref d), ("highest", .int top)]
/-- a Checker at x -/
structure ChkAt (C : Addr) (H : Hp) (x c d : Addr) (cs : List Ins) (slots moves : Int) (brain : Bool) (h : Hts) (top : Int) (m : Nat) : Prop where
  o : ∃ dx, H x = some (.ins C dx (chkF c d slots moves brain top))
  c : CodeAt H c cs
  d : HtsAt H d h m
theorem inV_strs (z : Str) : ∀ ys : List Str, inV (.str z) (ys.map V.str) = decide (z ∈ ys)
  | [] => rfl
  | y :: r => by
    have ih := inV_strs z r
    unfold inV at ih ⊢
    rw [List.map_cons, List.any_cons, ih]
    have e : eqV (.str y) (.str z) = decide (y = z) := by
      show (y == z) = _
      by_cases h : y = z
      · subst h; simp
      · simp [h]
    rw [e]
    by_cases h : z = y
    · subst h; simp
    · have h' : ¬ y = z := fun q => h q.symm
      simp [h, h']
theorem flat_strs (ys : List Str) : (ys.map V.str).all flatV = true := by
  rw [List.all_eq_true]
  intro x hx
  obtain ⟨y, _, rfl⟩ := List.mem_map.mp hx
  rfl
/-! the defs -/
def sp_fits (K : PySem.W.Frag) : Sp := fun vs H Q _ => ∃ (t : Addr) (n : Str) (a slots moves : Int), vs = [.ref t, .int slots, .int moves] ∧ H t = some (.tup [.str n, .int a]) ∧ Q (.bl (fitsA n a slots moves)) H
def sp_tgts (K : PySem.W.Frag) : Sp := fun vs H Q _ => ∃ (t : Addr) (n : Str) (a i : Int), vs = [.int i, .ref t] ∧ H t = some (.tup [.str n, .int a]) ∧ ∀ l H', H l = none → H' l = some (.lst ((tgts i n a).map V.int)) → Keep [] H H' → Q (.ref l) H'
theorem boolQ {Q : Bool → Prop} {p q : Bool} (h : p = q) (k : Q p) : Q q := h ▸ k
section
variable {P : Program} {w : World} {K : PySem.W.Frag} {mg : Str → Option Value} {base : Heap} {C_Checker : Addr} {C_GameError : Addr} {C_BadText : Addr} {C_TooLarge : Addr} {C_BadMove : Addr} {C_BadCode : Addr} {f_BadCode___init : Addr} {T_SIGNS : Addr} {T_ROUND_NAMES : Addr} {T_BRAIN_NAMES : Addr} {T_EFFECTS : Addr}
theorem ok_fits {f : Addr} {fd : FuncData} (D : C8.Def K mg "argument_fits" s_argument_fits f fd) (b : Binds K fd ["instruction", "slots", "moves"] []) (T : Txt K mg C_Checker C_GameError C_BadText C_TooLarge C_BadMove C_BadCode T_SIGNS T_ROUND_NAMES T_BRAIN_NAMES T_EFFECTS) : C8.Cal P w K mg base 1 "argument_fits" (sp_fits K) [] := by
  refine cal0 D b .nil sc_argument_fits (fun vs H Q E h => ?_) (fun cdv A outer s H vs Q E hr h => ?_)
  · obtain ⟨t, n, a, sl, mo, rfl, _⟩ := h
    rfl
  · obtain ⟨t, n, a, sl, mo, rfl, ht, k⟩ := h
    refine ⟨_, (pss_cons (ps_asg (pv 0) (pg_tup (by rfl) (pgs_cons (pg_name (i := 3) sc_argument_fits.nd rfl (by first | exact Or.inl rfl | exact Or.inr rfl)) (pgs_cons (pg_name (i := 4) sc_argument_fits.nd rfl (by first | exact Or.inl rfl | exact Or.inr rfl)) pgs_nil))))
(pss_cons (ps_if (pt_cmpR op_eq (pv 3) pe_str (nomark _))
  (pss_one (ps_ret (pe_chain op_le op_le pe_int (pv 4) (pe_gc rfl T.v_GREATEST))))
  pss_nil)
(pss_cons (ps_if (PW.pt (pw_or (pt_cmpR op_eq (pv 3) pe_str (nomark _)) (pw_or1 (pt_cmpR op_eq (pv 3) pe_str (nomark _)))))
  (pss_one (ps_ret (pe_chain op_le op_lt pe_int (pv 4) (pv 1))))
  pss_nil)
(pss_cons (ps_if (pt_cmpR op_eq (pv 3) pe_str (nomark _))
  (pss_one (ps_ret (pe_chain op_le op_lt pe_int (pv 4) (pe_callB call_len_seq (by rfl) T.n_len bo_len (pa_cons (pe_gc rfl T.v_SIGNS) pa_nil)))))
  pss_nil)
(pss_cons (ps_if (pt_cmpR op_eq (pv 3) pe_str (nomark _))
  (pss_one (ps_ret (pe_chain op_le op_le pe_int (pv 4) pe_int)))
  pss_nil)
(pss_cons (ps_if (pt_cmpR op_eq (pv 3) pe_str (nomark _))
  (pss_one (ps_ret (pe_chain op_le op_lt pe_int (pv 4) (pv 2))))
  pss_nil)
(pss_cons (ps_if (PW.pt (pw_or (pt_cmpR op_eq (pv 3) pe_str (nomark _)) (pw_or (pt_cmpR op_eq (pv 3) pe_str (nomark _)) (pw_or1 (pt_cmpR op_eq (pv 3) pe_str (nomark _))))))
  (pss_one (ps_ret (pe_cmpR op_ge (pv 4) pe_int (nomark _))))
  pss_nil)
(pss_one (ps_ret (pe_cmpR op_eq (pv 4) pe_int (nomark _))))))))))), ?_⟩
    unfold fitsA at k
    refine ⟨_, rfl, t, _, rfl, SqT.of ht, rfl, _, _, rfl, _, _, rfl, rfl, ?_⟩
    have ch : ∀ {p q : Prop} [Decidable p] [Decidable q], p → decide (p ∧ q) = decide q := fun hp => by simp [hp]
    have cf : ∀ {p q : Prop} [Decidable p] [Decidable q], ¬ p → decide (p ∧ q) = false := fun hp => by simp [hp]
    have two : ∀ {lo hi : Prop} [Decidable lo] [Decidable hi], Q (.bl (decide (lo ∧ hi))) H → (lo → Q (.bl (decide hi)) H) ∧ (¬ lo → Q (.bl false) H) := fun z => ⟨fun hp => by rwa [ch hp] at z, fun hp => by rwa [cf hp] at z⟩
    have ne : ∀ {y : Str}, ¬ V.str n = V.str y → ¬ n = y := fun h z => h (congrArg V.str z)
    refine ⟨_, rfl, rfl, _, rfl, iteD (fun e => ?_) (fun e => ?_)⟩
    · rw [if_pos (V.str.inj e)] at k
      exact ⟨_, rfl, _, _, rfl, rfl, _, rfl, iteD (fun h => ⟨_, _, rfl, rfl, (two k).1 h⟩) (fun h => (two k).2 h)⟩
    rw [if_neg (ne e)] at k
    have slotsCase : (n = "load" ∨ n = "store") → ∃ x, some (some (V.int a)) = some (some x) ∧ ∃ i j : Int, V.int 0 = .int i ∧ x = .int j ∧ ∃ c, V.bl (decide (i ≤ j)) = .bl c ∧ if c = true then ∃ y, some (some (V.int sl)) = some (some y) ∧ ∃ i' j' : Int, x = .int i' ∧ y = .int j' ∧ Q (.bl (decide (i' < j'))) H else Q (.bl false) H := fun e2 => by
      rw [if_pos e2] at k
      exact ⟨_, rfl, _, _, rfl, rfl, _, rfl, iteD (fun h => ⟨_, rfl, _, _, rfl, rfl, (two k).1 h⟩) (fun h => (two k).2 h)⟩
    refine ⟨_, rfl, rfl, _, rfl, iteD (fun e => slotsCase (.inl (V.str.inj e))) (fun e => ⟨_, rfl, rfl, _, rfl, iteD (fun e2 => slotsCase (.inr (V.str.inj e2))) (fun e2 => ?_)⟩)⟩
    rw [if_neg (fun z => z.elim (ne e) (ne e2))] at k
    refine ⟨_, rfl, rfl, _, rfl, iteD (fun e => ?_) (fun e => ?_)⟩
    · rw [if_pos (V.str.inj e)] at k
      exact ⟨_, rfl, _, _, rfl, rfl, _, rfl, iteD (fun h => ⟨_, _, rfl, .inr (T.q_SIGNS _), _, _, rfl, rfl, (two k).1 h⟩) (fun h => (two k).2 h)⟩
    rw [if_neg (ne e)] at k
    refine ⟨_, rfl, rfl, _, rfl, iteD (fun e => ?_) (fun e => ?_)⟩
    · rw [if_pos (V.str.inj e)] at k
      exact ⟨_, rfl, _, _, rfl, rfl, _, rfl, iteD (fun h => ⟨_, _, rfl, rfl, (two k).1 h⟩) (fun h => (two k).2 h)⟩
    rw [if_neg (ne e)] at k
    refine ⟨_, rfl, rfl, _, rfl, iteD (fun e => ?_) (fun e => ?_)⟩
    · rw [if_pos (V.str.inj e)] at k
      exact ⟨_, rfl, _, _, rfl, rfl, _, rfl, iteD (fun h => ⟨_, rfl, _, _, rfl, rfl, (two k).1 h⟩) (fun h => (two k).2 h)⟩
    rw [if_neg (ne e)] at k
    have geCase : (n = "jump" ∨ n = "skip" ∨ n = "back") → Q (.bl (decide (a ≥ 0))) H := fun e2 => by rwa [if_pos e2] at k
    refine ⟨_, rfl, rfl, _, rfl, iteD (fun e => ⟨_, rfl, _, _, rfl, rfl, geCase (.inl (V.str.inj e))⟩) (fun e => ⟨_, rfl, rfl, _, rfl, iteD (fun e2 => ⟨_, rfl, _, _, rfl, rfl, geCase (.inr (.inl (V.str.inj e2)))⟩) (fun e2 => ⟨_, rfl, rfl, _, rfl, iteD (fun e3 => ⟨_, rfl, _, _, rfl, rfl, geCase (.inr (.inr (V.str.inj e3)))⟩) (fun e3 => ?_)⟩)⟩)⟩
    rw [if_neg (fun z => z.elim (ne e) fun z => z.elim (ne e2) (ne e3))] at k
    refine ⟨_, rfl, rfl, ?_⟩
    have : decide (V.int a = V.int 0) = decide (a = 0) := by simp
    rw [this]; exact k
theorem ok_tgts {f : Addr} {fd : FuncData} (D : C8.Def K mg "targets_of" s_targets_of f fd) (b : Binds K fd ["at", "instruction"] []) (T : Txt K mg C_Checker C_GameError C_BadText C_TooLarge C_BadMove C_BadCode T_SIGNS T_ROUND_NAMES T_BRAIN_NAMES T_EFFECTS) : C8.Cal P w K mg base 1 "targets_of" (sp_tgts K) [] := by
  refine cal0 D b .nil sc_targets_of (fun vs H Q E h => ?_) (fun cdv A outer s H vs Q E hr h => ?_)
  · obtain ⟨t, n, a, i, rfl, _⟩ := h
    rfl
  · obtain ⟨t, n, a, i, rfl, ht, k⟩ := h
    refine ⟨_, (pss_cons (ps_asg (pv 1) (pg_tup (by rfl) (pgs_cons (pg_name (i := 2) sc_targets_of.nd rfl (by first | exact Or.inl rfl | exact Or.inr rfl)) (pgs_cons (pg_name (i := 3) sc_targets_of.nd rfl (by first | exact Or.inl rfl | exact Or.inr rfl)) pgs_nil))))
(pss_cons (ps_if (PW.pt (pw_or (pt_cmpR op_eq (pv 2) pe_str (nomark _)) (pw_or1 (pt_cmpR op_eq (pv 2) pe_str (nomark _)))))
  (pss_one (ps_ret (pe_lst pa_nil)))
  pss_nil)
(pss_cons (ps_if (pt_cmpR op_eq (pv 2) pe_str (nomark _))
  (pss_one (ps_ret (pe_lst (pa_cons (pe_op op_add (pe_op op_add (pv 0) pe_int) (pv 3)) pa_nil))))
  pss_nil)
(pss_cons (ps_if (pt_cmpR op_eq (pv 2) pe_str (nomark _))
  (pss_one (ps_ret (pe_lst (pa_cons (pe_op op_add (pv 0) pe_int) (pa_cons (pe_op op_add (pe_op op_add (pv 0) pe_int) (pv 3)) pa_nil)))))
  pss_nil)
(pss_one (ps_ret (pe_lst (pa_cons (pe_op op_add (pv 0) pe_int) pa_nil)))))))), ?_⟩
    unfold tgts at k
    have ne : ∀ {y : Str}, ¬ V.str n = V.str y → ¬ n = y := fun h z => h (congrArg V.str z)
    refine ⟨_, rfl, t, _, rfl, SqT.of ht, rfl, _, _, rfl, _, _, rfl, rfl, ?_⟩
    have c0 : (n = "end" ∨ n = "back") → 0 ≤ sizeLine ∧ ∀ p, H p = none → Q (.ref p) (upd H p (.lst [])) := fun e => by
      rw [if_pos e] at k
      exact ⟨Nat.zero_le _, fun p np => k p _ np upd_same (Keep.new np)⟩
    refine ⟨_, rfl, rfl, _, rfl, iteD (fun e => c0 (.inl (V.str.inj e))) (fun e => ⟨_, rfl, rfl, _, rfl, iteD (fun e2 => c0 (.inr (V.str.inj e2))) (fun e2 => ?_)⟩)⟩
    rw [if_neg (fun z => z.elim (ne e) (ne e2))] at k
    refine ⟨_, rfl, rfl, _, rfl, iteD (fun e => ?_) (fun e => ?_)⟩
    · rw [if_pos (V.str.inj e)] at k
      exact ⟨_, rfl, _, _, rfl, rfl, _, rfl, _, _, rfl, rfl, by show 1 ≤ sizeLine; decide, fun p np => k p _ np upd_same (Keep.new np)⟩
    rw [if_neg (ne e)] at k
    refine ⟨_, rfl, rfl, _, rfl, iteD (fun e => ?_) (fun e => ?_)⟩
    · rw [if_pos (V.str.inj e)] at k
      exact ⟨_, rfl, _, _, rfl, rfl, _, rfl, _, _, rfl, rfl, _, rfl, _, _, rfl, rfl, by show 2 ≤ sizeLine; decide, fun p np => k p _ np upd_same (Keep.new np)⟩
    rw [if_neg (ne e)] at k
    exact ⟨_, rfl, _, _, rfl, rfl, by show 1 ≤ sizeLine; decide, fun p np => k p _ np upd_same (Keep.new np)⟩
end

theorem nm_ok : ∀ n ∈ allNm ++ (["", "halt", "push ", "pushes"] : List Str), PyData.strOk n = true := by decide +kernel
theorem shp {n : Str} {a : Int} (h : PyData.strOk n = true) : SeqAt.shaped (.tuple [.str n, .int a]) = true := by
  simp [SeqAt.shaped, PyData.canLay0, PyData.canLayAll0, PyData.depth, PyData.depthAll, h]
theorem eqv_ins (n m : Str) (a c : Int) : PyData.eqv (.tuple [.str n, .int a]) (.tuple [.str m, .int c]) = decide ((n, a) = (m, c)) := by
  have e1 : PyData.eqv (.str n) (.str m) = decide (n = m) := by
    by_cases h : n = m
    · subst h; simp [PyData.eqv]
    · simp [PyData.eqv, h]
  have e2 : PyData.eqv (.int a) (.int c) = decide (a = c) := by
    by_cases h : a = c
    · subst h; simp [PyData.eqv]
    · simp [PyData.eqv, h]
  have e3 : PyData.eqv (.tuple [.str n, .int a]) (.tuple [.str m, .int c]) = (PyData.eqv (.str n) (.str m) && (PyData.eqv (.int a) (.int c) && true)) := by
    simp [PyData.eqv, PyData.eqvAll]
  rw [e3, e1, e2]
  by_cases h : n = m <;> by_cases g : a = c <;> simp [h, g]
theorem dpIns {K : PySem.W.Frag} {H : Hp} {t : Addr} {n : Str} {a : Int} (h : H t = some (.tup [.str n, .int a])) : Dp K H (.ref t) (.tuple [.str n, .int a]) := .tup (SqT.of h) (.cons (.str n) (.cons (.int a) .nil))
theorem ChkAt.sq {K : PySem.W.Frag} {C : Addr} {H : Hp} {x c d : Addr} {cs : List Ins} {sl mo : Int} {b : Bool} {h : Hts} {top : Int} {m : Nat} (z : ChkAt C H x c d cs sl mo b h top m) : ∃ xs, (SqL K H c xs ∨ SqT K H c xs) ∧ Prs H xs cs := by
  obtain ⟨xs, h1, h2⟩ := z.c
  exact ⟨xs, h1.elim (fun w => .inl (SqL.of w)) fun w => .inr (SqT.of w), h2⟩
theorem HtsAt.isD {H : Hp} {d : Addr} {h : Hts} {m : Nat} (z : HtsAt H d h m) : IsD H d := by
  obtain ⟨kvs, h1, _⟩ := z
  exact .inl ⟨kvs, .inl h1⟩
theorem ChkAt.keepD {C : Addr} {H H' : Hp} {x c d : Addr} {cs : List Ins} {sl mo : Int} {b : Bool} {h h' : Hts} {top : Int} {m m' : Nat} {o : HO} (z : ChkAt C H x c d cs sl mo b h top m) (e : H' = upd H d o) (w : HtsAt H' d h' m') : ChkAt C H' x c d cs sl mo b h' top m' := by
  obtain ⟨⟨dx, o1⟩, c1, ⟨kvs, d1, _⟩⟩ := z
  obtain ⟨xs, h1, h2⟩ := c1
  subst e
  refine ⟨⟨dx, by rw [upd_ne (ne_of o1 d1 (by intro z; cases z))]; exact o1⟩, ⟨xs, ?_, h2.tk fun b ys q => by rw [upd_ne (ne_of q d1 (by intro z; cases z))]; exact q⟩, w⟩
  rcases h1 with h1 | h1
  · left; rw [upd_ne (ne_of h1 d1 (by intro z; cases z))]; exact h1
  · right; rw [upd_ne (ne_of h1 d1 (by intro z; cases z))]; exact h1
theorem ChkAt.keep0 {C : Addr} {H H' : Hp} {x c d : Addr} {cs : List Ins} {sl mo : Int} {b : Bool} {h : Hts} {top : Int} {m : Nat} (z : ChkAt C H x c d cs sl mo b h top m) (k : Keep [] H H') : ChkAt C H' x c d cs sl mo b h top m := by
  obtain ⟨⟨dx, o1⟩, c1, ⟨kvs, d1, d2⟩⟩ := z
  exact ⟨⟨dx, k _ _ o1 (by simp)⟩, c1.keep k k.tk (by simp), ⟨kvs, k _ _ d1 (by simp), d2⟩⟩
def sp_chk (C : Addr) : Sp := fun vs H Q _ => ∃ (x dx c : Addr) (cs : List Ins) (sl mo : Int) (b : Bool), vs = [.ref x, .ref c, .int sl, .int mo, .bl b] ∧ H x = some (.ins C dx []) ∧ CodeAt H c cs ∧ ∀ d H', H d = none → Keep [x] H H' → ChkAt C H' x c d cs sl mo b h0 0 1 → Q .non H'
def sp_reaches (C : Addr) : Sp := fun vs H Q _ => ∃ (x c d l : Addr) (cs : List Ins) (sl mo : Int) (b : Bool) (h : Hts) (top : Int) (m : Nat) (ts : List Int) (v : Int), vs = [.ref x, .ref l, .int v] ∧ ChkAt C H x c d cs sl mo b h top m ∧ H l = some (.lst (ts.map V.int)) ∧ m + ts.length < 1000000 ∧ cs.length ≤ 1000000 ∧
  ((∀ h' H', reach cs.length v ts h = some h' → ChkAt C H' x c d cs sl mo b h' top (m + ts.length) → Keep [d] H H' → Q (.bl true) H') ∧ (∀ H', reach cs.length v ts h = none → Keep [d] H H' → Q (.bl false) H'))
def sp_returns (C : Addr) : Sp := fun vs H Q _ => ∃ (x c d : Addr) (cs : List Ins) (sl mo : Int) (b : Bool) (h : Hts) (top : Int) (m : Nat) (i t v : Int), vs = [.ref x, .int i, .int t] ∧ ChkAt C H x c d cs sl mo b h top m ∧ NmOk cs ∧ i < (cs.length : Int) ∧ h i = some v ∧ (∀ j : Int, 0 ≤ j → j < i → (h j).isSome) ∧
  ∀ H', Keep [] H H' → Q (.bl (backOk cs h i t)) H'
section
variable {P : Program} {w : World} {K : PySem.W.Frag} {mg : Str → Option Value} {base : Heap} {C_Checker : Addr} {C_GameError : Addr} {C_BadText : Addr} {C_TooLarge : Addr} {C_BadMove : Addr} {C_BadCode : Addr} {f_BadCode___init : Addr} {T_SIGNS : Addr} {T_ROUND_NAMES : Addr} {T_BRAIN_NAMES : Addr} {T_EFFECTS : Addr}
theorem ok_chk_init {f : Addr} {fd : FuncData} (M : Mk K C_Checker f) (F : C8.Fun K "__init__" "Checker.__init__" s_Checker___init f fd) (b : Binds K fd ["self", "code", "slots", "moves", "thinking"] []) (T : Txt K mg C_Checker C_GameError C_BadText C_TooLarge C_BadMove C_BadCode T_SIGNS T_ROUND_NAMES T_BRAIN_NAMES T_EFFECTS) : C8.Mak P w K mg base 1 "Checker" C_Checker (sp_chk C_Checker) [] := by
  refine mak0 M T.m_Checker F b .nil sc_Checker___init (fun vs H Q E h => ?_) (fun cdv A outer s H vs Q E hr h => ?_)
  · obtain ⟨x, dx, c, cs, sl, mo, b, rfl, _⟩ := h
    rfl
  · obtain ⟨x, dx, c, cs, sl, mo, b, rfl, hx, hc, k⟩ := h
    refine ⟨_, (pss_cons (ps_fld (pv 0) (pv 1) rfl)
(pss_cons (ps_fld (pv 0) (pv 2) rfl)
(pss_cons (ps_fld (pv 0) (pv 3) rfl)
(pss_cons (ps_fld (pv 0) (pv 4) rfl)
(pss_cons (ps_fld (pv 0) (pe_disp (pps_cons pe_int pe_int pps_nil) (by rfl) (by rfl) (fun z => by cases z) (by decide)) rfl)
(pss_one (ps_fld (pv 0) pe_int rfl))))))), ?_⟩
    refine ⟨_, rfl, _, rfl, x, C_Checker, dx, [], rfl, hx, T.cl_Checker, T.a_Checker_code, by show 0 < 1000; decide, ?_⟩
    refine ⟨_, rfl, _, rfl, x, C_Checker, dx, _, rfl, upd_same, T.cl_Checker, T.a_Checker_slots, by show 1 < 1000; decide, ?_⟩
    refine ⟨_, rfl, _, rfl, x, C_Checker, dx, _, rfl, upd_same, T.cl_Checker, T.a_Checker_moves, by show 2 < 1000; decide, ?_⟩
    refine ⟨_, rfl, _, rfl, x, C_Checker, dx, _, rfl, upd_same, T.cl_Checker, T.a_Checker_thinking, by show 3 < 1000; decide, ?_⟩
    refine fun d nd => ⟨upd_same, [(.inl 0, .int 0)], rfl, by decide, ?_⟩
    have exd : x ≠ d := ne_of_none upd_same nd
    refine ⟨_, rfl, x, C_Checker, dx, _, rfl, by rw [upd_ne exd, upd_ne exd]; exact upd_same, T.cl_Checker, T.a_Checker_heights, by show 4 < 1000; decide, ?_⟩
    refine ⟨_, rfl, x, C_Checker, dx, _, rfl, upd_same, T.cl_Checker, T.a_Checker_highest, by show 5 < 1000; decide, ?_⟩
    have nd0 : H d = none := by
      rw [upd_ne exd.symm, upd_ne exd.symm, upd_ne exd.symm, upd_ne exd.symm] at nd
      exact nd
    refine (?_ : ∀ H9 : Hp, H9 = _ → Q .non H9) _ rfl
    intro H9 e9
    have mx : x ∈ [x] := List.mem_singleton.mpr rfl
    have kk : Keep [x] H H9 := by
      rw [e9]
      exact ((((((((Keep.at_ mx).then_at mx).then_at mx).then_at mx).then_own nd0).then_own nd0).then_at mx).then_at mx)
    refine k d _ nd0 kk ⟨⟨dx, by rw [e9]; exact upd_same⟩, ?_, ⟨[(.inl 0, .int 0)], ?_, Nat.le_refl _, fun i => ?_⟩⟩
    · have ncx : c ≠ x := by
        obtain ⟨xs, h1, _⟩ := hc
        rcases h1 with h1 | h1 <;> exact ne_of h1 hx (by intro z; cases z)
      refine hc.keep kk (fun e ys q => kk _ _ q ?_) (by simpa using ncx)
      have := ne_of q hx (by intro z; cases z)
      simpa using this
    · rw [e9, upd_ne exd.symm, upd_ne exd.symm]; exact upd_same
    · unfold h0
      by_cases e : i = 0
      · subst e; rfl
      · rw [if_neg e, valV_neg (fun z => e (Sum.inl.inj z).symm)]; rfl
theorem ok_reaches {f : Addr} {fd : FuncData} (me : Meth K C_Checker "reaches" f) (F : C8.Fun K "reaches" "Checker.reaches" s_Checker_reaches f fd) (b : Binds K fd ["self", "targets", "height"] []) (T : Txt K mg C_Checker C_GameError C_BadText C_TooLarge C_BadMove C_BadCode T_SIGNS T_ROUND_NAMES T_BRAIN_NAMES T_EFFECTS) : C8.Met P w K mg base 1 C_Checker "reaches" (sp_reaches C_Checker) [] := by
  refine met0 T.cl_Checker me F b sc_Checker_reaches (fun vs H Q E h => ?_) (fun cdv A outer s H vs Q E hr h => ?_)
  · obtain ⟨x, c, d, l, cs, sl, mo, b, h, top, m, ts, v, rfl, _⟩ := h
    rfl
  · obtain ⟨x, c, d, l, cs, sl, mo, b, h, top, m, ts, v, rfl, hC, hl, hm, hn, kT, kF⟩ := h
    have hu := hu_of hr
    refine ⟨_, (pss_cons (ps_for PassesOwn.never rfl (pi_list (pv 1)) (pg_name (i := 3) sc_Checker_reaches.nd rfl (by first | exact Or.inl rfl | exact Or.inr rfl))
  (pss_cons (ps_if (PW.pt (pw_or (pt_cmpR op_ge (pv 3) (pe_callB call_len_seq (by rfl) T.n_len bo_len (pa_cons (pe_fld (pv 0) rfl) pa_nil)) (nomark _)) (pw_or1 (pt_cmpR op_ne (pe_dget2 hu (pe_fld (pv 0) rfl) (pv 3) (pv 2) ⟨rfl, by rfl, rfl, rfl⟩) (pv 2) (nomark _)))))
    (pss_one (ps_ret pe_bl))
    pss_nil)
  (pss_one (ps_dput hu (pe_fld (pv 0) rfl) (pv 3) (pv 2) (by rfl)))))
(pss_one (ps_ret pe_bl))), ?_⟩
    have nld : l ∉ [d] := by
      obtain ⟨kvs, d1, _⟩ := hC.d
      simpa using ne_of hl d1 (by intro z; cases z)
    refine ⟨_, rfl, l, rfl, ⟨_, SqL.of hl⟩, for_list (K := K) (a := l) (xs := ts.map V.int) (fun i σ H' => ∃ (hi : Hts) (o3 : Option V), σ = [some (.ref x), some (.ref l), some (.int v), o3] ∧ ChkAt C_Checker H' x c d cs sl mo b hi top (m + i) ∧ reach cs.length v ts h = reach cs.length v (ts.drop i) hi ∧ Keep [d] H H')
      ⟨h, none, rfl, hC, rfl, Keep.refl _ _⟩ (fun i σ H' _ ⟨_, _, _, _, _, kk⟩ => SqL.of (kk _ _ hl nld)) ?_ ?_⟩
    · rintro i y σ H' hi ⟨hh, o3, rfl, hC', hre, kk⟩
      obtain ⟨t, ht, rfl⟩ := ints_get hi
      obtain ⟨hlt, he⟩ := List.getElem?_eq_some_iff.mp ht
      rw [List.drop_eq_getElem_cons hlt, he] at hre
      obtain ⟨dx, ho⟩ := hC'.o
      obtain ⟨xs, sq, prs⟩ := hC'.sq (K := K)
      have hlen := prs.len
      have go : ¬ t ≥ (cs.length : Int) → ¬ (hh t).getD v ≠ v → reach cs.length v ts h = reach cs.length v (ts.drop (i + 1)) (setH hh t v) := fun h1 h2 => by
        rw [hre]
        show (if t ≥ (cs.length : Int) ∨ (hh t).getD v ≠ v then none else reach cs.length v (ts.drop (i + 1)) (setH hh t v)) = _
        rw [if_neg (fun z => z.elim h1 h2)]
      have no : (t ≥ (cs.length : Int) ∨ (hh t).getD v ≠ v) → reach cs.length v ts h = none := fun z => by
        rw [hre]
        exact if_pos z
      refine ⟨_, rfl, _, rfl, x, C_Checker, dx, _, _, rfl, ho, T.cl_Checker, T.a_Checker_code, rfl, _, _, rfl, sq, _, _, rfl, rfl, _, rfl, iteD (fun h1 => ?_) (fun h1 => ?_)⟩
      · exact kF _ (no (.inl (by rw [hlen] at h1; exact h1))) kk
      refine ⟨_, rfl, x, C_Checker, dx, _, _, rfl, ho, T.cl_Checker, T.a_Checker_heights, rfl, d, rfl, hC'.d.isD, _, rfl, _, rfl, _, hC'.d.get t, _, rfl, ?_, _, rfl, ?_⟩
      · cases hh t <;> rfl
      have eg : ((hh t).map V.int).getD (.int v) = .int ((hh t).getD v) := by cases hh t <;> rfl
      rw [eg]
      refine iteN (fun h2 => ?_) (fun h2 => ?_)
      · exact kF _ (no (.inr fun z => h2 (congrArg V.int z))) kk
      obtain ⟨H2, dp, ha, ⟨od, hod, kvs0, _⟩, o', eH⟩ := hC'.d.put t v (show m + i < 1000000 by
        have : i < ts.length := hlt
        omega)
      refine ⟨_, rfl, _, rfl, x, C_Checker, dx, _, _, rfl, ho, T.cl_Checker, T.a_Checker_heights, rfl, _, rfl, d, H2, rfl, dp, ?_⟩
      refine ⟨_, _, rfl, hC'.keepD eH ha, go (by rw [hlen] at h1; exact h1) (fun z => z (V.int.inj h2)), ?_⟩
      rw [eH]
      exact kk.then_at (List.mem_singleton.mpr rfl)
    · rintro σ H' ⟨hh, o3, rfl, hC', hre, kk⟩
      rw [List.length_map] at hC' hre
      rw [List.drop_of_length_le (Nat.le_refl _)] at hre
      exact kT hh _ hre hC' kk
theorem ok_returns {f : Addr} {fd : FuncData} (me : Meth K C_Checker "returns" f) (F : C8.Fun K "returns" "Checker.returns" s_Checker_returns f fd) (b : Binds K fd ["self", "at", "target"] []) (T : Txt K mg C_Checker C_GameError C_BadText C_TooLarge C_BadMove C_BadCode T_SIGNS T_ROUND_NAMES T_BRAIN_NAMES T_EFFECTS) : C8.Met P w K mg base 1 C_Checker "returns" (sp_returns C_Checker) [] := by
  refine met0 T.cl_Checker me F b sc_Checker_returns (fun vs H Q E h => ?_) (fun cdv A outer s H vs Q E hr h => ?_)
  · obtain ⟨x, c, d, cs, sl, mo, b, h, top, m, i, t, v, rfl, _⟩ := h
    rfl
  · obtain ⟨x, c, d, cs, sl, mo, b, h, top, m, i, t, v, rfl, hC, hnm, hi, hv, hall, k⟩ := h
    have hu := hu_of hr
    refine ⟨_, (pss_cons (ps_if (PW.pt (pw_or (pt_not (pt_chain op_le op_lt pe_int (pv 2) (pv 1))) (pw_or1 (pt_cmpR (op_neD hr.units) (pe_ix ix_seq (pe_fld (pv 0) rfl) (pv 2) (fun _ _ => rfl)) (pe_tup (pa_cons pe_str (pa_cons pe_int pa_nil))) (nomark _)))))
  (pss_one (ps_ret pe_bl))
  pss_nil)
(pss_one (ps_ret (pe_cmpR op_eq (pe_dget hu (pe_fld (pv 0) rfl) (pv 2) (fun _ _ => rfl)) (pe_dget hu (pe_fld (pv 0) rfl) (pv 1) (fun _ _ => rfl)) (nomark _))))), ?_⟩
    unfold backOk at k
    obtain ⟨dx, ho⟩ := hC.o
    obtain ⟨xs, sq, prs⟩ := hC.sq (K := K)
    have out : ¬ (0 ≤ t ∧ t < i) → Q (.bl false) H := fun z => by
      have := k H (Keep.refl _ _)
      rw [decide_eq_false z] at this
      exact this
    refine ⟨_, rfl, _, _, rfl, rfl, _, rfl, iteD (fun h1 => ⟨_, rfl, _, _, rfl, rfl, _, rfl, iteN (fun h2 => out fun z => h2 z.2) (fun h2 => ?_)⟩) (fun h1 => ⟨_, rfl, iteT (out fun z => h1 z.1)⟩)⟩
    have hlt : t.toNat < cs.length := by omega
    have ht : cs[t.toNat]? = some cs[t.toNat] := List.getElem?_eq_getElem _
    have hmem : cs[t.toNat] ∈ cs := List.getElem_mem _
    generalize cs[t.toNat] = p at ht hmem
    obtain ⟨n, a⟩ := p
    obtain ⟨u, hu1, hu2⟩ := prs.get ht
    have et : t = ((t.toNat : Nat) : Int) := by omega
    have hnn : PyData.strOk n = true := nm_ok n (hnm (n, a) hmem)
    have atu : atI xs t = some (.ref u) := by rw [et]; exact atI_nat hu1
    have ixr : ∀ {Q' : VK}, Q' (.ref u) H → rIxL K (.ref c) (.int t) H Q' ∨ rIxT K (.ref c) (.int t) H Q' ∨ rIxS (.ref c) (.int t) H Q' := fun q => sq.elim (fun w => .inl ⟨_, _, _, _, rfl, rfl, w, atu, q⟩) fun w => .inr (.inl ⟨_, _, _, _, rfl, rfl, w, atu, q⟩)
    refine ⟨_, rfl, x, C_Checker, dx, _, _, rfl, ho, T.cl_Checker, T.a_Checker_code, rfl, _, rfl, ixr ?_⟩
    refine ⟨by show 2 ≤ sizeLine; decide, fun w nw => ?_⟩
    have k1 : Keep [] H (upd H w (.tup [.str "unit", .int 0])) := Keep.new nw
    refine ⟨_, _, dpIns (k1 _ _ hu2 (by simp)), dpIns upd_same, shp hnn, shp (by decide +kernel), _, rfl, ?_⟩
    rw [eqv_ins]
    have kk := k _ k1
    rw [decide_eq_true (show 0 ≤ t ∧ t < i from ⟨h1, h2⟩), ht] at kk
    refine iteN (fun e => ?_) (fun e => ?_)
    · rw [decide_eq_false (fun z => e (Option.some.inj z))] at kk
      exact kk
    · rw [decide_eq_true (congrArg some e)] at kk
      have hC1 := hC.keep0 k1
      obtain ⟨dx1, ho1⟩ := hC1.o
      obtain ⟨v', hv'⟩ := Option.isSome_iff_exists.mp (hall t h1 h2)
      have g1 := hC1.d.get t
      have g2 := hC1.d.get i
      rw [hv'] at g1
      rw [hv] at g2
      refine ⟨_, rfl, x, C_Checker, dx1, _, _, rfl, ho1, T.cl_Checker, T.a_Checker_heights, rfl, _, rfl, d, _, rfl, g1, _, rfl, x, C_Checker, dx1, _, _, rfl, ho1, T.cl_Checker, T.a_Checker_heights, rfl, _, rfl, d, _, rfl, g2, rfl, ?_⟩
      have e2 : decide (h t = h i) = decide (V.int v' = V.int v) := by
        rw [hv', hv]; simp
      rw [e2] at kk
      exact kk
end

theorem ChkAt.setTop {C : Addr} {H : Hp} {x c d : Addr} {cs : List Ins} {sl mo : Int} {b : Bool} {h : Hts} {top top' : Int} {m : Nat} {dx : Addr} (z : ChkAt C H x c d cs sl mo b h top m) (ho : H x = some (.ins C dx (chkF c d sl mo b top))) : ChkAt C (upd H x (.ins C dx (chkF c d sl mo b top'))) x c d cs sl mo b h top' m := by
  obtain ⟨_, ⟨xs, h1, h2⟩, ⟨kvs, d1, d2⟩⟩ := z
  refine ⟨⟨dx, upd_same⟩, ⟨xs, ?_, h2.tk fun e ys q => by rw [upd_ne (ne_of q ho (by intro z; cases z))]; exact q⟩, ⟨kvs, by rw [upd_ne (ne_of d1 ho (by intro z; cases z))]; exact d1, d2⟩⟩
  rcases h1 with h1 | h1
  · left; rw [upd_ne (ne_of h1 ho (by intro z; cases z))]; exact h1
  · right; rw [upd_ne (ne_of h1 ho (by intro z; cases z))]; exact h1
theorem HtsAt.mono {H : Hp} {d : Addr} {h : Hts} {m m' : Nat} (z : HtsAt H d h m) (e : m ≤ m') : HtsAt H d h m' := by
  obtain ⟨kvs, h1, h2, h3⟩ := z
  exact ⟨kvs, h1, Nat.le_trans h2 e, h3⟩
theorem ChkAt.mono {C : Addr} {H : Hp} {x c d : Addr} {cs : List Ins} {sl mo : Int} {b : Bool} {h : Hts} {top : Int} {m m' : Nat} (z : ChkAt C H x c d cs sl mo b h top m) (e : m ≤ m') : ChkAt C H x c d cs sl mo b h top m' := ⟨z.o, z.c, z.d.mono e⟩
def EffOk (K : PySem.W.Frag) (w : World) (TE : Addr) : Prop := ∀ n ∈ allNm, ∃ tp, KDct K w TE n (.ref tp) ∧ ∀ H : Hp, SqT K H tp [.int (eff n).1, .int (eff n).2]
theorem nms_all : ∀ b : Bool, ∀ n ∈ nmsOf b, n ∈ allNm := by decide +kernel
theorem tgts_len (i : Int) (n : Str) (a : Int) : (tgts i n a).length ≤ 2 := by
  unfold tgts
  split
  · simp
  · split
    · simp
    · split <;> simp
def sp_good (C : Addr) : Sp := fun vs H Q _ => ∃ (x c d : Addr) (cs : List Ins) (sl mo : Int) (b : Bool) (h : Hts) (top : Int) (m : Nat) (i : Nat) (n : Str) (a : Int), vs = [.ref x, .int (i : Int)] ∧ ChkAt C H x c d cs sl mo b h top m ∧ NmOk cs ∧ cs[i]? = some (n, a) ∧ m + 2 < 1000000 ∧ cs.length ≤ 1000000 ∧ (∀ j : Int, 0 ≤ j → j < (i : Int) → (h j).isSome) ∧
  ((∀ r H', good1 cs sl mo b (i : Int) n a h top = some r → ChkAt C H' x c d cs sl mo b r.1 r.2 (m + 2) → Keep [x, d] H H' → Q (.bl true) H') ∧ (∀ H', good1 cs sl mo b (i : Int) n a h top = none → Keep [x, d] H H' → Q (.bl false) H'))
section
variable {P : Program} {w : World} {K : PySem.W.Frag} {mg : Str → Option Value} {base : Heap} {C_Checker : Addr} {C_GameError : Addr} {C_BadText : Addr} {C_TooLarge : Addr} {C_BadMove : Addr} {C_BadCode : Addr} {f_BadCode___init : Addr} {T_SIGNS : Addr} {T_ROUND_NAMES : Addr} {T_BRAIN_NAMES : Addr} {T_EFFECTS : Addr}
theorem ok_good {f : Addr} {fd : FuncData} (me : Meth K C_Checker "good" f) (F : C8.Fun K "good" "Checker.good" s_Checker_good f fd) (b : Binds K fd ["self", "at"] []) (T : Txt K mg C_Checker C_GameError C_BadText C_TooLarge C_BadMove C_BadCode T_SIGNS T_ROUND_NAMES T_BRAIN_NAMES T_EFFECTS) (hE : EffOk K w T_EFFECTS) (c_argument_fits : C8.Cal P w K mg base 1 "argument_fits" (sp_fits K) []) (c_targets_of : C8.Cal P w K mg base 1 "targets_of" (sp_tgts K) [])
    (c_Checker_returns : C8.Met P w K mg base 1 C_Checker "returns" (sp_returns C_Checker) []) (c_Checker_reaches : C8.Met P w K mg base 1 C_Checker "reaches" (sp_reaches C_Checker) []) : C8.Met P w K mg base 2 C_Checker "good" (sp_good C_Checker) [] := by
  refine met0 T.cl_Checker me F b sc_Checker_good (fun vs H Q E h => ?_) (fun cdv A outer s H vs Q E hr h => ?_)
  · obtain ⟨x, c, d, cs, sl, mo, b, h, top, m, i, n, a, rfl, _⟩ := h
    rfl
  · obtain ⟨x, c, d, cs, sl, mo, b, h, top, m, i, n, a, rfl, hC, hnm, hi, hm, hn, hall, kT, kF⟩ := h
    have hu := hu_of hr
    refine ⟨_, (pss_cut (ps_set (i := 2) sc_Checker_good.nd rfl (by first | exact Or.inl rfl | exact Or.inr rfl) (pe_ifExp (pt_val (pe_fld (pv 0) rfl)) (pe_gc rfl T.v_BRAIN_NAMES) (pe_gc rfl T.v_ROUND_NAMES)))
(pss_cons (ps_set (i := 3) sc_Checker_good.nd rfl (by first | exact Or.inl rfl | exact Or.inr rfl) (pe_ix ix_seq (pe_fld (pv 0) rfl) (pv 1) (fun _ _ => rfl)))
(pss_cons (ps_if (PW.pt (pw_or (pt_cmp (pc_dnotin hu (pv 1) (pe_fld (pv 0) rfl))) (pw_or1 (pt_cmpR op_notIn_seq (pe_ix ix_tup (pv 3) pe_int (fun _ _ => rfl)) (pv 2) (by rfl)))))
  (pss_one (ps_ret pe_bl))
  pss_nil)
(pss_cons (ps_if (pt_not (pt_val (pe_c c_argument_fits hr (by first | exact Nat.le_refl _ | decide) rfl (pa_cons (pv 3) (pa_cons (pe_fld (pv 0) rfl) (pa_cons (pe_fld (pv 0) rfl) pa_nil))))))
  (pss_one (ps_ret pe_bl))
  pss_nil)
(pss_cons (ps_asg (pe_ix ix_kdict (pe_gc rfl T.v_EFFECTS) (pe_ix ix_tup (pv 3) pe_int (fun _ _ => rfl)) (fun _ _ => rfl)) (pg_tup (by rfl) (pgs_cons (pg_name (i := 4) sc_Checker_good.nd rfl (by first | exact Or.inl rfl | exact Or.inr rfl)) (pgs_cons (pg_name (i := 5) sc_Checker_good.nd rfl (by first | exact Or.inl rfl | exact Or.inr rfl)) pgs_nil))))
(pss_cons (ps_set (i := 6) sc_Checker_good.nd rfl (by first | exact Or.inl rfl | exact Or.inr rfl) (pe_dget hu (pe_fld (pv 0) rfl) (pv 1) (fun _ _ => rfl)))
(pss_cons (ps_set (i := 7) sc_Checker_good.nd rfl (by first | exact Or.inl rfl | exact Or.inr rfl) (pe_op op_add (pe_op op_sub (pv 6) (pv 4)) (pv 5)))
(pss_cons (ps_if (PW.pt (pw_or (pt_cmpR op_lt (pv 6) (pv 4) (nomark _)) (pw_or1 (pt_cmpR op_gt (pv 7) (pe_gc rfl T.v_HIGHEST) (nomark _)))))
  (pss_one (ps_ret pe_bl))
  pss_nil)
(pss_cons (ps_fld (pv 0) (pe_callB (call_max2 rfl) (by rfl) T.n_max bo_max (pa_cons (pe_fld (pv 0) rfl) (pa_cons (pv 7) pa_nil))) rfl)
(pss_cons (ps_if (pt_cmpR op_eq (pe_ix ix_tup (pv 3) pe_int (fun _ _ => rfl)) pe_str (nomark _))
  (pss_one (ps_ret (pe_cmpR op_eq (pv 6) (pe_callTy call_int1 (by rfl) T.n_int bo_int (pa_cons (pe_fld (pv 0) rfl) pa_nil)) (nomark _))))
  pss_nil)
(pss_cons (ps_if (pt_cmpR op_eq (pe_ix ix_tup (pv 3) pe_int (fun _ _ => rfl)) pe_str (nomark _))
  (pss_one (ps_ret (pe_mt c_Checker_returns hr (by first | exact Nat.le_refl _ | decide) (pv 0) (pa_cons (pv 1) (pa_cons (pe_op op_sub (pv 1) (pe_ix ix_tup (pv 3) pe_int (fun _ _ => rfl))) pa_nil)))))
  pss_nil)
(pss_one (ps_ret (pe_mt c_Checker_reaches hr (by first | exact Nat.le_refl _ | decide) (pv 0) (pa_cons (pe_c c_targets_of hr (by first | exact Nat.le_refl _ | decide) rfl (pa_cons (pv 1) (pa_cons (pv 3) pa_nil))) (pa_cons (pv 7) pa_nil)))))))))))))))), ?_⟩
    obtain ⟨dx, ho⟩ := hC.o
    obtain ⟨xs, sq, prs⟩ := hC.sq (K := K)
    have nx : ∀ {H1 H2 : Hp}, Keep [] H1 H2 → Keep [x, d] H1 H2 := fun k => k.mono (by simp)
    -- the names
    refine ⟨fun σ H' => H' = H ∧ ∃ tn : Addr, (∀ H0 : Hp, SqT K H0 tn ((nmsOf b).map V.str)) ∧ σ = [some (.ref x), some (.int (i : Int)), some (.ref tn), none, none, none, none, none], ?_, ?_⟩
    · refine ⟨_, rfl, x, C_Checker, dx, _, _, rfl, ho, T.cl_Checker, T.a_Checker_thinking, rfl, _, rfl, iteB (fun e => ?_) (fun e => ?_)⟩
      · subst e; exact ⟨rfl, _, T.q_BRAIN_NAMES, rfl⟩
      · subst e; exact ⟨rfl, _, T.q_ROUND_NAMES, rfl⟩
    rintro σ H' ⟨rfl, tn, htn, rfl⟩
    obtain ⟨u, hu1, hu2⟩ := prs.get hi
    have ixr : ∀ {Q' : VK}, Q' (.ref u) H' → rIxL K (.ref c) (.int (i : Int)) H' Q' ∨ rIxT K (.ref c) (.int (i : Int)) H' Q' ∨ rIxS (.ref c) (.int (i : Int)) H' Q' := fun q => sq.elim (fun w => .inl ⟨_, _, _, _, rfl, rfl, w, atI_nat hu1, q⟩) fun w => .inr (.inl ⟨_, _, _, _, rfl, rfl, w, atI_nat hu1, q⟩)
    refine ⟨_, rfl, x, C_Checker, dx, _, _, rfl, ho, T.cl_Checker, T.a_Checker_code, rfl, _, rfl, ixr ?_⟩
    have hg := hC.d.get (i : Int)
    unfold good1 at kT kF
    refine ⟨_, rfl, _, rfl, x, C_Checker, dx, _, _, rfl, ho, T.cl_Checker, T.a_Checker_heights, rfl, d, _, rfl, hg, _, rfl, ?_⟩
    cases hv : h (i : Int) with
    | none =>
      simp only [hv] at kF
      exact iteT (kF _ trivial (Keep.refl _ _))
    | some v =>
      rw [hv] at hg
      simp only [hv] at kT kF
      refine iteF ?_
      refine ⟨_, rfl, _, _, _, _, rfl, rfl, SqT.of hu2, rfl, _, rfl, _, _, rfl, .inr (htn _), rfl, flat_strs _, _, rfl, iteB (fun e => ?_) (fun e => ?_)⟩
      · have e' : (!inV (.str n) ((nmsOf b).map V.str)) = true := e
        rw [inV_strs] at e'
        have hno : n ∉ nmsOf b := by simpa using e'
        rw [if_pos hno] at kF
        exact kF _ rfl (Keep.refl _ _)
      have e' : (!inV (.str n) ((nmsOf b).map V.str)) = false := e
      rw [inV_strs] at e'
      have hin : n ∈ nmsOf b := by simpa using e'
      rw [if_neg (fun z => z hin)] at kT kF
      refine ⟨_, rfl, _, rfl, x, C_Checker, dx, _, _, rfl, ho, T.cl_Checker, T.a_Checker_slots, rfl, _, rfl, x, C_Checker, dx, _, _, rfl, ho, T.cl_Checker, T.a_Checker_moves, rfl, u, n, a, sl, mo, rfl, hu2, _, rfl, ?_⟩
      cases hf : fitsA n a sl mo with
      | false =>
        rw [if_pos hf] at kF
        exact iteT (kF _ rfl (Keep.refl _ _))
      | true =>
        rw [if_neg (by rw [hf]; simp)] at kT kF
        refine iteF ?_
        obtain ⟨tp, hkd, hsq⟩ := hE n (nms_all b n hin)
        refine ⟨_, rfl, _, _, _, _, rfl, rfl, SqT.of hu2, rfl, T_EFFECTS, n, _, rfl, rfl, hkd, tp, _, rfl, hsq _, rfl, _, _, rfl, _, _, rfl, rfl, ?_⟩
        refine ⟨_, rfl, x, C_Checker, dx, _, _, rfl, ho, T.cl_Checker, T.a_Checker_heights, rfl, _, rfl, d, _, rfl, hg, ?_⟩
        refine ⟨_, rfl, _, rfl, _, _, rfl, rfl, _, rfl, _, _, rfl, rfl, ?_⟩
        have bad : (v < (eff n).1 ∨ v - (eff n).1 + (eff n).2 > 16) → Q (.bl false) H' := fun z => by
          rw [if_pos z] at kF
          exact kF _ rfl (Keep.refl _ _)
        refine ⟨_, rfl, _, rfl, _, _, rfl, rfl, _, rfl, iteD (fun z => bad (.inl z)) (fun z1 => ⟨_, rfl, _, _, rfl, rfl, _, rfl, iteD (fun z => bad (.inr z)) (fun z2 => ?_)⟩)⟩
        rw [if_neg (fun z => z.elim z1 z2)] at kT kF
        refine ⟨_, rfl, x, C_Checker, dx, _, _, rfl, ho, T.cl_Checker, T.a_Checker_highest, rfl, _, rfl, _, _, rfl, _, rfl, x, C_Checker, dx, _, rfl, ho, T.cl_Checker, T.a_Checker_highest, by show 6 < 1000; decide, ?_⟩
        have hC1 := hC.setTop (top' := if v - (eff n).1 + (eff n).2 > top then v - (eff n).1 + (eff n).2 else top) ho
        have K1 : Keep [x, d] H' (upd H' x (.ins C_Checker dx (chkF c d sl mo b (if v - (eff n).1 + (eff n).2 > top then v - (eff n).1 + (eff n).2 else top)))) := Keep.at_ (by simp)
        have K0 : ∀ {e : Addr} {ys : List V}, H' e = some (.tup ys) → upd H' x (.ins C_Checker dx (chkF c d sl mo b (if v - (eff n).1 + (eff n).2 > top then v - (eff n).1 + (eff n).2 else top))) e = some (.tup ys) := fun q => by
          rw [upd_ne (ne_of q ho (by intro z; cases z))]; exact q
        have hu3 := K0 hu2
        have ho1 : upd H' x (.ins C_Checker dx (chkF c d sl mo b (if v - (eff n).1 + (eff n).2 > top then v - (eff n).1 + (eff n).2 else top))) x = some (.ins C_Checker dx (chkF c d sl mo b (if v - (eff n).1 + (eff n).2 > top then v - (eff n).1 + (eff n).2 else top))) := upd_same
        refine ⟨_, rfl, _, _, _, _, rfl, rfl, SqT.of hu3, rfl, rfl, _, rfl, iteD (fun e1 => ?_) (fun e1 => ?_)⟩
        · have e1 := V.str.inj e1
          refine ⟨_, rfl, _, rfl, x, C_Checker, dx, _, _, rfl, ho1, T.cl_Checker, T.a_Checker_thinking, rfl, .inr ⟨_, rfl, rfl, ?_⟩⟩
          rw [if_pos e1] at kT kF
          have eb : decide (V.int v = V.int (if b = true then 1 else 0)) = decide (v = b2i' b) := by
            unfold b2i'
            simp
          rw [eb]
          by_cases hb : v = b2i' b
          · rw [if_pos hb] at kT
            rw [decide_eq_true hb]
            exact kT _ _ rfl (hC1.mono (by omega)) K1
          · rw [if_neg hb] at kF
            rw [decide_eq_false hb]
            exact kF _ rfl K1
        have e1 : ¬ n = "end" := fun z => e1 (congrArg V.str z)
        rw [if_neg e1] at kT kF
        refine ⟨_, rfl, _, _, _, _, rfl, rfl, SqT.of hu3, rfl, rfl, _, rfl, iteD (fun e2 => ?_) (fun e2 => ?_)⟩
        · have e2 := V.str.inj e2
          rw [if_pos e2] at kT kF
          have hil : (i : Int) < (cs.length : Int) := by
            have := (List.getElem?_eq_some_iff.mp hi).1
            omega
          refine ⟨_, rfl, x, dx, _, rfl, ho1, rfl, _, rfl, _, rfl, _, rfl, _, _, _, _, rfl, rfl, SqT.of hu3, rfl, _, _, rfl, rfl, x, c, d, cs, sl, mo, b, h, _, m, (i : Int), (i : Int) - a, v, rfl, hC1, hnm, hil, hv, hall, fun H2 K2 => ?_⟩
          cases hb : backOk cs h (i : Int) ((i : Int) - a) with
          | true =>
            rw [if_pos hb] at kT
            exact kT _ _ rfl ((hC1.keep0 K2).mono (by omega)) (K1.trans (nx K2))
          | false =>
            rw [if_neg (by rw [hb]; simp)] at kF
            exact kF _ rfl (K1.trans (nx K2))
        have e2 : ¬ n = "back" := fun z => e2 (congrArg V.str z)
        rw [if_neg e2] at kT kF
        refine ⟨_, rfl, x, dx, _, rfl, ho1, rfl, _, rfl, _, rfl, u, n, a, (i : Int), rfl, hu3, fun l H2 nl hl K2 => ?_⟩
        have hC2 := hC1.keep0 K2
        have hlen := tgts_len (i : Int) n a
        refine ⟨_, rfl, x, c, d, l, cs, sl, mo, b, h, _, m, tgts (i : Int) n a, v - (eff n).1 + (eff n).2, rfl, hC2, hl, by omega, hn, fun h' H3 er hC3 K3 => ?_, fun H3 er K3 => ?_⟩
        · rw [er] at kT
          exact kT _ _ rfl (hC3.mono (by omega)) ((K1.trans (nx K2)).trans (K3.mono (by simp)))
        · rw [er] at kF
          exact kF _ rfl ((K1.trans (nx K2)).trans (K3.mono (by simp)))
end

/-! addresses that all stand and are unlike one another -/
structure Liv (H : Hp) (L : List Addr) : Prop where
  nd : L.Nodup
  on : ∀ a ∈ L, ∃ o, H a = some o
theorem Liv.nil {H : Hp} : Liv H [] := ⟨List.nodup_nil, fun _ h => by cases h⟩
theorem Liv.cons {H : Hp} {L : List Addr} {a : Addr} {o : HO} (h : Liv H L) (n : H a = none) : Liv (upd H a o) (a :: L) := by
  have hne : ∀ b ∈ L, b ≠ a := fun b hb => by obtain ⟨u, hu⟩ := h.on b hb; exact ne_of_none hu n
  refine ⟨List.nodup_cons.mpr ⟨fun z => hne a z rfl, h.nd⟩, fun b hb => ?_⟩
  rcases List.mem_cons.mp hb with rfl | hb
  · exact ⟨_, upd_same⟩
  · obtain ⟨u, hu⟩ := h.on b hb
    exact ⟨u, by rw [upd_ne (hne b hb)]; exact hu⟩
/-- one that stands, new since a heap in which the others stand -/
theorem Liv.cons' {H H' : Hp} {L : List Addr} {a : Addr} {o : HO} (h : Liv H L) (n : H a = none) (h' : Liv H' L) (ha : H' a = some o) : Liv H' (a :: L) :=
  ⟨List.nodup_cons.mpr ⟨fun z => (by obtain ⟨u, hu⟩ := h.on a z; rw [n] at hu; cases hu), h.nd⟩, fun b hb => by
    rcases List.mem_cons.mp hb with rfl | hb
    · exact ⟨_, ha⟩
    · exact h'.on b hb⟩
theorem Liv.keep {H H' : Hp} {L W : List Addr} (h : Liv H L) (k : Keep W H H') (w : ∀ a ∈ W, ∃ o, H' a = some o) : Liv H' L :=
  ⟨h.nd, fun a ha => by
    by_cases z : a ∈ W
    · exact w a z
    · obtain ⟨o, ho⟩ := h.on a ha
      exact ⟨o, k _ _ ho z⟩⟩
theorem Liv.keep0 {H H' : Hp} {L : List Addr} (h : Liv H L) (k : Keep [] H H') : Liv H' L := h.keep k fun _ z => by cases z
theorem Liv.keep1 {H H' : Hp} {L : List Addr} {p : Addr} {o : HO} (h : Liv H L) (k : Keep [p] H H') (hp : H' p = some o) : Liv H' L := h.keep k fun a z => by
  rw [List.mem_singleton] at z; exact ⟨o, by rw [z]; exact hp⟩
theorem nodup_ne {L : List Addr} (h : L.Nodup) {i j : Nat} {a b : Addr} (ha : L[i]? = some a) (hb : L[j]? = some b) (hij : i ≠ j) : a ≠ b := by
  obtain ⟨h1, e1⟩ := List.getElem?_eq_some_iff.mp ha
  obtain ⟨h2, e2⟩ := List.getElem?_eq_some_iff.mp hb
  have hp := List.pairwise_iff_getElem.mp h
  rcases Nat.lt_or_gt_of_ne hij with z | z
  · have := hp i j h1 h2 z
    rwa [e1, e2] at this
  · have := hp j i h2 h1 z
    rw [e1, e2] at this
    exact fun w => this w.symm
theorem Liv.ne {H : Hp} {L : List Addr} (h : Liv H L) (i j : Nat) {a b : Addr} (ha : L[i]? = some a) (hb : L[j]? = some b) (hij : i ≠ j := by decide) : a ≠ b := nodup_ne h.nd ha hb hij
theorem Liv.notNew {H : Hp} {L : List Addr} (h : Liv H L) {a : Addr} (n : H a = none) : a ∉ L := fun z => by
  obtain ⟨u, hu⟩ := h.on a z; rw [n] at hu; cases hu
theorem Liv.cons2 {H H' : Hp} {L : List Addr} {a b : Addr} {o u : HO} (h : Liv H L) (na : H a = none) (nb : H b = none) (ne : a ≠ b) (h' : Liv H' L) (ha : H' a = some o) (hb : H' b = some u) : Liv H' (b :: a :: L) := by
  have h1 := h.cons' na h' ha
  refine ⟨List.nodup_cons.mpr ⟨fun z => ?_, h1.nd⟩, fun c hc => ?_⟩
  · rcases List.mem_cons.mp z with z | z
    · exact ne z.symm
    · exact h.notNew nb z
  · rcases List.mem_cons.mp hc with rfl | hc
    · exact ⟨_, hb⟩
    · exact h1.on c hc
/-- a new instance and its dict -/
theorem Liv.made {H : Hp} {L : List Addr} {x d : Addr} {o : HO} (h : Liv H L) (nx : H x = none) (nd : H d = none) (ne : d ≠ x) : Liv (upd (upd H d (.own x)) x o) (x :: L) :=
  (h.keep0 (Keep.new nd)).cons (by rw [upd_ne ne.symm]; exact nx)
theorem made_at {H : Hp} {x d b : Addr} {o u : HO} (hx : H x = none) (hd : H d = none) (h : H b = some u) : upd (upd H d (.own x)) x o b = some u := by
  rw [upd_ne (ne_of_none h hx), upd_ne (ne_of_none h hd)]; exact h
theorem Keep.made {H : Hp} {x d : Addr} {o : HO} (hx : H x = none) (hd : H d = none) : Keep [] H (upd (upd H d (.own x)) x o) := fun _ _ h _ => made_at hx hd h
theorem Keep.tkL {H H' : Hp} {W : List Addr} (k : Keep W H H') (h : ∀ a ∈ W, ∃ ys, H a = some (.lst ys)) : TK H H' := fun b xs q => k b _ q fun z => by
  obtain ⟨ys, hy⟩ := h b z
  rw [q] at hy; cases hy

theorem reach_mono {len : Nat} {v : Int} : ∀ (ts : List Int) {h h' : Hts}, reach len v ts h = some h' → ∀ j, (h j).isSome → (h' j).isSome
  | [], h, h', e, j, hj => by cases e; exact hj
  | t :: ts, h, h', e, j, hj => by
    unfold reach at e
    split at e
    · cases e
    · refine reach_mono ts e j ?_
      unfold setH
      split
      · rfl
      · exact hj
theorem good1_mono {cs : List Ins} {sl mo : Int} {b : Bool} {i : Int} {n : Str} {a : Int} {h : Hts} {top : Int} {r : Hts × Int} (e : good1 cs sl mo b i n a h top = some r) : (h i).isSome ∧ ∀ j, (h j).isSome → (r.1 j).isSome := by
  unfold good1 at e
  cases hv : h i with
  | none => simp [hv] at e
  | some v =>
    refine ⟨rfl, ?_⟩
    simp only [hv] at e
    split at e
    · cases e
    split at e
    · cases e
    split at e
    · cases e
    split at e
    · split at e
      · cases e; exact fun j hj => hj
      · cases e
    split at e
    · split at e
      · cases e; exact fun j hj => hj
      · cases e
    rw [Option.map_eq_some_iff] at e
    obtain ⟨h', e1, rfl⟩ := e
    exact reach_mono _ e1
def BadAt (cs : List Ins) (sl mo : Int) (b : Bool) (i : Nat) : Prop := (cs = [] ∧ i = 0) ∨ (i < cs.length ∧ (∃ s, upto cs sl mo b i = some s) ∧ upto cs sl mo b (i + 1) = none)
def sp_check (CB : Addr) : Sp := fun vs H Q E => ∃ (c : Addr) (cs : List Ins) (sl mo : Int) (b : Bool), vs = [.ref c, .int sl, .int mo, .bl b] ∧ CodeAt H c cs ∧ NmOk cs ∧ cs.length ≤ 200000 ∧
  (∀ s H', cs ≠ [] → upto cs sl mo b cs.length = some s → Keep [] H H' → Q (.int s.2) H') ∧ (∀ (i : Nat) d H', BadAt cs sl mo b i → H d = none → H' d = some (.xd [(("at" : Str), .int (i : Int))]) → Keep [] H H' → E (.ref CB) (some d) H')
section
variable {P : Program} {w : World} {K : PySem.W.Frag} {mg : Str → Option Value} {base : Heap} {C_Checker : Addr} {C_GameError : Addr} {C_BadText : Addr} {C_TooLarge : Addr} {C_BadMove : Addr} {C_BadCode : Addr} {f_BadCode___init : Addr} {T_SIGNS : Addr} {T_ROUND_NAMES : Addr} {T_BRAIN_NAMES : Addr} {T_EFFECTS : Addr}
theorem ok_check {f : Addr} {fd : FuncData} (D : C8.Def K mg "check_code" s_check_code f fd) (T : Txt K mg C_Checker C_GameError C_BadText C_TooLarge C_BadMove C_BadCode T_SIGNS T_ROUND_NAMES T_BRAIN_NAMES T_EFFECTS) (X_BadCode : SupX_BadCode.Txt P K mg "BadCode" C_BadCode f_BadCode___init) (c_Checker : C8.Mak P w K mg base 1 "Checker" C_Checker (sp_chk C_Checker) [])
    (c_Checker_good : C8.Met P w K mg base 2 C_Checker "good" (sp_good C_Checker) []) : FnOk P w K mg base (L2.CX P w) 3 f fd ["code", "slots", "moves", "thinking"] (sp_check C_BadCode) := by
  refine fnx D.fn sc_check_code (fun vs H Q E h => ?_) (fun cdv A outer s H vs Q E hr h => ?_)
  · obtain ⟨c, cs, sl, mo, b, rfl, _⟩ := h
    rfl
  · obtain ⟨c, cs, sl, mo, b, rfl, hc, hnm, hn, kQ, kE⟩ := h
    refine ⟨_, (pss_cons (ps_if (pt_not (pt_truth (pv 0) (by intro _; rfl)))
  (pss_one (SupX_BadCode.ps_raiseE rfl X_BadCode hr (takes_of rfl rfl rfl rfl) (pa_cons pe_int pa_nil)))
  pss_nil)
(pss_cons (ps_set (i := 4) sc_check_code.nd rfl (by first | exact Or.inl rfl | exact Or.inr rfl) (pe_mk c_Checker hr (by first | exact Nat.le_refl _ | decide) rfl (pa_cons (pv 0) (pa_cons (pv 1) (pa_cons (pv 2) (pa_cons (pv 3) pa_nil))))))
(pss_cons (ps_for (passes_of rfl) rfl (pi_range1 (by rfl) T.n_range (pa_cons (pe_callB call_len_seq (by rfl) T.n_len bo_len (pa_cons (pv 0) pa_nil)) pa_nil)) (pg_name (i := 5) sc_check_code.nd rfl (by first | exact Or.inl rfl | exact Or.inr rfl))
  (pss_one (ps_if (pt_not (pt_truth (pe_mt c_Checker_good hr (by first | exact Nat.le_refl _ | decide) (pv 4) (pa_cons (pv 5) pa_nil)) (by intro _; rfl)))
    (pss_one (SupX_BadCode.ps_raiseE rfl X_BadCode hr (takes_of rfl rfl rfl rfl) (pa_cons (pv 5) pa_nil)))
    pss_nil)))
(pss_one (ps_ret (pe_fld (pv 4) rfl)))))), ?_⟩
    obtain ⟨xs, h1, prs⟩ := id hc
    have hlen := prs.len
    have sq : ∀ {H' : Hp}, Keep [] H H' → SqL K H' c xs ∨ SqT K H' c xs := fun k => h1.elim (fun z => .inl (SqL.of (k _ _ z (by simp)))) fun z => .inr (SqT.of (k _ _ z (by simp)))
    refine ⟨_, rfl, !xs.isEmpty, (sq (Keep.refl _ _)).elim (fun z => .inl ⟨xs, z, rfl⟩) (fun z => .inr (.inl ⟨xs, z, rfl⟩)), iteB (fun e => ?_) (fun e => ?_)⟩
    · refine ⟨_, rfl, fun d nd => kE 0 d _ (.inl ⟨?_, rfl⟩) nd upd_same (Keep.new nd)⟩
      have : xs = [] := by
        cases xs with
        | nil => rfl
        | cons y r => simp at e
      rw [this] at hlen
      exact List.eq_nil_of_length_eq_zero hlen.symm
    have hne : cs ≠ [] := fun z => by
      rw [z] at hlen
      have : xs = [] := List.eq_nil_of_length_eq_zero hlen
      rw [this] at e
      cases e
    refine ⟨_, rfl, _, rfl, _, rfl, _, rfl, fun x dx nx nd ne => ⟨x, dx, c, cs, sl, mo, b, rfl, upd_same, hc.keep (Keep.made nx nd) (Keep.made nx nd).tk (by simp), fun d H2 nd2 K2 hC => ⟨rfl, ?_⟩⟩⟩
    have K02 := keep_made nx nd K2
    have nd2' : H d = none := (Keep.made (o := .ins C_Checker dx []) nx nd).free nd2
    refine ⟨_, rfl, _, _, rfl, sq K02, _, rfl, by omega, by omega, ?_⟩
    rw [hlen]
    refine for_range (lo := 0) (n := cs.length) (fun i σ H' => ∃ (st : Hts × Int) (o5 : Option V), σ = [some (.ref c), some (.int sl), some (.int mo), some (.bl b), some (.ref x), o5] ∧ upto cs sl mo b i = some st ∧ ChkAt C_Checker H' x c d cs sl mo b st.1 st.2 (1 + 2 * i) ∧ (∀ j : Int, 0 ≤ j → j < (i : Int) → (st.1 j).isSome) ∧ Keep [] H H')
      ⟨(h0, 0), none, rfl, rfl, hC, fun j h1 h2 => by omega, K02⟩ ?_ ?_
    · rintro i σ H' hi ⟨st, o5, rfl, hst, hC', hall, kk⟩
      have e0 : (0 : Int) + (i : Int) = (i : Int) := by omega
      rw [e0]
      have hget : cs[i]? = some cs[i] := List.getElem?_eq_getElem hi
      generalize cs[i] = p at hget
      obtain ⟨n, a⟩ := p
      have hup : upto cs sl mo b (i + 1) = good1 cs sl mo b (i : Int) n a st.1 st.2 := by
        show (match upto cs sl mo b i, cs[i]? with | some s, some p => good1 cs sl mo b (i : Int) p.1 p.2 s.1 s.2 | _, _ => none) = _
        rw [hst, hget]
      obtain ⟨dx', ho⟩ := hC'.o
      have kown : ∀ {H2 : Hp}, Keep [x, d] H' H2 → Keep [] H H2 := fun k2 e o he hw => k2 e o (kk e o he (by simp)) (by simp [ne_of_none he nx, ne_of_none he nd2'])
      refine ⟨_, rfl, x, dx', _, rfl, ho, rfl, _, rfl, x, c, d, cs, sl, mo, b, st.1, st.2, _, i, n, a, rfl, hC', hnm, hget, by omega, by omega, hall, fun r H2 er hC2 K2 => ⟨_, rfl, iteF (A := True) ?_⟩, fun H2 er K2 => ⟨_, rfl, iteT (B := True) ?_⟩⟩
      · have mono := good1_mono er
        refine ⟨r, _, rfl, hup.trans er, hC2.mono (by omega), fun j j0 j1 => ?_, kown K2⟩
        by_cases z : j = (i : Int)
        · rw [z]; exact mono.2 _ mono.1
        · exact mono.2 _ (hall j j0 (by omega))
      · exact ⟨_, rfl, _, rfl, fun d2 nd3 => kE i d2 _ (.inr ⟨hi, ⟨st, hst⟩, hup.trans er⟩) ((kown K2).free nd3) upd_same ((kown K2).then_new nd3)⟩
    · rintro σ H' ⟨st, o5, rfl, hst, hC', hall, kk⟩
      obtain ⟨dx', ho⟩ := hC'.o
      exact ⟨_, rfl, x, C_Checker, dx', _, _, rfl, ho, T.cl_Checker, T.a_Checker_highest, rfl, kQ st _ hne hst kk⟩
end

def rowsL : List Str := ["sign:21", "store:10", "skip:10", "lot:11", "show:10", "pay:10", "take:10", "view:11", "push:01", "load:01", "ask:01", "long:01"]
def rowNm (r : Str) : Str := cutS r none (some ((r.length : Int) - 3))
def rowA (r : Str) (k : Nat) : Nat := r.cps.toList.getD (r.length - k) 0
def takesL (n : Str) : Int × Int := match rowsL.find? (fun r => decide (rowNm r = n)) with
  | some r => ((rowA r 2 : Int) - 48, (rowA r 1 : Int) - 48)
  | none => (0, 0)
theorem rows_ok : ∀ r ∈ rowsL, r.length ≤ 20 ∧ atI r.cps.toList ((r.length : Int) - 2) = some (rowA r 2) ∧ atI r.cps.toList ((r.length : Int) - 1) = some (rowA r 1) := by decide +kernel
theorem takes_eff : ∀ n ∈ allNm ++ (["", "halt", "push ", "pushes"] : List Str), takesL n = eff n := by decide +kernel
theorem rows_split : Txt.split "sign:21 store:10 skip:10 lot:11 show:10 pay:10 take:10 view:11 push:01 load:01 ask:01 long:01" " " = rowsL := by decide +kernel
theorem names_split : Txt.split "push load store sign jump skip lot end ask show pay take view long unit back" " " = allNm := by decide +kernel
def sp_names : Sp := fun vs H Q _ => vs = [] ∧ ∀ l H', H l = none → H' l = some (.lst (allNm.map V.str)) → Keep [] H H' → Q (.ref l) H'
def sp_takes : Sp := fun vs H Q _ => ∃ n, vs = [.str n] ∧ ∀ t H', H t = none → H' t = some (.tup [.int (takesL n).1, .int (takesL n).2]) → Keep [] H H' → Q (.ref t) H'
def sp_arg : Sp := fun vs H Q _ => ∃ (t : Addr) (n : Str) (a sl mo : Int), vs = [.ref t, .int sl, .int mo] ∧ H t = some (.tup [.str n, .int a]) ∧ ∀ H', Keep [] H H' → Q (.bl (fitsA n a sl mo)) H'
section
variable {P : Program} {w : World} {K : PySem.W.Frag} {mg : Str → Option Value} {base : Heap} {C_Checker : Addr} {C_GameError : Addr} {C_BadText : Addr} {C_TooLarge : Addr} {C_BadMove : Addr} {C_BadCode : Addr} {f_BadCode___init : Addr} {T_SIGNS : Addr} {T_ROUND_NAMES : Addr} {T_BRAIN_NAMES : Addr} {T_EFFECTS : Addr}
theorem ok_law_names {f : Addr} {fd : FuncData} (D : C8.Def K mg "_law_names_of_code" s_law_names_of_code f fd) (b : Binds K fd [] []) (T : Txt K mg C_Checker C_GameError C_BadText C_TooLarge C_BadMove C_BadCode T_SIGNS T_ROUND_NAMES T_BRAIN_NAMES T_EFFECTS) : C8.Cal P w K mg base 1 "_law_names_of_code" sp_names [] := by
  refine cal0 D b .nil sc_law_names_of_code (fun vs H Q E h => ?_) (fun cdv A outer s H vs Q E hr h => ?_)
  · rw [h.1]; rfl
  · obtain ⟨rfl, k⟩ := h
    refine ⟨_, (pss_cons (ps_set (i := 0) sc_law_names_of_code.nd rfl (by first | exact Or.inl rfl | exact Or.inr rfl) pe_str)
(pss_one (ps_ret (pe_split (pv 0) pe_str)))), ?_⟩
    refine ⟨_, rfl, ⟨_, rfl⟩, _, _, rfl, rfl, by decide +kernel, smallM (by decide +kernel), fun p np => k p _ np ?_ (Keep.new np)⟩
    rw [names_split]; exact upd_same
theorem ok_law_takes {f : Addr} {fd : FuncData} (D : C8.Def K mg "_law_takes" s_law_takes f fd) (b : Binds K fd ["name"] []) (T : Txt K mg C_Checker C_GameError C_BadText C_TooLarge C_BadMove C_BadCode T_SIGNS T_ROUND_NAMES T_BRAIN_NAMES T_EFFECTS) : C8.Cal P w K mg base 1 "_law_takes" sp_takes [] := by
  refine cal0 D b .nil sc_law_takes (fun vs H Q E h => ?_) (fun cdv A outer s H vs Q E hr h => ?_)
  · obtain ⟨n, rfl, _⟩ := h
    rfl
  · obtain ⟨n, rfl, k⟩ := h
    refine ⟨_, (pss_cons (ps_set (i := 1) sc_law_takes.nd rfl (by first | exact Or.inl rfl | exact Or.inr rfl) pe_str)
(pss_cons (ps_for PassesOwn.never rfl (pi_list (pe_split (pv 1) pe_str)) (pg_name (i := 2) sc_law_takes.nd rfl (by first | exact Or.inl rfl | exact Or.inr rfl))
  (pss_one (ps_if (pt_cmpR op_eq (pe_slice sl_str (pv 2) po_none (po_some (pe_op op_sub (pe_callB call_len_str (by rfl) T.n_len bo_len (pa_cons (pv 2) pa_nil)) pe_int))) (pv 0) (nomark _))
    (pss_one (ps_ret (pe_tup (pa_cons (pe_op op_sub (pe_callB call_ord (by rfl) T.n_ord bo_ord (pa_cons (pe_ix ix_str (pv 2) (pe_op op_sub (pe_callB call_len_str (by rfl) T.n_len bo_len (pa_cons (pv 2) pa_nil)) pe_int) (fun _ _ => rfl)) pa_nil)) pe_int) (pa_cons (pe_op op_sub (pe_callB call_ord (by rfl) T.n_ord bo_ord (pa_cons (pe_ix ix_str (pv 2) (pe_op op_sub (pe_callB call_len_str (by rfl) T.n_len bo_len (pa_cons (pv 2) pa_nil)) pe_int) (fun _ _ => rfl)) pa_nil)) pe_int) pa_nil)))))
    pss_nil)))
(pss_one (ps_ret (pe_tup (pa_cons pe_int (pa_cons pe_int pa_nil))))))), ?_⟩
    refine ⟨_, rfl, ⟨_, rfl⟩, _, _, rfl, rfl, by decide +kernel, smallM (by decide +kernel), fun p np => ?_⟩
    rw [rows_split]
    refine ⟨p, rfl, ⟨_, SqL.of upd_same⟩, for_list (K := K) (a := p) (xs := rowsL.map V.str) (fun i σ H' => H' = upd H p (.lst (rowsL.map V.str)) ∧ (∃ (o1 o2 : Option V), σ = [some (.str n), o1, o2]) ∧ rowsL.find? (fun r => decide (rowNm r = n)) = (rowsL.drop i).find? (fun r => decide (rowNm r = n))) ⟨rfl, ⟨_, none, rfl⟩, rfl⟩ (fun i σ H' _ h => by rw [h.1]; exact SqL.of upd_same) ?_ ?_⟩
    · rintro i y σ H' hi ⟨rfl, ⟨o1, o2, rfl⟩, hf⟩
      obtain ⟨r, hr', rfl⟩ := strs_get hi
      obtain ⟨hlt, he⟩ := List.getElem?_eq_some_iff.mp hr'
      have hmem : r ∈ rowsL := he ▸ List.getElem_mem hlt
      obtain ⟨q1, q2, q3⟩ := rows_ok r hmem
      rw [List.drop_eq_getElem_cons hlt, he, List.find?_cons] at hf
      refine ⟨_, rfl, _, rfl, _, rfl, smallM (by omega), _, _, rfl, rfl, _, rfl, _, rfl, smallM (by omega), _, rfl, rfl, _, rfl, iteD (fun e => ?_) (fun e => ?_)⟩
      · have e : rowNm r = n := V.str.inj e
        rw [decide_eq_true e] at hf
        refine ⟨_, rfl, _, rfl, _, rfl, smallM (by omega), _, _, rfl, rfl, _, _, _, rfl, rfl, smallM (by omega), q2, _, rfl, rfl, _, _, rfl, rfl, ?_⟩
        refine ⟨_, rfl, _, rfl, _, rfl, smallM (by omega), _, _, rfl, rfl, _, _, _, rfl, rfl, smallM (by omega), q3, _, rfl, rfl, _, _, rfl, rfl, ?_⟩
        refine ⟨by show 2 ≤ sizeLine; decide, fun t nt => ?_⟩
        have kk : Keep [] H (upd (upd H p (.lst (rowsL.map V.str))) t (.tup [.int ((rowA r 2 : Int) - 48), .int ((rowA r 1 : Int) - 48)])) := (Keep.new np).then_new nt
        refine k t _ ((Keep.new (W := []) np).free nt) ?_ kk
        have : takesL n = ((rowA r 2 : Int) - 48, (rowA r 1 : Int) - 48) := by
          unfold takesL
          rw [hf]
        rw [this]; exact upd_same
      · have e' : ¬ rowNm r = n := fun z => e (congrArg V.str z)
        rw [decide_eq_false e'] at hf
        exact ⟨rfl, ⟨_, _, rfl⟩, hf⟩
    · rintro σ H' ⟨rfl, ⟨o1, o2, rfl⟩, hf⟩
      rw [List.length_map, List.drop_of_length_le (Nat.le_refl _), List.find?_nil] at hf
      refine ⟨by show 2 ≤ sizeLine; decide, fun t nt => ?_⟩
      have kk : Keep [] H (upd (upd H p (.lst (rowsL.map V.str))) t (.tup [.int 0, .int 0])) := (Keep.new np).then_new nt
      refine k t _ ((Keep.new (W := []) np).free nt) ?_ kk
      have : takesL n = (0, 0) := by
        unfold takesL
        rw [hf]
      rw [this]; exact upd_same
end

def m1 (n : Str) (a : Int) : Int := if n ∈ (["jump", "skip", "back", "push"] : List Str) then 65535 + (if a > 0 then a else 0) * (if (!decide (V.str n = V.str "push")) = true then 1 else 0) else 0
def m2 (n : Str) (a sl : Int) : Int := if n = "load" ∨ n = "store" then sl - 1 else m1 n a
def m3 (n : Str) (a sl : Int) : Int := if n = "sign" then 6 else m2 n a sl
def m4 (n : Str) (a sl : Int) : Int := if n = "show" then 2 else m3 n a sl
def m5 (n : Str) (a sl mo : Int) : Int := if n = "ask" then mo - 1 else m4 n a sl
theorem m5_fits (n : Str) (a sl mo : Int) : decide (0 ≤ a ∧ a ≤ m5 n a sl mo) = fitsA n a sl mo := by
  have dd : ∀ {p q : Prop} [Decidable p] [Decidable q], (p ↔ q) → decide p = decide q := fun h => decide_eq_decide.mpr h
  have s1 : ∀ x y : Str, x = y → (x = y) = True := fun x y h => by simp [h]
  by_cases e1 : n = "push"
  · subst e1
    have : m5 "push" a sl mo = 65535 := by
      have hm : ("push" : Str) ∈ (["jump", "skip", "back", "push"] : List Str) := by decide +kernel
      have hp : ¬ (!decide (V.str "push" = V.str "push")) = true := by simp
      unfold m5 m4 m3 m2
      rw [if_neg (by decide +kernel), if_neg (by decide +kernel), if_neg (by decide +kernel), if_neg (by decide +kernel)]
      unfold m1
      rw [if_pos hm, if_neg hp, Int.mul_zero]
      omega
    rw [this]
    unfold fitsA
    rw [if_pos rfl]
  by_cases e2 : n = "load" ∨ n = "store"
  · have : m5 n a sl mo = sl - 1 := by
      unfold m5 m4 m3 m2
      rcases e2 with rfl | rfl
      · rw [if_neg (by decide +kernel), if_neg (by decide +kernel), if_neg (by decide +kernel), if_pos (by decide +kernel)]
      · rw [if_neg (by decide +kernel), if_neg (by decide +kernel), if_neg (by decide +kernel), if_pos (by decide +kernel)]
    rw [this]
    unfold fitsA
    rw [if_neg e1, if_pos e2]
    exact dd (by omega)
  by_cases e3 : n = "sign"
  · subst e3
    have : m5 "sign" a sl mo = 6 := by
      unfold m5 m4 m3
      rw [if_neg (by decide +kernel), if_neg (by decide +kernel), if_pos rfl]
    rw [this]
    unfold fitsA
    rw [if_neg e1, if_neg e2, if_pos rfl]
    exact dd (by omega)
  by_cases e4 : n = "show"
  · subst e4
    have : m5 "show" a sl mo = 2 := by
      unfold m5 m4
      rw [if_neg (by decide +kernel), if_pos rfl]
    rw [this]
    unfold fitsA
    rw [if_neg e1, if_neg e2, if_neg e3, if_pos rfl]
  by_cases e5 : n = "ask"
  · subst e5
    have : m5 "ask" a sl mo = mo - 1 := by
      unfold m5
      rw [if_pos rfl]
    rw [this]
    unfold fitsA
    rw [if_neg e1, if_neg e2, if_neg e3, if_neg e4, if_pos rfl]
    exact dd (by omega)
  have e6 : m5 n a sl mo = m1 n a := by
    unfold m5 m4 m3 m2
    rw [if_neg e5, if_neg e4, if_neg e3, if_neg e2]
  rw [e6]
  unfold fitsA
  rw [if_neg e1, if_neg e2, if_neg e3, if_neg e4, if_neg e5]
  by_cases e7 : n = "jump" ∨ n = "skip" ∨ n = "back"
  · rw [if_pos e7]
    have : m1 n a = 65535 + (if a > 0 then a else 0) := by
      have hm : n ∈ (["jump", "skip", "back", "push"] : List Str) := by rcases e7 with rfl | rfl | rfl <;> decide +kernel
      have hp : (!decide (V.str n = V.str "push")) = true := by simp [e1]
      unfold m1
      rw [if_pos hm, if_pos hp, Int.mul_one]
    rw [this]
    refine dd ⟨fun h => h.1, fun h => ⟨h, ?_⟩⟩
    split <;> omega
  · rw [if_neg e7]
    have : m1 n a = 0 := by
      unfold m1
      refine if_neg fun h => ?_
      simp only [List.mem_cons, List.not_mem_nil, or_false] at h
      rcases h with h | h | h | h
      · exact e7 (.inl h)
      · exact e7 (.inr (.inl h))
      · exact e7 (.inr (.inr h))
      · exact e1 h
    rw [this]
    exact dd (by omega)
section
variable {P : Program} {w : World} {K : PySem.W.Frag} {mg : Str → Option Value} {base : Heap} {C_Checker : Addr} {C_GameError : Addr} {C_BadText : Addr} {C_TooLarge : Addr} {C_BadMove : Addr} {C_BadCode : Addr} {f_BadCode___init : Addr} {T_SIGNS : Addr} {T_ROUND_NAMES : Addr} {T_BRAIN_NAMES : Addr} {T_EFFECTS : Addr}
theorem ok_law_argument {f : Addr} {fd : FuncData} (D : C8.Def K mg "_law_argument" s_law_argument f fd) (b : Binds K fd ["pair", "slots", "moves"] []) (T : Txt K mg C_Checker C_GameError C_BadText C_TooLarge C_BadMove C_BadCode T_SIGNS T_ROUND_NAMES T_BRAIN_NAMES T_EFFECTS) : C8.Cal P w K mg base 1 "_law_argument" sp_arg [] := by
  refine cal0 D b .nil sc_law_argument (fun vs H Q E h => ?_) (fun cdv A outer s H vs Q E hr h => ?_)
  · obtain ⟨t, n, a, sl, mo, rfl, _⟩ := h
    rfl
  · obtain ⟨t, n, a, sl, mo, rfl, ht, k⟩ := h
    refine ⟨_, (pss_cons (ps_set (i := 3) sc_law_argument.nd rfl (by first | exact Or.inl rfl | exact Or.inr rfl) pe_int)
(pss_cut (ps_if (pt_cmpR op_in_seq (pe_ix ix_tup (pv 0) pe_int (fun _ _ => rfl)) (pe_tup (pa_cons pe_str (pa_cons pe_str (pa_cons pe_str (pa_cons pe_str pa_nil))))) (by rfl))
  (pss_one (ps_set (i := 3) sc_law_argument.nd rfl (by first | exact Or.inl rfl | exact Or.inr rfl) (pe_op op_add pe_int (pe_op op_mul (pe_callB (call_max2 rfl) (by rfl) T.n_max bo_max (pa_cons pe_int (pa_cons (pe_ix ix_tup (pv 0) pe_int (fun _ _ => rfl)) pa_nil))) (pe_callTy call_int1 (by rfl) T.n_int bo_int (pa_cons (pe_cmpR op_ne (pe_ix ix_tup (pv 0) pe_int (fun _ _ => rfl)) pe_str (nomark _)) pa_nil))))))
  pss_nil)
(pss_cut (ps_if (PW.pt (pw_or (pt_cmpR op_eq (pe_ix ix_tup (pv 0) pe_int (fun _ _ => rfl)) pe_str (nomark _)) (pw_or1 (pt_cmpR op_eq (pe_ix ix_tup (pv 0) pe_int (fun _ _ => rfl)) pe_str (nomark _)))))
  (pss_one (ps_set (i := 3) sc_law_argument.nd rfl (by first | exact Or.inl rfl | exact Or.inr rfl) (pe_op op_sub (pv 1) pe_int)))
  pss_nil)
(pss_cut (ps_if (pt_cmpR op_eq (pe_ix ix_tup (pv 0) pe_int (fun _ _ => rfl)) pe_str (nomark _))
  (pss_one (ps_set (i := 3) sc_law_argument.nd rfl (by first | exact Or.inl rfl | exact Or.inr rfl) pe_int))
  pss_nil)
(pss_cut (ps_if (pt_cmpR op_eq (pe_ix ix_tup (pv 0) pe_int (fun _ _ => rfl)) pe_str (nomark _))
  (pss_one (ps_set (i := 3) sc_law_argument.nd rfl (by first | exact Or.inl rfl | exact Or.inr rfl) pe_int))
  pss_nil)
(pss_cut (ps_if (pt_cmpR op_eq (pe_ix ix_tup (pv 0) pe_int (fun _ _ => rfl)) pe_str (nomark _))
  (pss_one (ps_set (i := 3) sc_law_argument.nd rfl (by first | exact Or.inl rfl | exact Or.inr rfl) (pe_op op_sub (pv 2) pe_int)))
  pss_nil)
(pss_one (ps_ret (pe_chain op_le op_le pe_int (pe_ix ix_tup (pv 0) pe_int (fun _ _ => rfl)) (pv 3)))))))))), ?_⟩
    have sig : ∀ v : Int, ([some (.ref t), some (.int sl), some (.int mo), some (.int v)] : List (Option V)) = [some (.ref t), some (.int sl), some (.int mo), some (.int v)] := fun _ => rfl
    refine ⟨fun σ H' => Keep [] H H' ∧ σ = [some (.ref t), some (.int sl), some (.int mo), some (.int (m1 n a))], ?_, ?_⟩
    · refine ⟨_, rfl, _, _, _, _, rfl, rfl, SqT.of ht, rfl, by show 4 ≤ sizeLine; decide, fun u nu => ⟨u, _, rfl, .inr (SqT.of upd_same), rfl, flat_strs ["jump", "skip", "back", "push"], _, rfl, iteB (fun e => ?_) (fun e => ?_)⟩⟩
      · have e' : inV (.str n) ((["jump", "skip", "back", "push"] : List Str).map V.str) = true := e
        rw [inV_strs] at e'
        have k1 : Keep [] H (upd H u (.tup ((["jump", "skip", "back", "push"] : List Str).map V.str))) := Keep.new nu
        have ht1 := k1 _ _ ht (by simp)
        refine ⟨_, rfl, _, _, _, _, rfl, rfl, SqT.of ht1, rfl, _, _, rfl, _, rfl, _, _, _, _, rfl, rfl, SqT.of ht1, rfl, rfl, .inr ⟨_, rfl, _, _, rfl, rfl, .inr ?_, _, _, rfl, rfl, ?_⟩⟩
        · split <;> exact ⟨by decide, by decide⟩
        · refine ⟨k1, ?_⟩
          unfold m1
          rw [if_pos (of_decide_eq_true e')]
          rfl
      · have e' : inV (.str n) ((["jump", "skip", "back", "push"] : List Str).map V.str) = false := e
        rw [inV_strs] at e'
        refine ⟨Keep.new nu, ?_⟩
        unfold m1
        rw [if_neg (of_decide_eq_false e')]
        rfl
    rintro σ H1 ⟨K1, rfl⟩
    have ht1 := K1 _ _ ht (by simp)
    have ne : ∀ {y : Str}, ¬ V.str n = V.str y → ¬ n = y := fun h z => h (congrArg V.str z)
    refine ⟨fun σ H' => H' = H1 ∧ σ = [some (.ref t), some (.int sl), some (.int mo), some (.int (m2 n a sl))], ?_, ?_⟩
    · have yes : (n = "load" ∨ n = "store") → m2 n a sl = sl - 1 := fun e => if_pos e
      refine ⟨_, rfl, _, _, _, _, rfl, rfl, SqT.of ht1, rfl, rfl, _, rfl, iteD (fun e => ?_) (fun e => ⟨_, rfl, _, _, _, _, rfl, rfl, SqT.of ht1, rfl, rfl, _, rfl, iteD (fun e2 => ?_) (fun e2 => ⟨rfl, ?_⟩)⟩)⟩
      · exact ⟨_, rfl, _, _, rfl, rfl, rfl, by rw [yes (.inl (V.str.inj e))]; rfl⟩
      · exact ⟨_, rfl, _, _, rfl, rfl, rfl, by rw [yes (.inr (V.str.inj e2))]; rfl⟩
      · have : m2 n a sl = m1 n a := if_neg fun z => z.elim (ne e) (ne e2)
        rw [this]
    rintro σ H' ⟨rfl, rfl⟩
    refine ⟨fun σ H1 => H1 = H' ∧ σ = [some (.ref t), some (.int sl), some (.int mo), some (.int (m3 n a sl))], ?_, ?_⟩
    · refine ⟨_, rfl, _, _, _, _, rfl, rfl, SqT.of ht1, rfl, rfl, _, rfl, iteD (fun e => ⟨rfl, ?_⟩) (fun e => ⟨rfl, ?_⟩)⟩
      · rw [show m3 n a sl = 6 from if_pos (V.str.inj e)]; rfl
      · rw [show m3 n a sl = m2 n a sl from if_neg (ne e)]
    rintro σ H1 ⟨rfl, rfl⟩
    refine ⟨fun σ H' => H' = H1 ∧ σ = [some (.ref t), some (.int sl), some (.int mo), some (.int (m4 n a sl))], ?_, ?_⟩
    · refine ⟨_, rfl, _, _, _, _, rfl, rfl, SqT.of ht1, rfl, rfl, _, rfl, iteD (fun e => ⟨rfl, ?_⟩) (fun e => ⟨rfl, ?_⟩)⟩
      · rw [show m4 n a sl = 2 from if_pos (V.str.inj e)]; rfl
      · rw [show m4 n a sl = m3 n a sl from if_neg (ne e)]
    rintro σ H' ⟨rfl, rfl⟩
    refine ⟨fun σ H1 => H1 = H' ∧ σ = [some (.ref t), some (.int sl), some (.int mo), some (.int (m5 n a sl mo))], ?_, ?_⟩
    · refine ⟨_, rfl, _, _, _, _, rfl, rfl, SqT.of ht1, rfl, rfl, _, rfl, iteD (fun e => ⟨_, rfl, _, _, rfl, rfl, rfl, ?_⟩) (fun e => ⟨rfl, ?_⟩)⟩
      · rw [show m5 n a sl mo = mo - 1 from if_pos (V.str.inj e)]; rfl
      · rw [show m5 n a sl mo = m4 n a sl from if_neg (ne e)]
    rintro σ H1 ⟨rfl, rfl⟩
    have kk := k _ K1
    rw [← m5_fits] at kk
    refine ⟨_, rfl, _, _, _, _, rfl, rfl, SqT.of ht1, rfl, _, _, rfl, rfl, _, rfl, iteD (fun h => ⟨_, rfl, _, _, rfl, rfl, ?_⟩) (fun h => ?_)⟩
    · have : decide (0 ≤ a ∧ a ≤ m5 n a sl mo) = decide (a ≤ m5 n a sl mo) := by simp [h]
      rw [this] at kk
      exact kk
    · have : decide (0 ≤ a ∧ a ≤ m5 n a sl mo) = false := by simp [h]
      rw [this] at kk
      exact kk
theorem ok_law_targets {f : Addr} {fd : FuncData} (D : C8.Def K mg "_law_targets" s_law_targets f fd) (b : Binds K fd ["at", "pair"] []) (T : Txt K mg C_Checker C_GameError C_BadText C_TooLarge C_BadMove C_BadCode T_SIGNS T_ROUND_NAMES T_BRAIN_NAMES T_EFFECTS) : C8.Cal P w K mg base 1 "_law_targets" (sp_tgts K) [] := by
  refine cal0 D b .nil sc_law_targets (fun vs H Q E h => ?_) (fun cdv A outer s H vs Q E hr h => ?_)
  · obtain ⟨t, n, a, i, rfl, _⟩ := h
    rfl
  · obtain ⟨t, n, a, i, rfl, ht, k⟩ := h
    refine ⟨_, (pss_cons (ps_if (PW.pt (pw_or (pt_cmpR op_eq (pe_ix ix_tup (pv 1) pe_int (fun _ _ => rfl)) pe_str (nomark _)) (pw_or1 (pt_cmpR op_eq (pe_ix ix_tup (pv 1) pe_int (fun _ _ => rfl)) pe_str (nomark _)))))
  (pss_one (ps_ret (pe_lst pa_nil)))
  pss_nil)
(pss_cons (ps_if (pt_cmpR op_eq (pe_ix ix_tup (pv 1) pe_int (fun _ _ => rfl)) pe_str (nomark _))
  (pss_one (ps_ret (pe_lst (pa_cons (pe_op op_add (pe_op op_add (pv 0) pe_int) (pe_ix ix_tup (pv 1) pe_int (fun _ _ => rfl))) pa_nil))))
  pss_nil)
(pss_cons (ps_if (pt_cmpR op_eq (pe_ix ix_tup (pv 1) pe_int (fun _ _ => rfl)) pe_str (nomark _))
  (pss_one (ps_ret (pe_lst (pa_cons (pe_op op_add (pv 0) pe_int) (pa_cons (pe_op op_add (pe_op op_add (pv 0) pe_int) (pe_ix ix_tup (pv 1) pe_int (fun _ _ => rfl))) pa_nil)))))
  pss_nil)
(pss_one (ps_ret (pe_lst (pa_cons (pe_op op_add (pv 0) pe_int) pa_nil))))))), ?_⟩
    unfold tgts at k
    have ne : ∀ {y : Str}, ¬ V.str n = V.str y → ¬ n = y := fun h z => h (congrArg V.str z)
    have c0 : (n = "end" ∨ n = "back") → 0 ≤ sizeLine ∧ ∀ p, H p = none → Q (.ref p) (upd H p (.lst [])) := fun e => by
      rw [if_pos e] at k
      exact ⟨Nat.zero_le _, fun p np => k p _ np upd_same (Keep.new np)⟩
    refine ⟨_, rfl, _, _, _, _, rfl, rfl, SqT.of ht, rfl, rfl, _, rfl, iteD (fun e => c0 (.inl (V.str.inj e))) (fun e => ⟨_, rfl, _, _, _, _, rfl, rfl, SqT.of ht, rfl, rfl, _, rfl, iteD (fun e2 => c0 (.inr (V.str.inj e2))) (fun e2 => ?_)⟩)⟩
    rw [if_neg (fun z => z.elim (ne e) (ne e2))] at k
    refine ⟨_, rfl, _, _, _, _, rfl, rfl, SqT.of ht, rfl, rfl, _, rfl, iteD (fun e => ?_) (fun e => ?_)⟩
    · rw [if_pos (V.str.inj e)] at k
      exact ⟨_, rfl, _, _, rfl, rfl, _, rfl, _, _, _, _, rfl, rfl, SqT.of ht, rfl, _, _, rfl, rfl, by show 1 ≤ sizeLine; decide, fun p np => k p _ np upd_same (Keep.new np)⟩
    rw [if_neg (ne e)] at k
    refine ⟨_, rfl, _, _, _, _, rfl, rfl, SqT.of ht, rfl, rfl, _, rfl, iteD (fun e => ?_) (fun e => ?_)⟩
    · rw [if_pos (V.str.inj e)] at k
      exact ⟨_, rfl, _, _, rfl, rfl, _, rfl, _, _, rfl, rfl, _, rfl, _, _, _, _, rfl, rfl, SqT.of ht, rfl, _, _, rfl, rfl, by show 2 ≤ sizeLine; decide, fun p np => k p _ np upd_same (Keep.new np)⟩
    rw [if_neg (ne e)] at k
    exact ⟨_, rfl, _, _, rfl, rfl, by show 1 ≤ sizeLine; decide, fun p np => k p _ np upd_same (Keep.new np)⟩
end

theorem ixN_j {n j : Nat} (hj : j < n) : ixN n (j : Int) = some j := by
  unfold ixN
  rw [if_pos (by omega), if_pos (by omega)]
  simp
/-- what a code's check comes to -/
def Out (cs : List Ins) (sl mo : Int) (b : Bool) : Sum Nat Int → Prop
  | .inl i => BadAt cs sl mo b i
  | .inr t => cs ≠ [] ∧ ∃ s, upto cs sl mo b cs.length = some s ∧ t = s.2
def resV : Sum Nat Int → List V
  | .inl i => [.str "refused", .int (i : Int), .bl true]
  | .inr t => [.str "passed", .int t]
theorem upto_none {cs : List Ins} {sl mo : Int} {b : Bool} {i : Nat} (h : upto cs sl mo b i = none) : ∀ k, upto cs sl mo b (i + k) = none
  | 0 => h
  | k + 1 => by
    have ih := upto_none h k
    show (match upto cs sl mo b (i + k), cs[i + k]? with | some s, some p => good1 cs sl mo b ((i + k : Nat) : Int) p.1 p.2 s.1 s.2 | _, _ => none) = none
    rw [ih]
theorem bad_le {cs : List Ins} {sl mo : Int} {b : Bool} {i j : Nat} (h : upto cs sl mo b (i + 1) = none) (g : ∃ s, upto cs sl mo b j = some s) : j ≤ i := by
  obtain ⟨s, g⟩ := g
  apply Classical.byContradiction
  intro z
  have := upto_none h (j - (i + 1))
  rw [show i + 1 + (j - (i + 1)) = j by omega, g] at this
  cases this
theorem Out.one {cs : List Ins} {sl mo : Int} {b : Bool} {r r' : Sum Nat Int} (h : Out cs sl mo b r) (h' : Out cs sl mo b r') : r = r' := by
  cases r with
  | inl i =>
    cases r' with
    | inl j =>
      rcases h with ⟨e, rfl⟩ | ⟨h1, h2, h3⟩
      · rcases h' with ⟨_, rfl⟩ | ⟨g1, _, _⟩
        · rfl
        · rw [e] at g1; simp at g1
      · rcases h' with ⟨e, rfl⟩ | ⟨g1, g2, g3⟩
        · rw [e] at h1; simp at h1
        · have := bad_le h3 g2
          have := bad_le g3 h2
          rw [show i = j by omega]
    | inr t =>
      obtain ⟨g1, s, g2, _⟩ := h'
      rcases h with ⟨e, _⟩ | ⟨h1, h2, h3⟩
      · exact absurd e g1
      · have := bad_le h3 ⟨s, g2⟩
        omega
  | inr t =>
    obtain ⟨h1, s, h2, rfl⟩ := h
    cases r' with
    | inl j =>
      rcases h' with ⟨e, _⟩ | ⟨g1, g2, g3⟩
      · exact absurd e h1
      · have := bad_le g3 ⟨s, h2⟩
        omega
    | inr t' =>
      obtain ⟨_, s', g2, rfl⟩ := h'
      rw [h2] at g2
      cases g2
      rfl
def optV : Option Int → V
  | none => .non
  | some v => .int v
/-- the law's list of heights -/
def HL (H : Hp) (p : Addr) (h : Hts) (len : Nat) : Prop := ∃ xs, H p = some (.lst xs) ∧ xs.length = len ∧ ∀ i : Nat, i < len → xs[i]? = some (optV (h (i : Int)))
theorem HL.put {H : Hp} {p : Addr} {h : Hts} {len i : Nat} {xs : List V} {v : Int} (h1 : H p = some (.lst xs)) (h2 : xs.length = len) (h3 : ∀ i : Nat, i < len → xs[i]? = some (optV (h (i : Int)))) (hi : i < len) : HL (upd H p (.lst (xs.set i (.int v)))) p (setH h (i : Int) v) len := by
  refine ⟨_, upd_same, by rw [List.length_set, h2], fun j hj => ?_⟩
  rw [List.getElem?_set]
  unfold setH
  by_cases e : i = j
  · subst e
    rw [if_pos rfl, if_pos (by omega), if_pos rfl]; rfl
  · rw [if_neg e, if_neg (by omega)]
    exact h3 j hj
theorem tgts_nonneg {i a sl mo : Int} {n : Str} (h : fitsA n a sl mo = true) (hi : 0 ≤ i) : ∀ t ∈ tgts i n a, 0 ≤ t := by
  intro t ht
  have ha : n = "jump" ∨ n = "skip" → 0 ≤ a := fun e => by
    unfold fitsA at h
    have e1 : ¬ n = "push" := by rcases e with rfl | rfl <;> decide +kernel
    have e2 : ¬ (n = "load" ∨ n = "store") := by rcases e with rfl | rfl <;> decide +kernel
    have e3 : ¬ n = "sign" := by rcases e with rfl | rfl <;> decide +kernel
    have e4 : ¬ n = "show" := by rcases e with rfl | rfl <;> decide +kernel
    have e5 : ¬ n = "ask" := by rcases e with rfl | rfl <;> decide +kernel
    rw [if_neg e1, if_neg e2, if_neg e3, if_neg e4, if_neg e5, if_pos (e.elim .inl fun z => .inr (.inl z))] at h
    exact of_decide_eq_true h
  unfold tgts at ht
  split at ht
  · cases ht
  split at ht
  · rename_i e
    have := ha (.inl e)
    simp only [List.mem_singleton] at ht
    omega
  split at ht
  · rename_i e
    have := ha (.inr e)
    simp only [List.mem_cons, List.not_mem_nil, or_false] at ht
    omega
  · simp only [List.mem_singleton] at ht
    omega
theorem good1_of {cs : List Ins} {sl mo : Int} {b : Bool} {i : Int} {n : Str} {a : Int} {h : Hts} {top v : Int} (hv : h i = some v) (hin : n ∈ nmsOf b) (hf : fitsA n a sl mo = true) (hw : ¬ (v < (eff n).1 ∨ v - (eff n).1 + (eff n).2 > 16)) (he : n = "end" → v = b2i' b) (hb : n = "back" → backOk cs h i (i - a) = true) :
    good1 cs sl mo b i n a h top = (reach cs.length (v - (eff n).1 + (eff n).2) (tgts i n a) h).map fun h' => (h', if v - (eff n).1 + (eff n).2 > top then v - (eff n).1 + (eff n).2 else top) := by
  unfold good1
  simp only [hv]
  rw [if_neg (fun z => z hin), if_neg (by rw [hf]; simp), if_neg hw]
  by_cases e1 : n = "end"
  · rw [if_pos e1, if_pos (he e1)]
    have ht : tgts i n a = [] := by unfold tgts; exact if_pos (.inl e1)
    rw [ht]; rfl
  · rw [if_neg e1]
    by_cases e2 : n = "back"
    · rw [if_pos e2, if_pos (hb e2)]
      have ht : tgts i n a = [] := by unfold tgts; exact if_pos (.inr e2)
      rw [ht]; rfl
    · rw [if_neg e2]
def goodB (n : Str) (a sl mo : Int) (b : Bool) (o : Option Int) : Bool := o.isSome && (fitsA n a sl mo && decide (n ∈ nmsOf b))
theorem good1_no {cs : List Ins} {sl mo : Int} {b : Bool} {i : Int} {n : Str} {a : Int} {h : Hts} {top : Int} (hg : goodB n a sl mo b (h i) = false) : good1 cs sl mo b i n a h top = none := by
  unfold good1
  unfold goodB at hg
  cases hv : h i with
  | none => rfl
  | some v =>
    rw [hv] at hg
    simp only
    by_cases h1 : n ∈ nmsOf b
    · rw [if_neg (fun z => z h1), if_pos]
      simpa [h1] using hg
    · rw [if_pos h1]
theorem nms_cut : ∀ b : Bool, ∀ n ∈ allNm, decide (n ∈ nmsOf b) = !decide (n ∈ (if b then ["ask", "show", "pay", "take"] else ["view", "long", "unit", "back"] : List Str)) := by decide +kernel
theorem nms_eq (b : Bool) (n : Str) : (decide (n ∈ allNm) && !decide (n ∈ (if b then ["ask", "show", "pay", "take"] else ["view", "long", "unit", "back"] : List Str))) = decide (n ∈ nmsOf b) := by
  by_cases h : n ∈ allNm
  · rw [nms_cut b n h, decide_eq_true h, Bool.true_and]
  · rw [decide_eq_false h, Bool.false_and, decide_eq_false (fun z => h (nms_all b n z))]
def sp_checked : Sp := fun vs H Q _ => ∃ (c : Addr) (xs : List V) (cs : List Ins) (sl mo : Int) (b : Bool), vs = [.ref c, .int sl, .int mo, .bl b] ∧ H c = some (.lst xs) ∧ Prs H xs cs ∧ NmOk cs ∧ cs.length ≤ 200000 ∧ ∀ r t H', Out cs sl mo b r → H t = none → H' t = some (.tup (resV r)) → Keep [] H H' → Q (.ref t) H'
section
variable {P : Program} {w : World} {K : PySem.W.Frag} {mg : Str → Option Value} {base : Heap} {C_Checker : Addr} {C_GameError : Addr} {C_BadText : Addr} {C_TooLarge : Addr} {C_BadMove : Addr} {C_BadCode : Addr} {f_BadCode___init : Addr} {T_SIGNS : Addr} {T_ROUND_NAMES : Addr} {T_BRAIN_NAMES : Addr} {T_EFFECTS : Addr}
theorem ok_law_checked {f : Addr} {fd : FuncData} (D : C8.Def K mg "_law_checked" s_law_checked f fd) (b : Binds K fd ["code", "slots", "moves", "brain"] []) (T : Txt K mg C_Checker C_GameError C_BadText C_TooLarge C_BadMove C_BadCode T_SIGNS T_ROUND_NAMES T_BRAIN_NAMES T_EFFECTS) (c_law_takes : C8.Cal P w K mg base 1 "_law_takes" sp_takes []) (c_law_argument : C8.Cal P w K mg base 1 "_law_argument" sp_arg [])
    (c_law_names_of_code : C8.Cal P w K mg base 1 "_law_names_of_code" sp_names []) (c_law_targets : C8.Cal P w K mg base 1 "_law_targets" (sp_tgts K) []) : C8.Cal P w K mg base 2 "_law_checked" sp_checked [] := by
  refine cal0 D b .nil sc_law_checked (fun vs H Q E h => ?_) (fun cdv A outer s H vs Q E hr h => ?_)
  · obtain ⟨c, xs, cs, sl, mo, b, rfl, _⟩ := h
    rfl
  · obtain ⟨c, xs, cs, sl, mo, b, rfl, hc, prs, hnm, hn, k⟩ := h
    refine ⟨_, (pss_cons (ps_set (i := 4) sc_law_checked.nd rfl (by first | exact Or.inl rfl | exact Or.inr rfl) (pe_op op_rep (pe_lst (pa_cons pe_non pa_nil)) (pe_callB call_len_seq (by rfl) T.n_len bo_len (pa_cons (pv 0) pa_nil))))
(pss_cons (ps_set (i := 5) sc_law_checked.nd rfl (by first | exact Or.inl rfl | exact Or.inr rfl) pe_int)
(pss_cons (ps_for PassesOwn.never rfl (pi_range1 (by rfl) T.n_range (pa_cons (pe_callB call_len_seq (by rfl) T.n_len bo_len (pa_cons (pv 0) pa_nil)) pa_nil)) (pg_name (i := 6) sc_law_checked.nd rfl (by first | exact Or.inl rfl | exact Or.inr rfl))
  (pss_cut (ps_if (pt_cmpR op_eq (pv 6) pe_int (nomark _))
    (pss_one (ps_asg pe_int (pg_sub (pv 4) pe_int set_list)))
    pss_nil)
  (pss_cons (ps_set (i := 7) sc_law_checked.nd rfl (by first | exact Or.inl rfl | exact Or.inr rfl) (pe_ix ix_list (pv 0) (pv 6) (fun _ _ => rfl)))
  (pss_cons (ps_set (i := 8) sc_law_checked.nd rfl (by first | exact Or.inl rfl | exact Or.inr rfl) (pe_c c_law_takes hr (by first | exact Nat.le_refl _ | decide) rfl (pa_cons (pe_ix ix_tup (pv 7) pe_int (fun _ _ => rfl)) pa_nil)))
  (pss_cut (ps_set (i := 9) sc_law_checked.nd rfl (by first | exact Or.inl rfl | exact Or.inr rfl) (pe_and (pe_cmpR op_notN (pe_ix ix_list (pv 4) (pv 6) (fun _ _ => rfl)) pe_non (nomark _)) (pe_and (pe_c c_law_argument hr (by first | exact Nat.le_refl _ | decide) rfl (pa_cons (pv 7) (pa_cons (pv 1) (pa_cons (pv 2) pa_nil)))) (pe_one (pe_cmpR op_in_seq (pe_ix ix_tup (pv 7) pe_int (fun _ _ => rfl)) (pe_c0 c_law_names_of_code hr (by first | exact Nat.le_refl _ | decide) rfl) (by rfl))))))
  (pss_cut (ps_if (pt_val (pv 3))
    (pss_one (ps_set (i := 9) sc_law_checked.nd rfl (by first | exact Or.inl rfl | exact Or.inr rfl) (pe_and (pv 9) (pe_one (pe_cmpR op_notIn_seq (pe_ix ix_tup (pv 7) pe_int (fun _ _ => rfl)) (pe_tup (pa_cons pe_str (pa_cons pe_str (pa_cons pe_str (pa_cons pe_str pa_nil))))) (by rfl))))))
    (pss_one (ps_set (i := 9) sc_law_checked.nd rfl (by first | exact Or.inl rfl | exact Or.inr rfl) (pe_and (pv 9) (pe_one (pe_cmpR op_notIn_seq (pe_ix ix_tup (pv 7) pe_int (fun _ _ => rfl)) (pe_tup (pa_cons pe_str (pa_cons pe_str (pa_cons pe_str (pa_cons pe_str pa_nil))))) (by rfl)))))))
  (pss_cons (ps_if (PW.pt (pw_or (pt_not (pt_val (pv 9))) (pw_or (pt_cmpR op_lt (pe_ix ix_list (pv 4) (pv 6) (fun _ _ => rfl)) (pe_ix ix_tup (pv 8) pe_int (fun _ _ => rfl)) (nomark _)) (pw_or1 (pt_cmpR op_gt (pe_op op_add (pe_op op_sub (pe_ix ix_list (pv 4) (pv 6) (fun _ _ => rfl)) (pe_ix ix_tup (pv 8) pe_int (fun _ _ => rfl))) (pe_ix ix_tup (pv 8) pe_int (fun _ _ => rfl))) pe_int (nomark _))))))
    (pss_one (ps_ret (pe_tup (pa_cons pe_str (pa_cons (pv 6) (pa_cons pe_bl pa_nil))))))
    pss_nil)
  (pss_cut (ps_if (PW.pt (pw_and (pt_cmpR op_eq (pe_ix ix_tup (pv 7) pe_int (fun _ _ => rfl)) pe_str (nomark _)) (pw_and1 (pt_cmpR op_ne (pe_ix ix_list (pv 4) (pv 6) (fun _ _ => rfl)) (pe_callTy call_int1 (by rfl) T.n_int bo_int (pa_cons (pv 3) pa_nil)) (nomark _)))))
    (pss_one (ps_ret (pe_tup (pa_cons pe_str (pa_cons (pv 6) (pa_cons pe_bl pa_nil))))))
    pss_nil)
  (pss_cons (ps_set (i := 10) sc_law_checked.nd rfl (by first | exact Or.inl rfl | exact Or.inr rfl) (pe_op op_add (pe_op op_sub (pe_ix ix_list (pv 4) (pv 6) (fun _ _ => rfl)) (pe_ix ix_tup (pv 8) pe_int (fun _ _ => rfl))) (pe_ix ix_tup (pv 8) pe_int (fun _ _ => rfl))))
  (pss_cons (ps_set (i := 5) sc_law_checked.nd rfl (by first | exact Or.inl rfl | exact Or.inr rfl) (pe_callB (call_max2 rfl) (by rfl) T.n_max bo_max (pa_cons (pv 5) (pa_cons (pv 10) pa_nil))))
  (pss_cut (ps_if (pt_cmpR op_eq (pe_ix ix_tup (pv 7) pe_int (fun _ _ => rfl)) pe_str (nomark _))
    (pss_cons (ps_set (i := 11) sc_law_checked.nd rfl (by first | exact Or.inl rfl | exact Or.inr rfl) (pe_op op_sub (pv 6) (pe_ix ix_tup (pv 7) pe_int (fun _ _ => rfl))))
    (pss_one (ps_if (PW.pt (pw_or (pt_not (pt_chain op_le op_lt pe_int (pv 11) (pv 6))) (pw_or (pt_cmpR (op_neD hr.units) (pe_ix ix_list (pv 0) (pv 11) (fun _ _ => rfl)) (pe_tup (pa_cons pe_str (pa_cons pe_int pa_nil))) (nomark _)) (pw_or1 (pt_cmpR op_ne (pe_ix ix_list (pv 4) (pv 11) (fun _ _ => rfl)) (pv 10) (nomark _))))))
      (pss_one (ps_ret (pe_tup (pa_cons pe_str (pa_cons (pv 6) (pa_cons pe_bl pa_nil))))))
      pss_nil)))
    pss_nil)
  (pss_one (ps_for PassesOwn.never rfl (pi_list (pe_c c_law_targets hr (by first | exact Nat.le_refl _ | decide) rfl (pa_cons (pv 6) (pa_cons (pv 7) pa_nil)))) (pg_name (i := 11) sc_law_checked.nd rfl (by first | exact Or.inl rfl | exact Or.inr rfl))
    (pss_cons (ps_if (PW.pt (pw_or (pt_cmpR op_ge (pv 11) (pe_callB call_len_seq (by rfl) T.n_len bo_len (pa_cons (pv 0) pa_nil)) (nomark _)) (pw_or1 (PW.pt (pw_and (pt_cmpR op_notN (pe_ix ix_list (pv 4) (pv 11) (fun _ _ => rfl)) pe_non (nomark _)) (pw_and1 (pt_cmpR op_ne (pe_ix ix_list (pv 4) (pv 11) (fun _ _ => rfl)) (pv 10) (nomark _))))))))
      (pss_one (ps_ret (pe_tup (pa_cons pe_str (pa_cons (pv 6) (pa_cons pe_bl pa_nil))))))
      pss_nil)
    (pss_one (ps_asg (pv 10) (pg_sub (pv 4) (pv 11) set_list)))))))))))))))))
(pss_cons (ps_if (pt_cmpR op_eq (pe_callB call_len_seq (by rfl) T.n_len bo_len (pa_cons (pv 0) pa_nil)) pe_int (nomark _))
  (pss_one (ps_ret (pe_tup (pa_cons pe_str (pa_cons pe_int (pa_cons pe_bl pa_nil))))))
  pss_nil)
(pss_one (ps_ret (pe_tup (pa_cons pe_str (pa_cons (pv 5) pa_nil))))))))), ?_⟩
    have hlen := prs.len
    refine ⟨by show 1 ≤ sizeLine; decide, fun l0 nl0 => ?_⟩
    have k0 : Keep [] H (upd H l0 (.lst [.non])) := Keep.new nl0
    refine ⟨_, rfl, _, _, rfl, .inl (SqL.of (k0 _ _ hc (by simp))), _, _, _, rfl, rfl, upd_same, by omega, by omega, ?_, fun p np => ?_⟩
    · rw [hlen]; exact smallM (by simp; omega)
    have hrep : (List.replicate (xs.length : Int).toNat [V.non]).flatten = List.replicate cs.length .non := by
      rw [← hlen]
      have : (xs.length : Int).toNat = xs.length := by omega
      rw [this]
      generalize xs.length = m
      induction m with
      | zero => rfl
      | succ m ih => rw [List.replicate_succ, List.flatten_cons, ih]; rfl
    rw [hrep]
    have hc1 : upd (upd H l0 (.lst [.non])) p (.lst (List.replicate cs.length .non)) c = some (.lst xs) := Keep.new (W := []) np _ _ (k0 _ _ hc (by simp)) (by simp)
    have k1 : Keep [] H (upd (upd H l0 (.lst [.non])) p (.lst (List.replicate cs.length .non))) := k0.then_new np
    have hp1 : upd (upd H l0 (.lst [.non])) p (.lst (List.replicate cs.length .non)) p = some (.lst (List.replicate cs.length .non)) := upd_same
    have np0 : H p = none := k0.free np
    generalize upd (upd H l0 (.lst [.non])) p (.lst (List.replicate cs.length .non)) = H1 at *
    have ncp : c ≠ p := ne_of_none hc np0
    have wc : c ∉ [p] := by simpa using ncp
    have own : ∀ {H2 : Hp}, Keep [p] H1 H2 → Keep [] H H2 := fun k2 e o he hw => k2 e o (k1 e o he (by simp)) (by simpa using ne_of_none he np0)
    have prs1 := prs.tk k1.tk
    have tkp : ∀ {H2 : Hp}, Keep [p] H1 H2 → TK H1 H2 := fun k2 => k2.tk1 hp1
    have hl0 : HL H1 p (fun _ => none) cs.length := ⟨_, hp1, by simp, fun i hi => by rw [List.getElem?_replicate, if_pos hi]; rfl⟩
    clear hl0
    refine ⟨_, rfl, _, _, rfl, .inl (SqL.of hc1), _, rfl, by omega, by omega, ?_⟩
    rw [hlen]
    refine for_range (lo := 0) (n := cs.length) (fun i σ H' => ∃ (st : Hts × Int) (o6 o7 o8 o9 o10 o11 : Option V), σ = [some (.ref c), some (.int sl), some (.int mo), some (.bl b), some (.ref p), some (.int st.2), o6, o7, o8, o9, o10, o11] ∧ upto cs sl mo b i = some st ∧ HL H' p (if i = 0 then fun _ => none else st.1) cs.length ∧ Keep [p] H1 H')
      ⟨(h0, 0), none, none, none, none, none, none, rfl, rfl, ⟨_, hp1, by simp, fun i hi => by rw [List.getElem?_replicate, if_pos hi]; rfl⟩, Keep.refl _ _⟩ ?_ ?_
    · rintro i σ H2 hi ⟨st, o6, o7, o8, o9, o10, o11, rfl, hst, hL, K2⟩
      have e0 : (0 : Int) + (i : Int) = (i : Int) := by omega
      rw [e0]
      have hget : cs[i]? = some cs[i] := List.getElem?_eq_getElem hi
      generalize cs[i] = pr at hget
      obtain ⟨n, a⟩ := pr
      have hnn : n ∈ allNm ++ (["", "halt", "push ", "pushes"] : List Str) := hnm (n, a) (List.mem_of_getElem? hget)
      have hup : upto cs sl mo b (i + 1) = good1 cs sl mo b (i : Int) n a st.1 st.2 := by
        show (match upto cs sl mo b i, cs[i]? with | some s, some p => good1 cs sl mo b (i : Int) p.1 p.2 s.1 s.2 | _, _ => none) = _
        rw [hst, hget]
      -- refused here
      have ref : ∀ {H3 : Hp}, good1 cs sl mo b (i : Int) n a st.1 st.2 = none → Keep [p] H1 H3 → 3 ≤ sizeLine ∧ ∀ t, H3 t = none → Q (.ref t) (upd H3 t (.tup [.str "refused", .int (i : Int), .bl true])) := fun e K => ⟨by decide, fun t nt =>
        k (.inl i) t _ (.inr ⟨hi, ⟨st, hst⟩, hup.trans e⟩) ((own K).free nt) upd_same ((own K).then_new nt)⟩
      refine ⟨fun σ H' => σ = [some (.ref c), some (.int sl), some (.int mo), some (.bl b), some (.ref p), some (.int st.2), some (.int (i : Int)), o7, o8, o9, o10, o11] ∧ HL H' p st.1 cs.length ∧ Keep [p] H1 H', ?_, ?_⟩
      · refine ⟨_, rfl, rfl, _, rfl, iteD (fun e => ?_) (fun e => ⟨rfl, ?_, K2⟩)⟩
        · have e : (i : Int) = 0 := V.int.inj e
          have e : i = 0 := by omega
          subst e
          obtain ⟨ys, g1, g2, g3⟩ := hL
          refine ⟨_, rfl, _, _, _, 0, rfl, rfl, g1, ?_, rfl, ?_, K2.then_at (List.mem_singleton.mpr rfl)⟩
          · have : 0 < ys.length := by omega
            exact ixN_j this
          · have := HL.put (v := 0) g1 g2 g3 hi
            have e2 : st = (h0, 0) := by
              have : upto cs sl mo b 0 = some (h0, 0) := rfl
              rw [this] at hst
              exact (Option.some.inj hst).symm
            rw [e2]
            exact this
        · have : ¬ i = 0 := fun z => e (by rw [z]; rfl)
          rw [if_neg this] at hL
          exact hL
      rintro σ H3 ⟨rfl, hL, K3⟩
      obtain ⟨u, hu1, hu2⟩ := (prs1.tk (tkp K3)).get hget
      have hc3 := K3 _ _ hc1 wc
      refine ⟨_, rfl, _, rfl, _, _, _, _, rfl, rfl, SqL.of hc3, atI_nat hu1, ?_⟩
      refine ⟨_, rfl, _, _, _, _, rfl, rfl, SqT.of hu2, rfl, n, rfl, fun tt H4 ntt htt K4 => ?_⟩
      rw [takes_eff n hnn] at htt
      obtain ⟨ys, g1, g2, g3⟩ := hL
      have gi := g3 i hi
      have K34 : Keep [p] H1 H4 := K3.trans (K4.mono (by simp))
      have g4 := K4 _ _ g1 (by simp)
      have hu4 := K4 _ _ hu2 (by simp)
      -- is it good?
      refine ⟨fun σ H' => σ = [some (.ref c), some (.int sl), some (.int mo), some (.bl b), some (.ref p), some (.int st.2), some (.int (i : Int)), some (.ref u), some (.ref tt), some (.bl ((st.1 (i : Int)).isSome && (fitsA n a sl mo && decide (n ∈ allNm)))), o10, o11] ∧ Keep [] H4 H', ?_, ?_⟩
      · refine ⟨_, rfl, _, rfl, _, _, _, _, rfl, rfl, SqL.of g4, atI_nat gi, rfl, ?_⟩
        cases hv : st.1 (i : Int) with
        | none => exact ⟨_, rfl, iteNF (p := optV none = V.non) rfl ⟨rfl, Keep.refl _ _⟩⟩
        | some v =>
          refine ⟨_, rfl, iteNT (p := optV (some v) = V.non) (by intro z; cases z) ?_⟩
          refine ⟨_, rfl, _, rfl, _, rfl, u, n, a, sl, mo, rfl, hu4, fun H5 K5 => ?_⟩
          cases hf : fitsA n a sl mo with
          | false => exact ⟨_, rfl, iteF ⟨rfl, K5⟩⟩
          | true =>
            refine ⟨_, rfl, iteT ?_⟩
            refine ⟨_, rfl, _, _, _, _, rfl, rfl, SqT.of (K5 _ _ hu4 (by simp)), rfl, rfl, fun l H6 nl hl K6 => ⟨l, _, rfl, .inl (SqL.of hl), rfl, flat_strs allNm, ?_⟩⟩
            refine ⟨?_, K5.trans K6⟩
            show _ = [_, _, _, _, _, _, _, _, _, some (V.bl (true && (true && decide (n ∈ allNm)))), _, _]
            rw [← inV_strs]; rfl
      rintro σ H5 ⟨rfl, K5⟩
      have exm : ∀ {H6 H7 : Hp} {ex : List Str} {Z : Prop}, ex.length = 4 → (∀ t, H6 t = none → (H7 = upd H6 t (.tup (ex.map V.str)) → Z)) → Z → Z := fun _ _ z => z
      clear exm
      have hu5 := K5 _ _ hu4 (by simp)
      refine ⟨fun σ H' => σ = [some (.ref c), some (.int sl), some (.int mo), some (.bl b), some (.ref p), some (.int st.2), some (.int (i : Int)), some (.ref u), some (.ref tt), some (.bl (goodB n a sl mo b (st.1 (i : Int)))), o10, o11] ∧ Keep [] H4 H', ?_, ?_⟩
      · have fin : ∀ ex : List Str, (decide (n ∈ allNm) && !decide (n ∈ ex)) = decide (n ∈ nmsOf b) → ((st.1 (i : Int)).isSome && (fitsA n a sl mo && decide (n ∈ allNm))) = true → (!inV (.str n) (ex.map V.str)) = goodB n a sl mo b (st.1 (i : Int)) := fun ex e1 e2 => by
          unfold goodB
          rw [inV_strs, ← e1]
          simp only [Bool.and_eq_true] at e2
          rw [e2.1, e2.2.1, e2.2.2]; simp
        have fin0 : ((st.1 (i : Int)).isSome && (fitsA n a sl mo && decide (n ∈ allNm))) = false → goodB n a sl mo b (st.1 (i : Int)) = false := fun e => by
          unfold goodB
          cases h1 : (st.1 (i : Int)).isSome with
          | false => rfl
          | true =>
            cases h2 : fitsA n a sl mo with
            | false => rfl
            | true =>
              rw [h1, h2] at e
              have e' : ¬ n ∈ allNm := by simpa using e
              rw [decide_eq_false (fun z => e' (nms_all b n z))]; rfl
        refine ⟨_, rfl, _, rfl, iteB (fun eb => ?_) (fun eb => ?_)⟩
        · subst eb
          refine ⟨_, rfl, _, rfl, iteB (fun eg => ?_) (fun eg => ?_)⟩
          · refine ⟨_, rfl, _, _, _, _, rfl, rfl, SqT.of hu5, rfl, by show 4 ≤ sizeLine; decide, fun v nv => ⟨v, (["ask", "show", "pay", "take"] : List Str).map V.str, rfl, .inr (SqT.of upd_same), rfl, flat_strs ["ask", "show", "pay", "take"], ?_, K5.then_new nv⟩⟩
            rw [← fin ["ask", "show", "pay", "take"] (nms_eq true n) eg]; rfl
          · exact ⟨by rw [fin0 eg]; rfl, K5⟩
        · subst eb
          refine ⟨_, rfl, _, rfl, iteB (fun eg => ?_) (fun eg => ?_)⟩
          · refine ⟨_, rfl, _, _, _, _, rfl, rfl, SqT.of hu5, rfl, by show 4 ≤ sizeLine; decide, fun v nv => ⟨v, (["view", "long", "unit", "back"] : List Str).map V.str, rfl, .inr (SqT.of upd_same), rfl, flat_strs ["view", "long", "unit", "back"], ?_, K5.then_new nv⟩⟩
            rw [← fin ["view", "long", "unit", "back"] (nms_eq false n) eg]; rfl
          · exact ⟨by rw [fin0 eg]; rfl, K5⟩
      rintro σ H6 ⟨rfl, K6⟩
      have K16 : Keep [p] H1 H6 := K34.trans (K6.mono (by simp))
      have g6 := K6 _ _ g4 (by simp)
      have hu6 := K6 _ _ hu4 (by simp)
      have htt6 := K6 _ _ htt (by simp)
      have hc6 := K16 _ _ hc1 wc
      cases hg : goodB n a sl mo b (st.1 (i : Int)) with
      | false => exact ⟨_, rfl, _, rfl, iteT ⟨_, rfl, ref (good1_no hg) K16⟩⟩
      | true =>
        obtain ⟨v, hv, hf, hin⟩ : ∃ v, st.1 (i : Int) = some v ∧ fitsA n a sl mo = true ∧ n ∈ nmsOf b := by
          unfold goodB at hg
          simp only [Bool.and_eq_true] at hg
          obtain ⟨v, hv⟩ := Option.isSome_iff_exists.mp hg.1
          exact ⟨v, hv, hg.2.1, of_decide_eq_true hg.2.2⟩
        rw [hv] at gi
        have rH : ∀ {Q' : VK}, Q' (.int v) H6 → ∃ x, some (some (V.ref p)) = some (some x) ∧ ∃ y, some (some (V.int (i : Int))) = some (some y) ∧ rIxL K x y H6 Q' := fun q => ⟨_, rfl, _, rfl, _, _, _, _, rfl, rfl, SqL.of g6, atI_nat gi, q⟩
        have bad : (n ∉ nmsOf b ∨ fitsA n a sl mo = false ∨ v < (eff n).1 ∨ v - (eff n).1 + (eff n).2 > 16) → good1 cs sl mo b (i : Int) n a st.1 st.2 = none := fun z => by
          unfold good1
          simp only [hv]
          rcases z with z | z | z
          · rw [if_pos z]
          · rw [if_neg (fun w => w hin), if_pos z]
          · rw [if_neg (fun w => w hin), if_neg (by rw [hf]; simp), if_pos z]
        refine ⟨_, rfl, _, rfl, iteF ⟨_, rfl, _, rfl, _, _, _, _, rfl, rfl, SqL.of g6, atI_nat gi, _, rfl, _, _, _, _, rfl, rfl, SqT.of htt6, rfl, _, _, rfl, rfl, _, rfl, iteD (fun z => ⟨_, rfl, ref (bad (.inr (.inr (.inl z)))) K16⟩) (fun z1 => ?_)⟩⟩
        refine ⟨_, rfl, _, rfl, _, _, _, _, rfl, rfl, SqL.of g6, atI_nat gi, _, rfl, _, _, _, _, rfl, rfl, SqT.of htt6, rfl, _, _, rfl, rfl, _, rfl, _, _, _, _, rfl, rfl, SqT.of htt6, rfl, _, _, rfl, rfl, _, _, rfl, rfl, _, rfl, iteD (fun z => ⟨_, rfl, ref (bad (.inr (.inr (.inr z)))) K16⟩) (fun z2 => ?_)⟩
        have hw : ¬ (v < (eff n).1 ∨ v - (eff n).1 + (eff n).2 > 16) := fun z => z.elim z1 z2
        -- the end's height
        have badE : n = "end" → v ≠ b2i' b → good1 cs sl mo b (i : Int) n a st.1 st.2 = none := fun e z => by
          unfold good1
          simp only [hv]
          rw [if_neg (fun w => w hin), if_neg (by rw [hf]; simp), if_neg hw, if_pos e, if_neg z]
        refine ⟨fun σ H' => H' = H6 ∧ σ = [some (.ref c), some (.int sl), some (.int mo), some (.bl b), some (.ref p), some (.int st.2), some (.int (i : Int)), some (.ref u), some (.ref tt), some (.bl true), o10, o11] ∧ (n = "end" → v = b2i' b), ?_, ?_⟩
        · refine ⟨_, rfl, _, _, _, _, rfl, rfl, SqT.of hu6, rfl, rfl, _, rfl, iteD (fun e => ?_) (fun e => ⟨rfl, rfl, fun z => absurd (congrArg V.str z) e⟩)⟩
          have e := V.str.inj e
          refine ⟨_, rfl, _, rfl, _, _, _, _, rfl, rfl, SqL.of g6, atI_nat gi, _, rfl, .inr ⟨_, rfl, rfl, _, rfl, ?_⟩⟩
          exact iteN (p := V.int v = V.int (if b = true then 1 else 0)) (fun z => ⟨_, rfl, ref (badE e fun w => z (congrArg V.int w)) K16⟩) (fun z => ⟨rfl, rfl, fun _ => V.int.inj z⟩)
        rintro σ H8 ⟨h8, rfl, he⟩
        have h9 := h8.symm
        subst h9
        refine ⟨_, rfl, _, rfl, _, _, _, _, rfl, rfl, SqL.of g6, atI_nat gi, _, rfl, _, _, _, _, rfl, rfl, SqT.of htt6, rfl, _, _, rfl, rfl, _, rfl, _, _, _, _, rfl, rfl, SqT.of htt6, rfl, _, _, rfl, rfl, ?_⟩
        refine ⟨_, rfl, _, rfl, _, _, rfl, ?_⟩
        have hil : (i : Int) < (cs.length : Int) := by omega
        have badB : n = "back" → backOk cs st.1 (i : Int) ((i : Int) - a) = false → good1 cs sl mo b (i : Int) n a st.1 st.2 = none := fun e z => by
          have ne : ¬ n = "end" := by rw [e]; decide +kernel
          unfold good1
          simp only [hv]
          rw [if_neg (fun w => w hin), if_neg (by rw [hf]; simp), if_neg hw, if_neg ne, if_pos e, if_neg (by rw [z]; simp)]
        refine ⟨fun σ H' => ∃ o11, σ = [some (.ref c), some (.int sl), some (.int mo), some (.bl b), some (.ref p), some (.int (if (v - (eff n).1 + (eff n).2) > st.2 then (v - (eff n).1 + (eff n).2) else st.2)), some (.int (i : Int)), some (.ref u), some (.ref tt), some (.bl true), some (.int (v - (eff n).1 + (eff n).2)), o11] ∧ Keep [] H6 H' ∧ (n = "back" → backOk cs st.1 (i : Int) ((i : Int) - a) = true), ?_, ?_⟩
        · refine ⟨_, rfl, _, _, _, _, rfl, rfl, SqT.of hu6, rfl, rfl, _, rfl, iteD (fun e => ?_) (fun e => ⟨_, rfl, Keep.refl _ _, fun z => absurd (congrArg V.str z) e⟩)⟩
          have e := V.str.inj e
          have hvw : (v - (eff n).1 + (eff n).2) = v := by
            rw [e]
            have : eff "back" = (0, 0) := by decide +kernel
            rw [this]
            show v - 0 + 0 = v
            omega
          refine ⟨_, rfl, _, rfl, _, _, _, _, rfl, rfl, SqT.of hu6, rfl, _, _, rfl, rfl, ?_⟩
          have out : ∀ {H7 : Hp}, Keep [] H6 H7 → backOk cs st.1 (i : Int) ((i : Int) - a) = false → ∃ x, some (some (V.int (i : Int))) = some (some x) ∧ 3 ≤ sizeLine ∧ ∀ t, H7 t = none → Q (.ref t) (upd H7 t (.tup [.str "refused", x, .bl true])) := fun K z => ⟨_, rfl, ref (badB e z) (K16.trans (K.mono (by simp)))⟩
          have out1 : ¬ (0 ≤ (i : Int) - a ∧ (i : Int) - a < (i : Int)) → backOk cs st.1 (i : Int) ((i : Int) - a) = false := fun z => by
            unfold backOk
            rw [decide_eq_false z]; rfl
          refine ⟨_, rfl, _, _, rfl, rfl, _, rfl, iteD (fun h1 => ⟨_, rfl, _, _, rfl, rfl, _, rfl, iteN (fun h2 => out (Keep.refl _ _) (out1 fun z => h2 z.2)) (fun h2 => ?_)⟩) (fun h1 => ⟨_, rfl, iteT (out (Keep.refl _ _) (out1 fun z => h1 z.1))⟩)⟩
          have et : (i : Int) - a = ((((i : Int) - a).toNat : Nat) : Int) := by omega
          have hlt : ((i : Int) - a).toNat < cs.length := by omega
          have hgt : cs[((i : Int) - a).toNat]? = some cs[((i : Int) - a).toNat] := List.getElem?_eq_getElem _
          have hmem : cs[((i : Int) - a).toNat] ∈ cs := List.getElem_mem _
          generalize cs[((i : Int) - a).toNat] = pr at hgt hmem
          obtain ⟨n2, a2⟩ := pr
          obtain ⟨u2, q1, q2⟩ := (prs1.tk (tkp K16)).get hgt
          have at2 : atI xs ((i : Int) - a) = some (.ref u2) := by rw [et]; exact atI_nat q1
          refine ⟨_, rfl, _, rfl, _, _, _, _, rfl, rfl, SqL.of hc6, at2, by show 2 ≤ sizeLine; decide, fun w' nw' => ?_⟩
          have k7 : Keep [] H6 (upd H6 w' (.tup [.str "unit", .int 0])) := Keep.new nw'
          refine ⟨_, _, dpIns (k7 _ _ q2 (by simp)), dpIns upd_same, shp (nm_ok n2 (hnm _ hmem)), shp (by decide +kernel), _, rfl, ?_⟩
          rw [eqv_ins]
          have bk : backOk cs st.1 (i : Int) ((i : Int) - a) = (decide ((n2, a2) = (("unit" : Str), (0 : Int))) && decide (st.1 ((i : Int) - a) = st.1 (i : Int))) := by
            unfold backOk
            rw [decide_eq_true (show 0 ≤ (i : Int) - a ∧ (i : Int) - a < (i : Int) from ⟨h1, h2⟩), hgt, Bool.true_and]
            congr 1
            by_cases z : (n2, a2) = (("unit" : Str), (0 : Int))
            · rw [z]; simp
            · rw [decide_eq_false z, decide_eq_false (fun y => z (Option.some.inj y))]
          refine iteN (fun z => out k7 (by rw [bk, decide_eq_false z]; rfl)) (fun z => ?_)
          rw [decide_eq_true z, Bool.true_and] at bk
          have g7 := k7 _ _ g6 (by simp)
          have gt7 := g3 _ hlt
          rw [← et] at gt7
          have at3 : atI ys ((i : Int) - a) = some (optV (st.1 ((i : Int) - a))) := by
            have := atI_nat gt7
            rwa [← et] at this
          refine ⟨_, rfl, _, rfl, _, _, _, _, rfl, rfl, SqL.of g7, at3, _, rfl, ?_⟩
          have hsc : ∀ o : Option Int, scal (optV o) (.int (v - (eff n).1 + (eff n).2)) = true := fun o => by cases o <;> rfl
          have hq : optV (st.1 ((i : Int) - a)) = V.int (v - (eff n).1 + (eff n).2) ↔ st.1 ((i : Int) - a) = st.1 (i : Int) := by
            rw [hv, hvw]
            cases st.1 ((i : Int) - a) with
            | none => exact ⟨fun z => (by cases z), fun z => (by cases z)⟩
            | some y => exact ⟨fun z => (by cases z; rfl), fun z => (by cases z; rfl)⟩
          refine ⟨hsc _, _, rfl, iteN (fun z2 => out k7 (by rw [bk]; exact decide_eq_false fun y => z2 (hq.mpr y))) (fun z2 => ⟨_, rfl, k7, fun _ => by rw [bk]; exact decide_eq_true (hq.mp z2)⟩)⟩
        rintro σ H7 ⟨o11', rfl, K7, hbk⟩
        have hgood := good1_of (top := st.2) hv hin hf hw he hbk
        have K17 : Keep [p] H1 H7 := K16.trans (K7.mono (by simp))
        have hu7 := K7 _ _ hu6 (by simp)
        have g7 := K7 _ _ g6 (by simp)
        refine ⟨_, rfl, _, rfl, u, n, a, (i : Int), rfl, hu7, fun l H8 nl hl K8 => ?_⟩
        have K18 : Keep [p] H1 H8 := K17.trans (K8.mono (by simp))
        have g8 := K8 _ _ g7 (by simp)
        have nlp : l ≠ p := (ne_of_none g7 nl).symm
        have hnng := tgts_nonneg (i := (i : Int)) hf (by omega)
        refine ⟨l, rfl, ⟨_, SqL.of hl⟩, for_list (K := K) (a := l) (xs := (tgts (i : Int) n a).map V.int) (fun t σ H' => ∃ (hh : Hts) (o11 : Option V), σ = [some (.ref c), some (.int sl), some (.int mo), some (.bl b), some (.ref p), some (.int (if (v - (eff n).1 + (eff n).2) > st.2 then (v - (eff n).1 + (eff n).2) else st.2)), some (.int (i : Int)), some (.ref u), some (.ref tt), some (.bl true), some (.int (v - (eff n).1 + (eff n).2)), o11] ∧
          HL H' p hh cs.length ∧ reach cs.length (v - (eff n).1 + (eff n).2) (tgts (i : Int) n a) st.1 = reach cs.length (v - (eff n).1 + (eff n).2) ((tgts (i : Int) n a).drop t) hh ∧ Keep [p] H8 H') ⟨st.1, _, rfl, ⟨ys, g8, g2, g3⟩, rfl, Keep.refl _ _⟩ (fun t σ H' _ ⟨_, _, _, _, _, kk⟩ => SqL.of (kk _ _ hl (by simpa using nlp))) ?_ ?_⟩
        · rintro t y σ H9 ht ⟨hh, o11'', rfl, hL9, hre, K9⟩
          obtain ⟨z, hz, rfl⟩ := ints_get ht
          obtain ⟨hlt, hze⟩ := List.getElem?_eq_some_iff.mp hz
          have hz0 := hnng z (hze ▸ List.getElem_mem hlt)
          rw [List.drop_eq_getElem_cons hlt, hze] at hre
          have K19 : Keep [p] H1 H9 := K18.trans K9
          have hc9 := K19 _ _ hc1 wc
          have no : (z ≥ (cs.length : Int) ∨ (hh z).getD (v - (eff n).1 + (eff n).2) ≠ (v - (eff n).1 + (eff n).2)) → good1 cs sl mo b (i : Int) n a st.1 st.2 = none := fun q => by
            rw [hgood, hre]
            have : reach cs.length (v - (eff n).1 + (eff n).2) (z :: (tgts (i : Int) n a).drop (t + 1)) hh = none := if_pos q
            rw [this]; rfl
          have go : ¬ z ≥ (cs.length : Int) → ¬ (hh z).getD (v - (eff n).1 + (eff n).2) ≠ (v - (eff n).1 + (eff n).2) → reach cs.length (v - (eff n).1 + (eff n).2) (tgts (i : Int) n a) st.1 = reach cs.length (v - (eff n).1 + (eff n).2) ((tgts (i : Int) n a).drop (t + 1)) (setH hh z (v - (eff n).1 + (eff n).2)) := fun q1 q2 => by
            rw [hre]
            exact if_neg fun q => q.elim q1 q2
          refine ⟨_, rfl, _, rfl, _, _, rfl, .inl (SqL.of hc9), _, _, rfl, rfl, _, rfl, iteD (fun q1 => ?_) (fun q1 => ?_)⟩
          · rw [hlen] at q1
            exact ⟨_, rfl, ref (no (.inl q1)) K19⟩
          rw [hlen] at q1
          obtain ⟨zs, r1, r2, r3⟩ := id hL9
          obtain ⟨j, rfl⟩ : ∃ j : Nat, z = (j : Int) := ⟨z.toNat, by omega⟩
          have hj : j < cs.length := by omega
          have gj := r3 j hj
          have store : ¬ (hh (j : Int)).getD (v - (eff n).1 + (eff n).2) ≠ (v - (eff n).1 + (eff n).2) → _ := fun q2 => HL.put (v := (v - (eff n).1 + (eff n).2)) r1 r2 r3 hj
          refine ⟨_, rfl, _, rfl, _, _, _, _, rfl, rfl, SqL.of r1, atI_nat gj, rfl, ?_⟩
          cases hq : hh (j : Int) with
          | none =>
            refine ⟨_, rfl, iteNF (p := optV none = V.non) rfl ?_⟩
            have q2 : ¬ (hh (j : Int)).getD (v - (eff n).1 + (eff n).2) ≠ (v - (eff n).1 + (eff n).2) := by rw [hq]; exact fun z => z rfl
            exact ⟨_, rfl, _, rfl, _, rfl, _, _, _, j, rfl, rfl, r1, ixN_j (by omega), _, _, rfl, store q2, go q1 q2, K9.then_at (List.mem_singleton.mpr rfl)⟩
          | some y =>
            rw [hq] at gj
            refine ⟨_, rfl, iteNT (p := optV (some y) = V.non) (by intro z; cases z) ?_⟩
            refine ⟨_, rfl, _, rfl, _, _, _, _, rfl, rfl, SqL.of r1, atI_nat gj, _, rfl, rfl, _, rfl, iteN (fun q2 => ?_) (fun q2 => ?_)⟩
            · exact ⟨_, rfl, ref (no (.inr (by rw [hq]; exact fun z => q2 (congrArg V.int z)))) K19⟩
            · have q2 : ¬ (hh (j : Int)).getD (v - (eff n).1 + (eff n).2) ≠ (v - (eff n).1 + (eff n).2) := by
                rw [hq]
                exact fun z => z (V.int.inj q2)
              exact ⟨_, rfl, _, rfl, _, rfl, _, _, _, j, rfl, rfl, r1, ixN_j (by omega), _, _, rfl, store q2, go q1 q2, K9.then_at (List.mem_singleton.mpr rfl)⟩
        · rintro σ H9 ⟨hh, o11'', rfl, hL9, hre, K9⟩
          rw [List.length_map, List.drop_of_length_le (Nat.le_refl _)] at hre
          rw [hre] at hgood
          refine ⟨_, _, _, _, _, _, _, rfl, hup.trans hgood, ?_, K18.trans K9⟩
          rw [if_neg (by omega)]
          exact hL9
    · rintro σ H2 ⟨st, o6, o7, o8, o9, o10, o11, rfl, hst, hL, K2⟩
      have hc2 := K2 _ _ hc1 wc
      refine ⟨_, rfl, _, _, rfl, .inl (SqL.of hc2), rfl, _, rfl, iteD (fun e => ?_) (fun e => ?_)⟩
      · have e : cs = [] := by
          have := V.int.inj e
          exact List.eq_nil_of_length_eq_zero (by omega)
        refine ⟨by show 3 ≤ sizeLine; decide, fun t nt => k (.inl 0) t _ (.inl ⟨e, rfl⟩) ((own K2).free nt) upd_same ((own K2).then_new nt)⟩
      · have e : cs ≠ [] := fun z => e (by rw [hlen, z]; rfl)
        exact ⟨_, rfl, by show 2 ≤ sizeLine; decide, fun t nt => k (.inr st.2) t _ ⟨e, st, hst, rfl⟩ ((own K2).free nt) upd_same ((own K2).then_new nt)⟩
end

def sp_told : Sp := fun vs H Q _ => ∃ (c : Addr) (cs : List Ins) (sl mo : Int) (b : Bool), vs = [.ref c, .int sl, .int mo, .bl b] ∧ CodeAt H c cs ∧ NmOk cs ∧ cs.length ≤ 200000 ∧ ∀ r t H', Out cs sl mo b r → H t = none → H' t = some (.tup (resV r)) → Keep [] H H' → Q (.ref t) H'
section
variable {P : Program} {w : World} {K : PySem.W.Frag} {mg : Str → Option Value} {base : Heap} {C_Checker : Addr} {C_GameError : Addr} {C_BadText : Addr} {C_TooLarge : Addr} {C_BadMove : Addr} {C_BadCode : Addr} {f_BadCode___init : Addr} {T_SIGNS : Addr} {T_ROUND_NAMES : Addr} {T_BRAIN_NAMES : Addr} {T_EFFECTS : Addr}
theorem ok_law_told {f : Addr} {fd : FuncData} (D : C8.Def K mg "_law_told" s_law_told f fd) (b : Binds K fd ["code", "slots", "moves", "brain"] []) (T : Txt K mg C_Checker C_GameError C_BadText C_TooLarge C_BadMove C_BadCode T_SIGNS T_ROUND_NAMES T_BRAIN_NAMES T_EFFECTS) (c_check_code : CalX P w K mg base 3 "check_code" (sp_check C_BadCode) [.bl false])
    (c_check_code_thinking : CalXK P w K mg base 3 "check_code" (sp_check C_BadCode) 3 ["thinking"] (fun vs zs => vs ++ zs)) : C8.Cal P w K mg base 4 "_law_told" sp_told [] := by
  refine cal0 D b .nil sc_law_told (fun vs H Q E h => ?_) (fun cdv A outer s H vs Q E hr h => ?_)
  · obtain ⟨c, cs, sl, mo, b, rfl, _⟩ := h
    rfl
  · obtain ⟨c, cs, sl, mo, b, rfl, hc, hnm, hn, k⟩ := h
    refine ⟨_, (pss_one (ps_try_as (i := 4) rfl rfl sc_law_told.nd rfl rfl ⟨rfl, by decide, .inl T.m_BadCode⟩ takes0 (fun W pn xe tk ps =>
  (pss_cons (ps_if (pt_val (pv 3))
    (pss_one (ps_ret (pe_tup (pa_cons pe_str (pa_cons (pe_cKS c_check_code_thinking hr (by first | exact Nat.le_refl _ | decide) rfl tk (pa_cons (pv 0) (pa_cons (pv 1) (pa_cons (pv 2) pa_nil))) (pk_cons pe_bl pk_nil)) pa_nil)))))
    pss_nil)
  (pss_one (ps_ret (pe_tup (pa_cons pe_str (pa_cons (pe_cS c_check_code hr (by first | exact Nat.le_refl _ | decide) rfl tk (pa_cons (pv 0) (pa_cons (pv 1) (pa_cons (pv 2) pa_nil)))) pa_nil)))))))
  (fun a oe cls d pn hz hf =>
  (pss_one (ps_ret (pe_tup (pa_cons pe_str (pa_cons (pe_xf T.f_BadCode T.no_BadCode hz hf (pv 4)) (pa_cons (pe_and (pe_callB (call_isX hz hf) (by rfl) T.n_isinstance bo_isinstance (pa_cons (pv 4) (pa_cons (pe_glob (v := .ref _) rfl T.m_GameError rfl) pa_nil))) (pe_one (pe_not (pe_callB (call_isXT hz hf) (by rfl) T.n_isinstance bo_isinstance (pa_cons (pv 4) (pa_cons (pe_tup (pa_cons (pe_glob (v := .ref _) rfl T.m_BadMove rfl) (pa_cons (pe_glob (v := .ref _) rfl T.m_BadText rfl) (pa_cons (pe_glob (v := .ref _) rfl T.m_TooLarge rfl) pa_nil)))) pa_nil)))))) pa_nil))))))))), ?_⟩
    have good : ∀ (s : Hts × Int) (H' : Hp), cs ≠ [] → upto cs sl mo b cs.length = some s → Keep [] H H' → 2 ≤ sizeLine ∧ ∀ t, H' t = none → Q (.ref t) (upd H' t (.tup [.str "passed", .int s.2])) := fun s H' h1 h2 K => ⟨by decide, fun t nt => k (.inr s.2) t _ ⟨h1, s, h2, rfl⟩ (K.free nt) upd_same (K.then_new nt)⟩
    refine ⟨_, rfl, _, rfl, iteB (fun e => ?_) (fun e => ?_)⟩
    · subst e
      refine ⟨_, rfl, _, rfl, _, rfl, rfl, rfl, c, cs, sl, mo, true, rfl, hc, hnm, hn, good, fun i d H' bad nd hd K => ?_⟩
      refine ⟨true, T.x_BadCode, fun _ a ha => ?_, fun q => nomatch q⟩
      refine ⟨_, rfl, rfl, rfl, d, _, _, rfl, hd, rfl, ?_⟩
      refine ⟨_, rfl, _, _, d, _, true, rfl, rfl, rfl, T.e_BadCode, hd, T.kit1, _, rfl, iteT ?_⟩
      refine ⟨_, rfl, by show 3 ≤ sizeLine; decide, fun tp ntp => ⟨_, tp, d, [C_BadMove, C_BadText, C_TooLarge], _, false, rfl, rfl, rfl, T.e_BadCode, Keep.new (W := []) ntp _ _ hd (by simp), upd_same, T.kit2, _, rfl, ?_⟩⟩
      have K2 := K.then_new (o := .tup [.ref C_BadMove, .ref C_BadText, .ref C_TooLarge]) ntp
      exact ⟨by show 3 ≤ sizeLine; decide, fun t nt => k (.inl i) t _ bad (K2.free nt) upd_same (K2.then_new nt)⟩
    · subst e
      refine ⟨_, rfl, _, rfl, _, rfl, c, cs, sl, mo, false, rfl, hc, hnm, hn, good, fun i d H' bad nd hd K => ?_⟩
      refine ⟨true, T.x_BadCode, fun _ a ha => ?_, fun q => nomatch q⟩
      refine ⟨_, rfl, rfl, rfl, d, _, _, rfl, hd, rfl, ?_⟩
      refine ⟨_, rfl, _, _, d, _, true, rfl, rfl, rfl, T.e_BadCode, hd, T.kit1, _, rfl, iteT ?_⟩
      refine ⟨_, rfl, by show 3 ≤ sizeLine; decide, fun tp ntp => ⟨_, tp, d, [C_BadMove, C_BadText, C_TooLarge], _, false, rfl, rfl, rfl, T.e_BadCode, Keep.new (W := []) ntp _ _ hd (by simp), upd_same, T.kit2, _, rfl, ?_⟩⟩
      have K2 := K.then_new (o := .tup [.ref C_BadMove, .ref C_BadText, .ref C_TooLarge]) ntp
      exact ⟨by show 3 ≤ sizeLine; decide, fun t nt => k (.inl i) t _ bad (K2.free nt) upd_same (K2.then_new nt)⟩
end

theorem calUp {P : Program} {w : World} {K : PySem.W.Frag} {mg : Str → Option Value} {base : Heap} {j k : Nat} {x : Str} {sp : Sp} {dvs : List V} (c : C8.Cal P w K mg base j x sp dvs) (h : j ≤ k) : C8.Cal P w K mg base k x sp dvs := by
  obtain ⟨f, fd, ps, ds, F, hm, kp, b, d⟩ := c.ex
  exact ⟨f, fd, ps, ds, F.mono h, hm, kp, b, d⟩

/-! the law's draws -/
def sp_law_few : Sp := fun vs H Q _ => ∃ (p q : Addr) (ns : List Int) (bud most : Int), vs = [.ref p, .int most] ∧ 0 ≤ most ∧ most < 1000000 ∧ Pool H p q ns bud ∧ ∀ r H', 0 ≤ r → r ≤ most → Pool H' p q ns bud → Keep [p] H H' → Q (.int r) H'
def sp_law_number : Sp := fun vs H Q _ => ∃ (p q : Addr) (ns : List Int) (bud : Int), vs = [.ref p] ∧ Pool H p q ns bud ∧ ∀ r H', 0 ≤ r → r < 65536 → Pool H' p q ns bud → Keep [p] H H' → Q (.int r) H'
def CL (H : Hp) (l : Addr) (cs : List Ins) : Prop := ∃ xs, H l = some (.lst xs) ∧ Prs H xs cs
theorem CL.keep {H H' : Hp} {l : Addr} {cs : List Ins} {W : List Addr} (h : CL H l cs) (k : Keep W H H') (t : TK H H') (w : l ∉ W) : CL H' l cs := by
  obtain ⟨xs, h1, h2⟩ := h
  exact ⟨xs, k _ _ h1 w, h2.tk t⟩
theorem CL.keep0 {H H' : Hp} {l : Addr} {cs : List Ins} (h : CL H l cs) (k : Keep [] H H') : CL H' l cs := h.keep k k.tk (by simp)
theorem Pool.tkb {H H' : Hp} {p q : Addr} {ns : List Int} {bud : Int} (h : Pool H p q ns bud) (k : Keep [p] H H') : TK H H' := by
  obtain ⟨i1, i2, i3, i4, h, _⟩ := h
  exact k.tk1 h
theorem CL.keepP {H H' : Hp} {l p q : Addr} {cs : List Ins} {ns : List Int} {bud : Int} (h : CL H l cs) (P : Pool H p q ns bud) (k : Keep [p] H H') (w : l ≠ p) : CL H' l cs := h.keep k (P.tkb k) (by simpa using w)
theorem CL.one {H : Hp} {t l : Addr} {n : Str} {a : Int} (nl : upd H t (.tup [.str n, .int a]) l = none) : CL (upd (upd H t (.tup [.str n, .int a])) l (.lst [.ref t])) l [(n, a)] :=
  ⟨_, upd_same, .cons (Keep.new (W := []) nl _ _ upd_same (by simp)) .nil⟩
theorem CL.cat {H : Hp} {p : Addr} {xs ys : List V} {c1 c2 : List Ins} (h1 : Prs H xs c1) (h2 : Prs H ys c2) (np : H p = none) : CL (upd H p (.lst (xs ++ ys))) p (c1 ++ c2) :=
  ⟨_, upd_same, (h1.app h2).tk (TK.new np)⟩
def Nm (n : Str) : Prop := n ∈ allNm ++ (["", "halt", "push ", "pushes"] : List Str)
theorem NmOk.nil : NmOk [] := fun _ h => by cases h
theorem NmOk.one {n : Str} {a : Int} (h : n ∈ allNm) : NmOk [(n, a)] := fun p hp => by
  rw [List.mem_singleton] at hp
  subst hp
  exact List.mem_append_left _ h
theorem NmOk.app {c1 c2 : List Ins} (h1 : NmOk c1) (h2 : NmOk c2) : NmOk (c1 ++ c2) := fun p hp => (List.mem_append.mp hp).elim (h1 p) (h2 p)
def Lv : Nat → Nat
  | 0 => 1
  | n + 1 => 3 * Lv n + 2
theorem Lv_pos : ∀ n, 1 ≤ Lv n
  | 0 => Nat.le_refl 1
  | n + 1 => by have := Lv_pos n; show 1 ≤ 3 * Lv n + 2; omega
def sp_value (n : Nat) : Sp := fun vs H Q _ => ∃ (p q : Addr) (ns : List Int) (bud sl mo : Int) (br : Bool) (deep : Int), vs = [.ref p, .int sl, .int mo, .bl br, .int deep] ∧ Pool H p q ns bud ∧ 0 ≤ sl ∧ sl ≤ 12 ∧ 0 ≤ mo ∧ mo ≤ 24 ∧ 0 ≤ deep ∧ deep < (n : Int) ∧ n ≤ 5 ∧
  ∀ l cs bud' H', H l = none → CL H' l cs → NmOk cs → cs.length ≤ Lv deep.toNat → bud' ≤ bud → Pool H' p q ns bud' → Keep [p] H H' → Q (.ref l) H'
theorem Lv_le {n : Nat} (h : n ≤ 4) : Lv n ≤ 161 := by
  have : ∀ n, n ≤ 4 → Lv n ≤ 161 := by decide
  exact this n h
section
variable {P : Program} {w : World} {K : PySem.W.Frag} {mg : Str → Option Value} {base : Heap} {C_Checker : Addr} {C_GameError : Addr} {C_BadText : Addr} {C_TooLarge : Addr} {C_BadMove : Addr} {C_BadCode : Addr} {f_BadCode___init : Addr} {T_SIGNS : Addr} {T_ROUND_NAMES : Addr} {T_BRAIN_NAMES : Addr} {T_EFFECTS : Addr}
theorem ok_law_few {f : Addr} {fd : FuncData} (D : C8.Def K mg "_law_few" s_law_few f fd) (b : Binds K fd ["pool", "most"] []) (T : Txt K mg C_Checker C_GameError C_BadText C_TooLarge C_BadMove C_BadCode T_SIGNS T_ROUND_NAMES T_BRAIN_NAMES T_EFFECTS) (c_law_draw : C8.Cal P w K mg base 1 "_law_draw" sp_law_draw []) : C8.Cal P w K mg base 2 "_law_few" sp_law_few [] := by
  refine cal0 D b .nil sc_law_few (fun vs H Q E h => ?_) (fun cdv A outer s H vs Q E hr h => ?_)
  · obtain ⟨p, q, ns, bud, m, rfl, _⟩ := h
    rfl
  · obtain ⟨p, q, ns, bud, m, rfl, m0, m1, hP, k⟩ := h
    refine ⟨_, (pss_cons (ps_set (i := 2) sc_law_few.nd rfl (by first | exact Or.inl rfl | exact Or.inr rfl) (pe_c c_law_draw hr (by first | exact Nat.le_refl _ | decide) rfl (pa_cons (pv 0) (pa_cons pe_int pa_nil))))
(pss_cons (ps_if (pt_cmpR op_eq (pv 2) pe_int (nomark _))
  (pss_one (ps_ret (pe_c c_law_draw hr (by first | exact Nat.le_refl _ | decide) rfl (pa_cons (pv 0) (pa_cons (pe_op op_add (pv 1) pe_int) pa_nil)))))
  pss_nil)
(pss_one (ps_ret (pe_callB (call_min2 rfl) (by rfl) T.n_min bo_min (pa_cons (pv 2) (pa_cons (pv 1) pa_nil))))))), ?_⟩
    refine ⟨_, rfl, p, q, ns, bud, 4, rfl, by decide, by decide, hP, fun r H1 r0 r1 P1 K1 => ?_⟩
    refine ⟨_, rfl, rfl, _, rfl, iteD (fun _ => ?_) (fun _ => ?_)⟩
    · refine ⟨_, rfl, _, rfl, _, _, rfl, rfl, p, q, ns, bud, _, rfl, by omega, by omega, P1, fun r2 H2 z0 z1 P2 K2 => ?_⟩
      exact k _ _ z0 (by omega) P2 (K1.trans K2)
    · refine ⟨_, rfl, _, rfl, _, _, rfl, k _ _ ?_ ?_ P1 K1⟩
      · split <;> omega
      · split <;> omega
theorem ok_law_number {f : Addr} {fd : FuncData} (D : C8.Def K mg "_law_number" s_law_number f fd) (b : Binds K fd ["pool"] []) (T : Txt K mg C_Checker C_GameError C_BadText C_TooLarge C_BadMove C_BadCode T_SIGNS T_ROUND_NAMES T_BRAIN_NAMES T_EFFECTS) (c_law_draw : C8.Cal P w K mg base 1 "_law_draw" sp_law_draw []) : C8.Cal P w K mg base 2 "_law_number" sp_law_number [] := by
  refine cal0 D b .nil sc_law_number (fun vs H Q E h => ?_) (fun cdv A outer s H vs Q E hr h => ?_)
  · obtain ⟨p, q, ns, bud, rfl, _⟩ := h
    rfl
  · obtain ⟨p, q, ns, bud, rfl, hP, k⟩ := h
    refine ⟨_, (pss_cons (ps_if (pt_cmpR op_eq (pe_c c_law_draw hr (by first | exact Nat.le_refl _ | decide) rfl (pa_cons (pv 0) (pa_cons pe_int pa_nil))) pe_int (nomark _))
  (pss_one (ps_ret (pe_c c_law_draw hr (by first | exact Nat.le_refl _ | decide) rfl (pa_cons (pv 0) (pa_cons pe_int pa_nil)))))
  pss_nil)
(pss_one (ps_ret (pe_c c_law_draw hr (by first | exact Nat.le_refl _ | decide) rfl (pa_cons (pv 0) (pa_cons pe_int pa_nil)))))), ?_⟩
    refine ⟨_, rfl, p, q, ns, bud, 3, rfl, by decide, by decide, hP, fun r H1 r0 r1 P1 K1 => ?_⟩
    refine ⟨rfl, _, rfl, iteD (fun _ => ?_) (fun _ => ?_)⟩
    · exact ⟨_, rfl, p, q, ns, bud, _, rfl, by decide, by decide, P1, fun r2 H2 z0 z1 P2 K2 => k _ _ z0 z1 P2 (K1.trans K2)⟩
    · exact ⟨_, rfl, p, q, ns, bud, _, rfl, by decide, by decide, P1, fun r2 H2 z0 z1 P2 K2 => k _ _ z0 (by omega) P2 (K1.trans K2)⟩
theorem ok_value0 {f : Addr} {fd : FuncData} (D : C8.Def K mg "_law_some_value" s_law_some_value f fd) (b : Binds K fd ["pool", "slots", "moves", "brain", "deep"] []) {k : Nat} : C8.Cal P w K mg base k "_law_some_value" (sp_value 0) [] :=
  ⟨f, fd, ["pool", "slots", "moves", "brain", "deep"], [], ⟨fun vs H Q E h => (by obtain ⟨p, q, ns, bud, sl, mo, br, deep, rfl, _⟩ := h; rfl), fun A outer s H args us vs Q E _ _ _ _ h => (by
    obtain ⟨p, q, ns, bud, sl, mo, br, deep, _, _, _, _, _, _, h1, h2, _⟩ := h
    exact absurd h2 (by omega))⟩, D.mgf, D.kp, b, .nil⟩
theorem ok_value {f : Addr} {fd : FuncData} (D : C8.Def K mg "_law_some_value" s_law_some_value f fd) (b : Binds K fd ["pool", "slots", "moves", "brain", "deep"] []) (T : Txt K mg C_Checker C_GameError C_BadText C_TooLarge C_BadMove C_BadCode T_SIGNS T_ROUND_NAMES T_BRAIN_NAMES T_EFFECTS) {n k : Nat} (c_law_some_value : C8.Cal P w K mg base k "_law_some_value" (sp_value n) []) (c_law_draw : C8.Cal P w K mg base k "_law_draw" sp_law_draw [])
    (c_law_spend : C8.Cal P w K mg base k "_law_spend" sp_law_spend []) (c_law_number : C8.Cal P w K mg base k "_law_number" sp_law_number []) : C8.Cal P w K mg base (k + 1) "_law_some_value" (sp_value (n + 1)) [] := by
  refine cal0 D b .nil sc_law_some_value (fun vs H Q E h => ?_) (fun cdv A outer s H vs Q E hr h => ?_)
  · obtain ⟨p, q, ns, bud, sl, mo, br, deep, rfl, _⟩ := h
    rfl
  · obtain ⟨p, q, ns, bud, sl, mo, br, deep, rfl, hP, sl0, sl1, mo0, mo1, d0, d1, hn5, k⟩ := h
    refine ⟨_, (pss_cons (ps_set (i := 5) sc_law_some_value.nd rfl (by first | exact Or.inl rfl | exact Or.inr rfl) (pe_c c_law_draw hr (by first | exact Nat.le_refl _ | decide) rfl (pa_cons (pv 0) (pa_cons pe_int pa_nil))))
(pss_cons (ps_if (PW.pt (pw_or (pt_cmpR op_eq (pv 4) pe_int (nomark _)) (pw_or (pt_cmpR op_lt (pv 5) pe_int (nomark _)) (pw_or1 (pt_not (pt_val (pe_c c_law_spend hr (by first | exact Nat.le_refl _ | decide) rfl (pa_cons (pv 0) pa_nil))))))))
  (pss_cut (ps_if (PW.pt (pw_and (pt_cmpR op_eq (pv 5) pe_int (nomark _)) (pw_and1 (pt_cmpR op_gt (pv 1) pe_int (nomark _)))))
    (pss_one (ps_ret (pe_lst (pa_cons (pe_tup (pa_cons pe_str (pa_cons (pe_c c_law_draw hr (by first | exact Nat.le_refl _ | decide) rfl (pa_cons (pv 0) (pa_cons (pv 1) pa_nil))) pa_nil))) pa_nil))))
    pss_nil)
  (pss_cut (ps_if (PW.pt (pw_and (pt_cmpR op_eq (pv 5) pe_int (nomark _)) (pw_and1 (pt_val (pv 3)))))
    (pss_one (ps_ret (pe_lst (pa_cons (pe_tup (pa_cons pe_str (pa_cons pe_int pa_nil))) pa_nil))))
    pss_nil)
  (pss_cut (ps_if (PW.pt (pw_and (pt_cmpR op_eq (pv 5) pe_int (nomark _)) (pw_and1 (pt_cmpR op_gt (pv 2) pe_int (nomark _)))))
    (pss_one (ps_ret (pe_lst (pa_cons (pe_tup (pa_cons pe_str (pa_cons (pe_c c_law_draw hr (by first | exact Nat.le_refl _ | decide) rfl (pa_cons (pv 0) (pa_cons (pv 2) pa_nil))) pa_nil))) pa_nil))))
    pss_nil)
  (pss_one (ps_ret (pe_lst (pa_cons (pe_tup (pa_cons pe_str (pa_cons (pe_c c_law_number hr (by first | exact Nat.le_refl _ | decide) rfl (pa_cons (pv 0) pa_nil)) pa_nil))) pa_nil)))))))
  pss_nil)
(pss_cons (ps_set (i := 6) sc_law_some_value.nd rfl (by first | exact Or.inl rfl | exact Or.inr rfl) (pe_c c_law_some_value hr (by first | exact Nat.le_refl _ | decide) rfl (pa_cons (pv 0) (pa_cons (pv 1) (pa_cons (pv 2) (pa_cons (pv 3) (pa_cons (pe_op op_sub (pv 4) pe_int) pa_nil)))))))
(pss_cons (ps_if (pt_cmpR op_eq (pv 5) pe_int (nomark _))
  (pss_one (ps_ret (pe_op op_cat (pv 6) (pe_lst (pa_cons (pe_tup (pa_cons pe_str (pa_cons pe_int pa_nil))) pa_nil)))))
  pss_nil)
(pss_cut (ps_if (PW.pt (pw_and (pt_cmpR op_eq (pv 5) pe_int (nomark _)) (pw_and1 (pt_val (pv 3)))))
  (pss_one (ps_ret (pe_op op_cat (pv 6) (pe_lst (pa_cons (pe_tup (pa_cons pe_str (pa_cons pe_int pa_nil))) pa_nil)))))
  pss_nil)
(pss_cons (ps_set (i := 7) sc_law_some_value.nd rfl (by first | exact Or.inl rfl | exact Or.inr rfl) (pe_c c_law_some_value hr (by first | exact Nat.le_refl _ | decide) rfl (pa_cons (pv 0) (pa_cons (pv 1) (pa_cons (pv 2) (pa_cons (pv 3) (pa_cons (pe_op op_sub (pv 4) pe_int) pa_nil)))))))
(pss_cons (ps_if (pt_cmpR op_lt (pv 5) pe_int (nomark _))
  (pss_one (ps_ret (pe_op op_cat (pe_op op_cat (pv 6) (pv 7)) (pe_lst (pa_cons (pe_tup (pa_cons pe_str (pa_cons (pe_c c_law_draw hr (by first | exact Nat.le_refl _ | decide) rfl (pa_cons (pv 0) (pa_cons pe_int pa_nil))) pa_nil))) pa_nil)))))
  pss_nil)
(pss_cons (ps_set (i := 8) sc_law_some_value.nd rfl (by first | exact Or.inl rfl | exact Or.inr rfl) (pe_c c_law_some_value hr (by first | exact Nat.le_refl _ | decide) rfl (pa_cons (pv 0) (pa_cons (pv 1) (pa_cons (pv 2) (pa_cons (pv 3) (pa_cons (pe_op op_sub (pv 4) pe_int) pa_nil)))))))
(pss_one (ps_ret (pe_op op_cat (pe_op op_cat (pe_op op_cat (pe_op op_cat (pv 6) (pe_lst (pa_cons (pe_tup (pa_cons pe_str (pa_cons (pe_op op_add (pe_callB call_len_seq (by rfl) T.n_len bo_len (pa_cons (pv 7) pa_nil)) pe_int) pa_nil))) pa_nil))) (pv 7)) (pe_lst (pa_cons (pe_tup (pa_cons pe_str (pa_cons (pe_callB call_len_seq (by rfl) T.n_len bo_len (pa_cons (pv 8) pa_nil)) pa_nil))) pa_nil))) (pv 8)))))))))))), ?_⟩
    have kone : ∀ {H2 : Hp} {bud2 : Int} {nm : Str} {a : Int}, nm ∈ allNm → Pool H2 p q ns bud2 → bud2 ≤ bud → Keep [p] H H2 → 2 ≤ sizeLine ∧ ∀ t, H2 t = none → 1 ≤ sizeLine ∧ ∀ l, upd H2 t (.tup [.str nm, .int a]) l = none → Q (.ref l) (upd (upd H2 t (.tup [.str nm, .int a])) l (.lst [.ref t])) := fun {H2 bud2 nm a} hm P2 hb K2 =>
      ⟨by decide, fun t nt => ⟨by decide, fun l nl => by
        have kk : Keep [] H2 (upd (upd H2 t (.tup [.str nm, .int a])) l (.lst [.ref t])) := (Keep.new nt).then_new nl
        exact k l [(nm, a)] bud2 _ (P2.free K2 ((Keep.new (W := []) nt).free nl)) (CL.one nl) (.one hm) (Lv_pos _) hb (P2.keep0 kk) (K2.trans (kk.mono (by simp)))⟩⟩
    refine ⟨_, rfl, p, q, ns, bud, 10, rfl, by decide, by decide, hP, fun kd H1 a0 a1 P1 K1 => ?_⟩
    refine ⟨_, rfl, rfl, _, rfl, iteD (fun e => ?leafA) (fun e => ⟨_, rfl, _, _, rfl, rfl, _, rfl, iteD (fun e2 => ?leafB) (fun e2 => ⟨_, rfl, p, q, ns, bud, rfl, P1, fun H2 P2 K2 => ⟨_, rfl, iteN (fun e3 => ?leafC) (fun e3 => ?rest)⟩⟩)⟩)⟩
    case rest =>
      have hd : deep ≠ 0 := fun z => e (congrArg V.int z)
      obtain ⟨m, hm⟩ : ∃ m : Nat, deep.toNat = m + 1 := ⟨deep.toNat - 1, by omega⟩
      have hm' : (deep - 1).toNat = m := by omega
      have hml : Lv (deep - 1).toNat = Lv m := by rw [hm']
      have hLv : Lv deep.toNat = 3 * Lv m + 2 := by rw [hm]; rfl
      have hLb := Lv_le (n := m) (by omega)
      have K12 := K1.trans K2
      -- the left one
      refine ⟨_, rfl, _, rfl, _, rfl, _, rfl, _, rfl, _, _, rfl, rfl, p, q, ns, _, sl, mo, br, deep - 1, rfl, P2, sl0, sl1, mo0, mo1, by omega, by omega, by omega, fun l c1 b3 H3 nl hl hn1 hc1 hb3 P3 K3 => ?_⟩
      rw [hml] at hc1
      have nlp : l ≠ p := P2.nep nl
      have K13 := K12.trans K3
      obtain ⟨xs, hx, px⟩ := id hl
      have nl0 : H l = none := P2.free K12 nl
      have fin : ∀ {H4 : Hp} {nm : Str} {b4 : Int} {cx : List Ins} {x : Addr} {zs : List V}, nm ∈ allNm → H4 x = some (.lst zs) → Prs H4 zs cx → NmOk cx → cx.length + 1 ≤ Lv deep.toNat → cx.length ≤ 1000 → b4 ≤ bud → Pool H4 p q ns b4 → Keep [p] H H4 → ∀ a : Int, 2 ≤ sizeLine ∧ ∀ t, H4 t = none → 1 ≤ sizeLine ∧ ∀ u, upd H4 t (.tup [.str nm, .int a]) u = none → ∃ l1 l2 ys1 ys2, V.ref x = .ref l1 ∧ V.ref u = .ref l2 ∧ upd (upd H4 t (.tup [.str nm, .int a])) u (.lst [.ref t]) l1 = some (.lst ys1) ∧ upd (upd H4 t (.tup [.str nm, .int a])) u (.lst [.ref t]) l2 = some (.lst ys2) ∧ ys1.length + ys2.length ≤ sizeLine ∧
          ∀ r, upd (upd H4 t (.tup [.str nm, .int a])) u (.lst [.ref t]) r = none → Q (.ref r) (upd (upd (upd H4 t (.tup [.str nm, .int a])) u (.lst [.ref t])) r (.lst (ys1 ++ ys2))) := fun {H4 nm b4 cx x zs} hm hx px hn hlen hlen2 hb P4 K4 a =>
        ⟨by decide, fun t nt => ⟨by decide, fun u nu => by
          have kk : Keep [] H4 (upd (upd H4 t (.tup [.str nm, .int a])) u (.lst [.ref t])) := (Keep.new nt).then_new nu
          obtain ⟨ys, hy, py⟩ := CL.one nu
          refine ⟨x, u, zs, ys, rfl, rfl, kk _ _ hx (by simp), hy, smallM (by rw [px.len, py.len]; simp; omega), fun r nr => ?_⟩
          have k2 := kk.then_new (o := .lst (zs ++ ys)) nr
          exact k r _ b4 _ (P4.free K4 (kk.free nr)) (CL.cat (px.tk kk.tk) py nr) (hn.app (.one hm)) (by rw [List.length_append]; simpa using hlen) hb (P4.keep0 k2) (K4.trans (k2.mono (by simp)))⟩⟩
      refine ⟨_, rfl, rfl, _, rfl, iteD (fun e4 => ⟨_, rfl, fin (by decide +kernel) hx px hn1 (by omega) (by omega) (by omega) P3 K13 0⟩) (fun e4 => ?_)⟩
      refine ⟨fun σ H' => H' = H3 ∧ σ = [some (.ref p), some (.int sl), some (.int mo), some (.bl br), some (.int deep), some (.int kd), some (.ref l), none, none], ?_, ?_⟩
      · refine ⟨_, rfl, rfl, _, rfl, iteD (fun e5 => ⟨_, rfl, _, rfl, iteB (fun _ => ⟨_, rfl, fin (by decide +kernel) hx px hn1 (by omega) (by omega) (by omega) P3 K13 0⟩) (fun _ => ⟨rfl, rfl⟩)⟩) (fun e5 => ⟨rfl, rfl⟩)⟩
      rintro σ H' ⟨rfl, rfl⟩
      -- the right one
      refine ⟨_, rfl, _, rfl, _, rfl, _, rfl, _, rfl, _, _, rfl, rfl, p, q, ns, _, sl, mo, br, deep - 1, rfl, P3, sl0, sl1, mo0, mo1, by omega, by omega, by omega, fun l2 c2 b4 H4 nl2 hl2 hn2 hc2 hb4 P4 K4 => ?_⟩
      rw [hml] at hc2
      have nlp2 : l2 ≠ p := P3.nep nl2
      have K14 := K13.trans K4
      have hl4 := hl.keepP P3 K4 nlp
      obtain ⟨xs4, hx4, px4⟩ := id hl4
      obtain ⟨ys4, hy4, py4⟩ := id hl2
      refine ⟨_, rfl, _, _, rfl, rfl, _, rfl, iteD (fun e6 => ?_) (fun e6 => ?_)⟩
      · -- a sign
        refine ⟨_, rfl, _, rfl, _, _, _, _, rfl, rfl, hx4, hy4, smallM (by rw [px4.len, py4.len]; omega), fun r nr => ?_⟩
        have k5 : Keep [] H4 (upd H4 r (.lst (xs4 ++ ys4))) := Keep.new nr
        have P5 := P4.keep0 k5
        obtain ⟨zs, hz, pz⟩ := CL.cat px4 py4 nr
        refine ⟨_, rfl, p, q, ns, _, 7, rfl, by decide, by decide, P5, fun sg H6 s0 s1 P6 K6 => ?_⟩
        have hr6 := (show CL _ r (c1 ++ c2) from ⟨zs, hz, pz⟩).keepP P5 K6 (P4.nep nr)
        obtain ⟨zs6, hz6, pz6⟩ := hr6
        exact fin (by decide +kernel) hz6 pz6 (hn1.app hn2) (by rw [List.length_append]; omega) (by rw [List.length_append]; omega) (by omega) P6 ((K14.trans (k5.mono (by simp))).trans K6) sg
      · -- one of two
        refine ⟨_, rfl, _, rfl, _, rfl, _, rfl, _, rfl, _, _, rfl, rfl, p, q, ns, _, sl, mo, br, deep - 1, rfl, P4, sl0, sl1, mo0, mo1, by omega, by omega, by omega, fun l3 c3 b5 H5 nl3 hl3 hn3 hc3 hb5 P5 K5 => ?_⟩
        rw [hml] at hc3
        have K15 := K14.trans K5
        have hl5 := hl4.keepP P4 K5 nlp
        have hr5 := hl2.keepP P4 K5 nlp2
        obtain ⟨xs5, hx5, px5⟩ := hl5
        obtain ⟨ys5, hy5, py5⟩ := hr5
        obtain ⟨zs5, hz5, pz5⟩ := hl3
        have lx := px5.len
        have ly := py5.len
        have lz := pz5.len
        refine ⟨_, rfl, _, rfl, _, _, rfl, .inl (SqL.of hy5), _, _, rfl, rfl, by show 2 ≤ sizeLine; decide, fun t1 nt1 => ⟨by show 1 ≤ sizeLine; decide, fun u1 nu1 => ?_⟩⟩
        have k6 : Keep [] H5 (upd (upd H5 t1 (.tup [.str "skip", .int ((ys5.length : Int) + 1)])) u1 (.lst [.ref t1])) := (Keep.new nt1).then_new nu1
        have hA : CL (upd (upd H5 t1 (.tup [.str "skip", .int ((ys5.length : Int) + 1)])) u1 (.lst [.ref t1])) u1 [("skip", (ys5.length : Int) + 1)] := CL.one nu1
        obtain ⟨as, ha, pa⟩ := hA
        have la := pa.len
        refine ⟨_, _, _, _, rfl, rfl, k6 _ _ hx5 (by simp), ha, smallM (by rw [la]; simp; omega), fun r1 nr1 => ?_⟩
        have k7 := k6.then_new (o := .lst (xs5 ++ as)) nr1
        have hB := CL.cat (px5.tk k6.tk) pa nr1
        obtain ⟨bs, hb, pb⟩ := hB
        have lb := pb.len
        rw [List.length_append] at lb
        refine ⟨_, rfl, _, _, _, _, rfl, rfl, hb, k7 _ _ hy5 (by simp), smallM (by rw [lb]; simp; omega), fun r2 nr2 => ?_⟩
        have k8 := k7.then_new (o := .lst (bs ++ ys5)) nr2
        have hC := CL.cat pb (py5.tk k7.tk) nr2
        obtain ⟨ds, hd2, pd⟩ := hC
        have ld := pd.len
        rw [List.length_append, List.length_append] at ld
        refine ⟨_, rfl, _, _, rfl, .inl (SqL.of (k8 _ _ hz5 (by simp))), by show 2 ≤ sizeLine; decide, fun t2 nt2 => ⟨by show 1 ≤ sizeLine; decide, fun u2 nu2 => ?_⟩⟩
        have hE : CL _ u2 [("jump", (zs5.length : Int))] := CL.one nu2
        obtain ⟨es, he, pe⟩ := hE
        have le := pe.len
        have k9' : Keep [] _ _ := (Keep.new (W := []) nt2).then_new (o := .lst [.ref t2]) nu2
        have k9 := k8.trans k9'
        refine ⟨_, _, _, _, rfl, rfl, k9' _ _ hd2 (by simp), he, smallM (by rw [ld, le]; simp; omega), fun r3 nr3 => ?_⟩
        have k10 := k9.then_new (o := .lst (ds ++ es)) nr3
        have hF := CL.cat (pd.tk k9'.tk) pe nr3
        obtain ⟨fs, hf, pf⟩ := hF
        have lf := pf.len
        rw [List.length_append, List.length_append, List.length_append] at lf
        refine ⟨_, rfl, _, _, _, _, rfl, rfl, hf, k10 _ _ hz5 (by simp), smallM (by rw [lf]; simp; omega), fun r4 nr4 => ?_⟩
        have k11 := k10.then_new (o := .lst (fs ++ zs5)) nr4
        refine k r4 _ b5 _ (P5.free K15 (k10.free nr4)) (CL.cat pf (pz5.tk k10.tk) nr4) ?_ ?_ (by omega) (P5.keep0 k11) (K15.trans (k11.mono (by simp)))
        · exact (((hn1.app (.one (by decide +kernel))).app hn2).app (.one (by decide +kernel))).app hn3
        · rw [List.length_append, List.length_append, List.length_append, List.length_append, hLv]
          simp; omega
    case leafA =>
      refine ⟨fun σ H' => H' = H1 ∧ σ = [some (.ref p), some (.int sl), some (.int mo), some (.bl br), some (.int deep), some (.int kd), none, none, none], ?_, ?_⟩
      · refine ⟨_, rfl, rfl, _, rfl, iteD (fun _ => ⟨_, rfl, _, _, rfl, rfl, _, rfl, iteD (fun hs => ?_) (fun _ => ⟨rfl, rfl⟩)⟩) (fun _ => ⟨rfl, rfl⟩)⟩
        exact ⟨_, rfl, _, rfl, p, q, ns, _, sl, rfl, by omega, by omega, P1, fun r Hr r0 r1 Pr Kr => kone (by decide +kernel) Pr (by omega) (K1.trans Kr)⟩
      rintro σ H' ⟨rfl, rfl⟩
      refine ⟨fun σ H0 => H0 = H' ∧ σ = [some (.ref p), some (.int sl), some (.int mo), some (.bl br), some (.int deep), some (.int kd), none, none, none], ?_, ?_⟩
      · refine ⟨_, rfl, rfl, _, rfl, iteD (fun _ => ⟨_, rfl, _, rfl, iteB (fun _ => ?_) (fun _ => ⟨rfl, rfl⟩)⟩) (fun _ => ⟨rfl, rfl⟩)⟩
        exact kone (by decide +kernel) P1 (by omega) K1
      rintro σ H0 ⟨rfl, rfl⟩
      refine ⟨fun σ H' => H' = H0 ∧ σ = [some (.ref p), some (.int sl), some (.int mo), some (.bl br), some (.int deep), some (.int kd), none, none, none], ?_, ?_⟩
      · refine ⟨_, rfl, rfl, _, rfl, iteD (fun _ => ⟨_, rfl, _, _, rfl, rfl, _, rfl, iteD (fun hs => ?_) (fun _ => ⟨rfl, rfl⟩)⟩) (fun _ => ⟨rfl, rfl⟩)⟩
        exact ⟨_, rfl, _, rfl, p, q, ns, _, mo, rfl, by omega, by omega, P1, fun r Hr r0 r1 Pr Kr => kone (by decide +kernel) Pr (by omega) (K1.trans Kr)⟩
      rintro σ H' ⟨rfl, rfl⟩
      exact ⟨_, rfl, p, q, ns, _, rfl, P1, fun r Hr _ _ Pr Kr => kone (by decide +kernel) Pr (by omega) (K1.trans Kr)⟩
    case leafB =>
      refine ⟨fun σ H' => H' = H1 ∧ σ = [some (.ref p), some (.int sl), some (.int mo), some (.bl br), some (.int deep), some (.int kd), none, none, none], ?_, ?_⟩
      · refine ⟨_, rfl, rfl, _, rfl, iteD (fun _ => ⟨_, rfl, _, _, rfl, rfl, _, rfl, iteD (fun hs => ?_) (fun _ => ⟨rfl, rfl⟩)⟩) (fun _ => ⟨rfl, rfl⟩)⟩
        exact ⟨_, rfl, _, rfl, p, q, ns, _, sl, rfl, by omega, by omega, P1, fun r Hr r0 r1 Pr Kr => kone (by decide +kernel) Pr (by omega) (K1.trans Kr)⟩
      rintro σ H' ⟨rfl, rfl⟩
      refine ⟨fun σ H0 => H0 = H' ∧ σ = [some (.ref p), some (.int sl), some (.int mo), some (.bl br), some (.int deep), some (.int kd), none, none, none], ?_, ?_⟩
      · refine ⟨_, rfl, rfl, _, rfl, iteD (fun _ => ⟨_, rfl, _, rfl, iteB (fun _ => ?_) (fun _ => ⟨rfl, rfl⟩)⟩) (fun _ => ⟨rfl, rfl⟩)⟩
        exact kone (by decide +kernel) P1 (by omega) K1
      rintro σ H0 ⟨rfl, rfl⟩
      refine ⟨fun σ H' => H' = H0 ∧ σ = [some (.ref p), some (.int sl), some (.int mo), some (.bl br), some (.int deep), some (.int kd), none, none, none], ?_, ?_⟩
      · refine ⟨_, rfl, rfl, _, rfl, iteD (fun _ => ⟨_, rfl, _, _, rfl, rfl, _, rfl, iteD (fun hs => ?_) (fun _ => ⟨rfl, rfl⟩)⟩) (fun _ => ⟨rfl, rfl⟩)⟩
        exact ⟨_, rfl, _, rfl, p, q, ns, _, mo, rfl, by omega, by omega, P1, fun r Hr r0 r1 Pr Kr => kone (by decide +kernel) Pr (by omega) (K1.trans Kr)⟩
      rintro σ H' ⟨rfl, rfl⟩
      exact ⟨_, rfl, p, q, ns, _, rfl, P1, fun r Hr _ _ Pr Kr => kone (by decide +kernel) Pr (by omega) (K1.trans Kr)⟩
    case leafC =>
      refine ⟨fun σ H' => H' = H2 ∧ σ = [some (.ref p), some (.int sl), some (.int mo), some (.bl br), some (.int deep), some (.int kd), none, none, none], ?_, ?_⟩
      · refine ⟨_, rfl, rfl, _, rfl, iteD (fun _ => ⟨_, rfl, _, _, rfl, rfl, _, rfl, iteD (fun hs => ?_) (fun _ => ⟨rfl, rfl⟩)⟩) (fun _ => ⟨rfl, rfl⟩)⟩
        exact ⟨_, rfl, _, rfl, p, q, ns, _, sl, rfl, by omega, by omega, P2, fun r Hr r0 r1 Pr Kr => kone (by decide +kernel) Pr (by omega) ((K1.trans K2).trans Kr)⟩
      rintro σ H' ⟨rfl, rfl⟩
      refine ⟨fun σ H0 => H0 = H' ∧ σ = [some (.ref p), some (.int sl), some (.int mo), some (.bl br), some (.int deep), some (.int kd), none, none, none], ?_, ?_⟩
      · refine ⟨_, rfl, rfl, _, rfl, iteD (fun _ => ⟨_, rfl, _, rfl, iteB (fun _ => ?_) (fun _ => ⟨rfl, rfl⟩)⟩) (fun _ => ⟨rfl, rfl⟩)⟩
        exact kone (by decide +kernel) P2 (by omega) (K1.trans K2)
      rintro σ H0 ⟨rfl, rfl⟩
      refine ⟨fun σ H' => H' = H0 ∧ σ = [some (.ref p), some (.int sl), some (.int mo), some (.bl br), some (.int deep), some (.int kd), none, none, none], ?_, ?_⟩
      · refine ⟨_, rfl, rfl, _, rfl, iteD (fun _ => ⟨_, rfl, _, _, rfl, rfl, _, rfl, iteD (fun hs => ?_) (fun _ => ⟨rfl, rfl⟩)⟩) (fun _ => ⟨rfl, rfl⟩)⟩
        exact ⟨_, rfl, _, rfl, p, q, ns, _, mo, rfl, by omega, by omega, P2, fun r Hr r0 r1 Pr Kr => kone (by decide +kernel) Pr (by omega) ((K1.trans K2).trans Kr)⟩
      rintro σ H' ⟨rfl, rfl⟩
      exact ⟨_, rfl, p, q, ns, _, rfl, P2, fun r Hr _ _ Pr Kr => kone (by decide +kernel) Pr (by omega) ((K1.trans K2).trans Kr)⟩
theorem value_all {f : Addr} {fd : FuncData} (D : C8.Def K mg "_law_some_value" s_law_some_value f fd) (b : Binds K fd ["pool", "slots", "moves", "brain", "deep"] []) (T : Txt K mg C_Checker C_GameError C_BadText C_TooLarge C_BadMove C_BadCode T_SIGNS T_ROUND_NAMES T_BRAIN_NAMES T_EFFECTS) (c1 : C8.Cal P w K mg base 1 "_law_draw" sp_law_draw []) (c2 : C8.Cal P w K mg base 1 "_law_spend" sp_law_spend []) (c3 : C8.Cal P w K mg base 2 "_law_number" sp_law_number []) :
    ∀ n, C8.Cal P w K mg base (n + 2) "_law_some_value" (sp_value n) []
  | 0 => ok_value0 D b
  | n + 1 => ok_value D b T (value_all D b T c1 c2 c3 n) (calUp c1 (by omega)) (calUp c2 (by omega)) (calUp c3 (by omega))
end

theorem cat2 {H : Hp} {l1 l2 : Addr} {c1 c2 : List Ins} {Q : VK} (h1 : CL H l1 c1) (h2 : CL H l2 c2) (hz : c1.length + c2.length ≤ 1000000) (k : ∀ r H', H r = none → CL H' r (c1 ++ c2) → Keep [] H H' → Q (.ref r) H') : rCat (.ref l1) (.ref l2) H Q := by
  obtain ⟨xs, hx, px⟩ := h1
  obtain ⟨ys, hy, py⟩ := h2
  refine ⟨_, _, _, _, rfl, rfl, hx, hy, smallM (by rw [px.len, py.len]; exact hz), fun p np => k p _ np (CL.cat px py np) (Keep.new np)⟩
theorem one3 {H : Hp} {t l : Addr} {n : Str} {a : Int} {G : Prop} (nt : H t = none) (nl : upd H t (.tup [.str n, .int a]) l = none)
    (k : CL (upd (upd H t (.tup [.str n, .int a])) l (.lst [.ref t])) l [(n, a)] → Keep [] H (upd (upd H t (.tup [.str n, .int a])) l (.lst [.ref t])) → G) : G :=
  k (CL.one nl) ((Keep.new nt).then_new nl)
theorem CL.lenq {K : PySem.W.Frag} {H : Hp} {l : Addr} {cs : List Ins} {G : Prop} (h : CL H l cs) (q : ∀ ys, SqL K H l ys ∨ SqT K H l ys → (ys.length : Int) = cs.length → G) : G := by
  obtain ⟨xs, hx, px⟩ := h
  exact q xs (.inl (SqL.of hx)) (by rw [px.len])
def sp_code (n : Nat) : Sp := fun vs H Q _ => ∃ (p q : Addr) (ns : List Int) (bud sl mo : Int) (br : Bool) (deep : Int), vs = [.ref p, .int sl, .int mo, .bl br, .int deep] ∧ Pool H p q ns bud ∧ 0 ≤ sl ∧ sl ≤ 12 ∧ 0 ≤ mo ∧ mo ≤ 24 ∧ bud.toNat + 1 ≤ n ∧ n ≤ 41 ∧
  ∀ l cs bud' H', H l = none → CL H' l cs → NmOk cs → cs.length + 500 * bud'.toNat ≤ 500 * bud.toNat → bud' ≤ bud → Pool H' p q ns bud' → Keep [p] H H' → Q (.ref l) H'
section
variable {P : Program} {w : World} {K : PySem.W.Frag} {mg : Str → Option Value} {base : Heap} {C_Checker : Addr} {C_GameError : Addr} {C_BadText : Addr} {C_TooLarge : Addr} {C_BadMove : Addr} {C_BadCode : Addr} {f_BadCode___init : Addr} {T_SIGNS : Addr} {T_ROUND_NAMES : Addr} {T_BRAIN_NAMES : Addr} {T_EFFECTS : Addr}
theorem ok_code0 {f : Addr} {fd : FuncData} (D : C8.Def K mg "_law_some_code" s_law_some_code f fd) (b : Binds K fd ["pool", "slots", "moves", "brain", "deep"] []) {k : Nat} : C8.Cal P w K mg base k "_law_some_code" (sp_code 0) [] :=
  ⟨f, fd, ["pool", "slots", "moves", "brain", "deep"], [], ⟨fun vs H Q E h => (by obtain ⟨p, q, ns, bud, sl, mo, br, deep, rfl, _⟩ := h; rfl), fun A outer s H args us vs Q E _ _ _ _ h => (by
    obtain ⟨p, q, ns, bud, sl, mo, br, deep, _, _, _, _, _, _, h1, _⟩ := h
    exact absurd h1 (by omega))⟩, D.mgf, D.kp, b, .nil⟩
theorem ok_code {f : Addr} {fd : FuncData} (D : C8.Def K mg "_law_some_code" s_law_some_code f fd) (b : Binds K fd ["pool", "slots", "moves", "brain", "deep"] []) (T : Txt K mg C_Checker C_GameError C_BadText C_TooLarge C_BadMove C_BadCode T_SIGNS T_ROUND_NAMES T_BRAIN_NAMES T_EFFECTS) {n k : Nat} (c_law_some_code : C8.Cal P w K mg base k "_law_some_code" (sp_code n) []) (c_law_some_value : C8.Cal P w K mg base k "_law_some_value" (sp_value 5) []) (c_law_draw : C8.Cal P w K mg base k "_law_draw" sp_law_draw [])
    (c_law_spend : C8.Cal P w K mg base k "_law_spend" sp_law_spend []) (c_law_few : C8.Cal P w K mg base k "_law_few" sp_law_few []) : C8.Cal P w K mg base (k + 1) "_law_some_code" (sp_code (n + 1)) [] := by
  refine cal0 D b .nil sc_law_some_code (fun vs H Q E h => ?_) (fun cdv A outer s H vs Q E hr h => ?_)
  · obtain ⟨p, q, ns, bud, sl, mo, br, deep, rfl, _⟩ := h
    rfl
  · obtain ⟨p, q, ns, bud, sl, mo, br, deep, rfl, hP, sl0, sl1, mo0, mo1, hbn, hn41, k⟩ := h
    refine ⟨_, (pss_cons (ps_set (i := 5) sc_law_some_code.nd rfl (by first | exact Or.inl rfl | exact Or.inr rfl) (pe_lst pa_nil))
(pss_cons (ps_for PassesOwn.never rfl (pi_range1 (by rfl) T.n_range (pa_cons (pe_c c_law_few hr (by first | exact Nat.le_refl _ | decide) rfl (pa_cons (pv 0) (pa_cons pe_int pa_nil))) pa_nil)) (pg_name (i := 6) sc_law_some_code.nd rfl (by first | exact Or.inl rfl | exact Or.inr rfl))
  (pss_one (ps_if (pt_val (pe_c c_law_spend hr (by first | exact Nat.le_refl _ | decide) rfl (pa_cons (pv 0) pa_nil)))
    (pss_cons (ps_set (i := 7) sc_law_some_code.nd rfl (by first | exact Or.inl rfl | exact Or.inr rfl) (pe_c c_law_draw hr (by first | exact Nat.le_refl _ | decide) rfl (pa_cons (pv 0) (pa_cons pe_int pa_nil))))
    (pss_cons (ps_set (i := 8) sc_law_some_code.nd rfl (by first | exact Or.inl rfl | exact Or.inr rfl) (pe_c c_law_some_value hr (by first | exact Nat.le_refl _ | decide) rfl (pa_cons (pv 0) (pa_cons (pv 1) (pa_cons (pv 2) (pa_cons (pv 3) (pa_cons pe_int pa_nil)))))))
    (pss_cons (ps_set (i := 9) sc_law_some_code.nd rfl (by first | exact Or.inl rfl | exact Or.inr rfl) (pe_lst pa_nil))
    (pss_cut (ps_if (PW.pt (pw_and (pt_cmpR op_lt (pv 7) pe_int (nomark _)) (pw_and1 (pt_cmpR op_gt (pv 4) pe_int (nomark _)))))
      (pss_one (ps_set (i := 9) sc_law_some_code.nd rfl (by first | exact Or.inl rfl | exact Or.inr rfl) (pe_c c_law_some_code hr (by first | exact Nat.le_refl _ | decide) rfl (pa_cons (pv 0) (pa_cons (pv 1) (pa_cons (pv 2) (pa_cons (pv 3) (pa_cons (pe_op op_sub (pv 4) pe_int) pa_nil))))))))
      pss_nil)
    (pss_one (ps_if (pt_cmpR op_eq (pv 7) pe_int (nomark _))
      (pss_one (ps_set (i := 5) sc_law_some_code.nd rfl (by first | exact Or.inl rfl | exact Or.inr rfl) (pe_op op_cat (pv 5) (pe_lst (pa_cons (pe_tup (pa_cons pe_str (pa_cons pe_int pa_nil))) pa_nil)))))
      (pss_one (ps_if (PW.pt (pw_and (pt_cmpR op_eq (pv 7) pe_int (nomark _)) (pw_and1 (pt_val (pv 3)))))
        (pss_cons (ps_set (i := 5) sc_law_some_code.nd rfl (by first | exact Or.inl rfl | exact Or.inr rfl) (pe_op op_cat (pe_op op_cat (pe_op op_cat (pe_op op_cat (pv 5) (pe_lst (pa_cons (pe_tup (pa_cons pe_str (pa_cons pe_int pa_nil))) pa_nil))) (pv 8)) (pe_lst (pa_cons (pe_tup (pa_cons pe_str (pa_cons (pe_op op_add (pe_callB call_len_seq (by rfl) T.n_len bo_len (pa_cons (pv 9) pa_nil)) pe_int) pa_nil))) pa_nil))) (pv 9)))
        (pss_one (ps_set (i := 5) sc_law_some_code.nd rfl (by first | exact Or.inl rfl | exact Or.inr rfl) (pe_op op_cat (pv 5) (pe_lst (pa_cons (pe_tup (pa_cons pe_str (pa_cons (pe_op op_add (pe_op op_add (pe_callB call_len_seq (by rfl) T.n_len bo_len (pa_cons (pv 8) pa_nil)) (pe_callB call_len_seq (by rfl) T.n_len bo_len (pa_cons (pv 9) pa_nil))) pe_int) pa_nil))) pa_nil))))))
        (pss_one (ps_if (pt_cmpR op_lt (pv 7) pe_int (nomark _))
          (pss_one (ps_set (i := 5) sc_law_some_code.nd rfl (by first | exact Or.inl rfl | exact Or.inr rfl) (pe_op op_cat (pe_op op_cat (pe_op op_cat (pv 5) (pv 8)) (pe_lst (pa_cons (pe_tup (pa_cons pe_str (pa_cons (pe_callB call_len_seq (by rfl) T.n_len bo_len (pa_cons (pv 9) pa_nil)) pa_nil))) pa_nil))) (pv 9))))
          (pss_one (ps_if (pt_cmpR op_lt (pv 7) pe_int (nomark _))
            (pss_cons (ps_set (i := 10) sc_law_some_code.nd rfl (by first | exact Or.inl rfl | exact Or.inr rfl) (pe_c c_law_some_code hr (by first | exact Nat.le_refl _ | decide) rfl (pa_cons (pv 0) (pa_cons (pv 1) (pa_cons (pv 2) (pa_cons (pv 3) (pa_cons pe_int pa_nil)))))))
            (pss_one (ps_set (i := 5) sc_law_some_code.nd rfl (by first | exact Or.inl rfl | exact Or.inr rfl) (pe_op op_cat (pe_op op_cat (pe_op op_cat (pe_op op_cat (pe_op op_cat (pv 5) (pv 8)) (pe_lst (pa_cons (pe_tup (pa_cons pe_str (pa_cons (pe_op op_add (pe_callB call_len_seq (by rfl) T.n_len bo_len (pa_cons (pv 9) pa_nil)) pe_int) pa_nil))) pa_nil))) (pv 9)) (pe_lst (pa_cons (pe_tup (pa_cons pe_str (pa_cons (pe_callB call_len_seq (by rfl) T.n_len bo_len (pa_cons (pv 10) pa_nil)) pa_nil))) pa_nil))) (pv 10)))))
            (pss_one (ps_if (PW.pt (pw_and (pt_cmpR op_eq (pv 7) pe_int (nomark _)) (pw_and1 (pt_cmpR op_gt (pv 1) pe_int (nomark _)))))
              (pss_one (ps_set (i := 5) sc_law_some_code.nd rfl (by first | exact Or.inl rfl | exact Or.inr rfl) (pe_op op_cat (pe_op op_cat (pv 5) (pv 8)) (pe_lst (pa_cons (pe_tup (pa_cons pe_str (pa_cons (pe_c c_law_draw hr (by first | exact Nat.le_refl _ | decide) rfl (pa_cons (pv 0) (pa_cons (pv 1) pa_nil))) pa_nil))) pa_nil)))))
              (pss_one (ps_if (pt_val (pv 3))
                (pss_one (ps_set (i := 5) sc_law_some_code.nd rfl (by first | exact Or.inl rfl | exact Or.inr rfl) (pe_op op_cat (pv 5) (pe_lst (pa_cons (pe_tup (pa_cons pe_str (pa_cons pe_int pa_nil))) pa_nil)))))
                (pss_one (ps_set (i := 5) sc_law_some_code.nd rfl (by first | exact Or.inl rfl | exact Or.inr rfl) (pe_op op_cat (pe_op op_cat (pe_op op_cat (pe_op op_cat (pe_op op_cat (pe_op op_cat (pv 5) (pv 8)) (pe_lst (pa_cons (pe_tup (pa_cons pe_str (pa_cons pe_int pa_nil))) pa_nil))) (pv 8)) (pe_lst (pa_cons (pe_tup (pa_cons pe_str (pa_cons (pe_c c_law_draw hr (by first | exact Nat.le_refl _ | decide) rfl (pa_cons (pv 0) (pa_cons pe_int pa_nil))) pa_nil))) pa_nil))) (pv 8)) (pe_lst (pa_cons (pe_tup (pa_cons pe_str (pa_cons pe_int pa_nil))) pa_nil)))))))))))))))))))))
    pss_nil)))
(pss_one (ps_ret (pv 5))))), ?_⟩
    have hb40 : bud.toNat ≤ 40 := by omega
    refine ⟨Nat.zero_le _, fun l nl => ?_⟩
    have P0 := hP.new (o := .lst []) nl
    refine ⟨_, rfl, p, q, ns, bud, 5, rfl, by decide, by decide, P0, fun m H1 m0 m1 P1 K1 => ?_⟩
    have K01 : Keep [p] H H1 := (Keep.new nl).trans K1
    have hl1 : H1 l = some (.lst []) := K1 _ _ upd_same (by simpa using hP.nep nl)
    refine ⟨m, rfl, by omega, by omega, for_range (lo := 0) (n := m.toNat) (fun i σ H' => ∃ (l : Addr) (cs : List Ins) (b1 : Int) (o6 o7 o8 o9 o10 : Option V), σ = [some (.ref p), some (.int sl), some (.int mo), some (.bl br), some (.int deep), some (.ref l), o6, o7, o8, o9, o10] ∧
      H l = none ∧ CL H' l cs ∧ NmOk cs ∧ cs.length + 500 * b1.toNat ≤ 500 * bud.toNat ∧ b1 ≤ bud ∧ Pool H' p q ns b1 ∧ Keep [p] H H') ⟨l, [], bud, none, none, none, none, none, rfl, nl, ⟨[], hl1, .nil⟩, .nil, by simp, Int.le_refl _, P1, K01⟩ ?_ ?_⟩
    · rintro i σ H2 hi ⟨l, cs, b1, o6, o7, o8, o9, o10, rfl, nl, hl, hnm, hlen, hb1, P2, K2⟩
      have nep : ∀ {a : Addr}, H a = none → a ≠ p := fun h => hP.nep h
      refine ⟨_, rfl, p, q, ns, b1, rfl, P2, fun H3 P3 K3 => ⟨_, rfl, iteD (fun hs => ?_) (fun hs => ?_)⟩⟩
      · have K03 := K2.trans K3
        have hl3 := hl.keepP P2 K3 (nep nl)
        refine ⟨_, rfl, p, q, ns, _, 8, rfl, by decide, by decide, P3, fun kd H4 k0 k1 P4 K4 => ?_⟩
        have hl4 := hl3.keepP P3 K4 (nep nl)
        have K04 := K03.trans K4
        refine ⟨_, rfl, _, rfl, _, rfl, _, rfl, p, q, ns, _, sl, mo, br, 4, rfl, P4, sl0, sl1, mo0, mo1, by decide, by decide, by decide, fun v cv b5 H5 nv hv hnv hcv hb5 P5 K5 => ?_⟩
        have hcv : cv.length ≤ 161 := hcv
        have hl5 := hl4.keepP P4 K5 (nep nl)
        have K05 := K04.trans K5
        have nv0 : H v = none := P4.free K04 nv
        refine ⟨Nat.zero_le _, fun n0 nn0 => ?_⟩
        have k6 : Keep [] H5 (upd H5 n0 (.lst [])) := Keep.new nn0
        refine ⟨fun σ H' => ∃ (n1 : Addr) (ci : List Ins) (b6 : Int), σ = [some (.ref p), some (.int sl), some (.int mo), some (.bl br), some (.int deep), some (.ref l), some (.int (0 + (i : Nat))), some (.int kd), some (.ref v), some (.ref n1), o10] ∧ CL H' n1 ci ∧ NmOk ci ∧ ci.length + 500 * b6.toNat ≤ 500 * b5.toNat ∧ b6 ≤ b5 ∧
          CL H' l cs ∧ CL H' v cv ∧ Pool H' p q ns b6 ∧ Keep [p] H H' ∧ H n1 = none, ?_, ?_⟩
        · have stay : ∃ (n1 : Addr) (ci : List Ins) (b6 : Int), ([some (.ref p), some (.int sl), some (.int mo), some (.bl br), some (.int deep), some (.ref l), some (.int (0 + (i : Nat))), some (.int kd), some (.ref v), some (.ref n0), o10] : List (Option V)) = [some (.ref p), some (.int sl), some (.int mo), some (.bl br), some (.int deep), some (.ref l), some (.int (0 + (i : Nat))), some (.int kd), some (.ref v), some (.ref n1), o10] ∧ CL (upd H5 n0 (.lst [])) n1 ci ∧ NmOk ci ∧ ci.length + 500 * b6.toNat ≤ 500 * b5.toNat ∧ b6 ≤ b5 ∧
              CL (upd H5 n0 (.lst [])) l cs ∧ CL (upd H5 n0 (.lst [])) v cv ∧ Pool (upd H5 n0 (.lst [])) p q ns b6 ∧ Keep [p] H (upd H5 n0 (.lst [])) ∧ H n1 = none :=
            ⟨n0, [], b5, rfl, ⟨[], upd_same, .nil⟩, .nil, by simp, Int.le_refl _, hl5.keep0 k6, hv.keep0 k6, P5.keep0 k6, K05.trans (k6.mono (by simp)), P5.free K05 nn0⟩
          refine ⟨_, rfl, _, _, rfl, rfl, _, rfl, iteD (fun _ => ⟨_, rfl, _, _, rfl, rfl, _, rfl, iteD (fun _ => ?_) (fun _ => stay)⟩) (fun _ => stay)⟩
          refine ⟨_, rfl, _, rfl, _, rfl, _, rfl, _, rfl, _, _, rfl, rfl, p, q, ns, b5, sl, mo, br, deep - 1, rfl, P5.keep0 k6, sl0, sl1, mo0, mo1, by omega, by omega, fun n1 ci b6 H6 nn1 hn1 hnm1 hlen1 hb6 P6 K6 => ?_⟩
          have K0' : Keep [p] H (upd H5 n0 (.lst [])) := K05.trans (k6.mono (by simp))
          exact ⟨n1, ci, b6, rfl, hn1, hnm1, hlen1, hb6, (hl5.keep0 k6).keepP (P5.keep0 k6) K6 (nep nl), (hv.keep0 k6).keepP (P5.keep0 k6) K6 (nep nv0), P6, K0'.trans K6, (P5.keep0 k6).free K0' nn1⟩
        rintro σ H6 ⟨n1, ci, b6, rfl, hn, hnmi, hlci, hb6, hl6, hv6, P6, K06, nn1⟩
        have hsp : 500 * b5.toNat + 500 ≤ 500 * b1.toNat := by omega
        have fin : ∀ {r : Addr} {H' : Hp} {c2 : List Ins} {b7 : Int} {o10' : Option V}, H6 r = none ∨ H r = none → CL H' r c2 → NmOk c2 → c2.length + 500 * b7.toNat ≤ 500 * bud.toNat → b7 ≤ bud → Pool H' p q ns b7 → Keep [p] H H' → ∃ (l : Addr) (cs : List Ins) (b1 : Int) (o6 o7 o8 o9 o10 : Option V), ([some (.ref p), some (.int sl), some (.int mo), some (.bl br), some (.int deep), some (.ref r), some (.int (0 + (i : Nat))), some (.int kd), some (.ref v), some (.ref n1), o10'] : List (Option V)) = [some (.ref p), some (.int sl), some (.int mo), some (.bl br), some (.int deep), some (.ref l), o6, o7, o8, o9, o10] ∧
            H l = none ∧ CL H' l cs ∧ NmOk cs ∧ cs.length + 500 * b1.toNat ≤ 500 * bud.toNat ∧ b1 ≤ bud ∧ Pool H' p q ns b1 ∧ Keep [p] H H' := fun hr h1 h2 h3 h4 h5 h6 => ⟨_, _, _, _, _, _, _, _, rfl, hr.elim (P6.free K06) id, h1, h2, h3, h4, h5, h6⟩
        have la : ∀ (c1 c2 : List Ins), (c1 ++ c2).length = c1.length + c2.length := fun _ _ => List.length_append
        have l1 : ∀ (nm : Str) (a : Int), ([(nm, a)] : List Ins).length = 1 := fun _ _ => rfl
        have b6b : b6 ≤ bud := by omega
        have K6' : ∀ {H' : Hp}, Keep [] H6 H' → Keep [p] H H' := fun z => K06.trans (z.mono (by simp))
        -- a jump
        refine ⟨_, rfl, rfl, _, rfl, iteD (fun e0 => ?_) (fun e0 => ?_)⟩
        · refine ⟨_, rfl, And.intro (by show 2 ≤ sizeLine; decide) <| fun tu ntu => And.intro (by show 1 ≤ sizeLine; decide) <| fun u nu => one3 ntu nu fun hu ku => cat2 (hl6.keep0 ku) hu (by rw [l1]; omega) fun r H8 nr hr kr => ?_⟩
          have kz := ku.trans kr
          exact fin (.inl (ku.free nr)) hr (hnm.app (.one (by decide +kernel))) (by rw [la, l1]; omega) b6b (P6.keep0 kz) (K6' kz)
        -- the branches behind
        have cC : ∀ {D : Ends} {t : TS} {o : Prop}, True := trivial
        clear cC
        have brC : ∃ x, some (some (V.ref l)) = some (some x) ∧ True := ⟨_, rfl, trivial⟩
        clear brC
        refine ⟨_, rfl, rfl, _, rfl, iteD (fun e1 => ⟨_, rfl, _, rfl, iteB (fun eb => ?cB) (fun eb => ?cC)⟩) (fun e1 => ?cC2)⟩
        case cB =>
          refine ⟨_, rfl, And.intro (by show 2 ≤ sizeLine; decide) <| fun tu1 ntu1 => And.intro (by show 1 ≤ sizeLine; decide) <| fun u1 nu1 => one3 ntu1 nu1 fun hu1 ka => cat2 (hl6.keep0 ka) hu1 (by rw [l1]; omega) fun r1 Hb nr1 hr1 kb => ?_⟩
          have kab := ka.trans kb
          refine ⟨_, rfl, cat2 hr1 (hv6.keep0 kab) (by rw [la, l1]; omega) fun r2 Hc nr2 hr2 kc => ?_⟩
          have kac := kab.trans kc
          refine ⟨_, rfl, (hn.keep0 kac).lenq fun _ sq _ => ⟨_, _, rfl, sq, _, _, rfl, rfl, And.intro (by show 2 ≤ sizeLine; decide) <| fun tu2 ntu2 => And.intro (by show 1 ≤ sizeLine; decide) <| fun u2 nu2 => one3 ntu2 nu2 fun hu2 kd2 => cat2 (hr2.keep0 kd2) hu2 (by rw [la, la, l1, l1]; omega) fun r3 He nr3 hr3 ke => ?_⟩⟩
          have kae := kac.trans (kd2.trans ke)
          refine ⟨_, rfl, cat2 hr3 (hn.keep0 kae) (by rw [la, la, la, l1, l1]; omega) fun r4 Hf nr4 hr4 kf => ?_⟩
          have kaf := kae.trans kf
          refine ⟨_, rfl, _, rfl, (hv6.keep0 kaf).lenq fun _ sq _ => ⟨_, _, rfl, sq, _, rfl, (hn.keep0 kaf).lenq fun _ sq _ => ⟨_, _, rfl, sq, _, _, rfl, rfl, _, _, rfl, rfl, And.intro (by show 2 ≤ sizeLine; decide) <| fun tu3 ntu3 => And.intro (by show 1 ≤ sizeLine; decide) <| fun u3 nu3 => one3 ntu3 nu3 fun hu3 kg => cat2 (hr4.keep0 kg) hu3 (by rw [la, la, la, la, l1, l1, l1]; omega) fun r5 Hh nr5 hr5 kh => ?_⟩⟩⟩
          have kah := kaf.trans (kg.trans kh)
          refine fin (.inl ((kaf.trans kg).free nr5)) hr5 (((((hnm.app (.one (by decide +kernel))).app hnv).app (.one (by decide +kernel))).app hnmi).app (.one (by decide +kernel))) ?_ b6b (P6.keep0 kah) (K6' kah)
          rw [la, la, la, la, la, l1, l1, l1]; omega
        all_goals
          refine ⟨_, rfl, _, _, rfl, rfl, _, rfl, iteD (fun e2 => ?_) (fun e2 => ?_)⟩
          · -- value, skip, inner
            refine ⟨_, rfl, _, rfl, cat2 hl6 hv6 (by omega) fun r1 Ha nr1 hr1 ka => ?_⟩
            refine ⟨_, rfl, (hn.keep0 ka).lenq fun _ sq _ => ⟨_, _, rfl, sq, And.intro (by show 2 ≤ sizeLine; decide) <| fun tu1 ntu1 => And.intro (by show 1 ≤ sizeLine; decide) <| fun u1 nu1 => one3 ntu1 nu1 fun hu1 kb => cat2 (hr1.keep0 kb) hu1 (by rw [la, l1]; omega) fun r2 Hc nr2 hr2 kc => ?_⟩⟩
            have kac := ka.trans (kb.trans kc)
            refine ⟨_, rfl, cat2 hr2 (hn.keep0 kac) (by rw [la, la, l1]; omega) fun r3 Hd nr3 hr3 kd3 => ?_⟩
            have kad := kac.trans kd3
            exact fin (.inl (kac.free nr3)) hr3 (((hnm.app hnv).app (.one (by decide +kernel))).app hnmi) (by rw [la, la, la, l1]; omega) b6b (P6.keep0 kad) (K6' kad)
          refine ⟨_, rfl, _, _, rfl, rfl, _, rfl, iteD (fun e3 => ?_) (fun e3 => ?_)⟩
          · -- two ways
            refine ⟨_, rfl, _, rfl, _, rfl, _, rfl, p, q, ns, b6, sl, mo, br, 0, rfl, P6, sl0, sl1, mo0, mo1, by omega, by omega, fun x cx b8 H7 nx hx hnx hlx hb8 P7 K7 => ?_⟩
            have hl7 := hl6.keepP P6 K7 (nep nl)
            have hv7 := hv6.keepP P6 K7 (nep nv0)
            have hn7 := hn.keepP P6 K7 (nep nn1)
            have K07 := K06.trans K7
            refine ⟨_, rfl, _, rfl, cat2 hl7 hv7 (by omega) fun r1 Ha nr1 hr1 ka => ?_⟩
            refine ⟨_, rfl, (hn7.keep0 ka).lenq fun _ sq _ => ⟨_, _, rfl, sq, _, _, rfl, rfl, And.intro (by show 2 ≤ sizeLine; decide) <| fun tu1 ntu1 => And.intro (by show 1 ≤ sizeLine; decide) <| fun u1 nu1 => one3 ntu1 nu1 fun hu1 kb => cat2 (hr1.keep0 kb) hu1 (by rw [la, l1]; omega) fun r2 Hc nr2 hr2 kc => ?_⟩⟩
            have kac := ka.trans (kb.trans kc)
            refine ⟨_, rfl, cat2 hr2 (hn7.keep0 kac) (by rw [la, la, l1]; omega) fun r3 Hd nr3 hr3 kd3 => ?_⟩
            have kad := kac.trans kd3
            refine ⟨_, rfl, (hx.keep0 kad).lenq fun _ sq _ => ⟨_, _, rfl, sq, And.intro (by show 2 ≤ sizeLine; decide) <| fun tu2 ntu2 => And.intro (by show 1 ≤ sizeLine; decide) <| fun u2 nu2 => one3 ntu2 nu2 fun hu2 ke => cat2 (hr3.keep0 ke) hu2 (by rw [la, la, la, l1, l1]; omega) fun r4 Hf nr4 hr4 kf => ?_⟩⟩
            have kaf := kad.trans (ke.trans kf)
            refine ⟨_, rfl, cat2 hr4 (hx.keep0 kaf) (by rw [la, la, la, la, l1, l1]; omega) fun r5 Hg nr5 hr5 kg => ?_⟩
            have kag := kaf.trans kg
            have K0g : Keep [p] H Hg := K07.trans (kag.mono (by simp))
            refine fin (.inr (P7.free K07 (kaf.free nr5))) hr5 (((((hnm.app hnv).app (.one (by decide +kernel))).app hnmi).app (.one (by decide +kernel))).app hnx) ?_ (by omega) (P7.keep0 kag) K0g
            rw [la, la, la, la, la, l1, l1]; omega
          refine ⟨_, rfl, rfl, _, rfl, iteD (fun e4 => ⟨_, rfl, _, _, rfl, rfl, _, rfl, iteD (fun e5 => ?_) (fun e5 => ?_)⟩) (fun e4 => ?_)⟩
          · -- store
            refine ⟨_, rfl, _, rfl, cat2 hl6 hv6 (by omega) fun r1 Ha nr1 hr1 ka => ?_⟩
            refine ⟨_, rfl, _, rfl, p, q, ns, b6, sl, rfl, by omega, by omega, P6.keep0 ka, fun z H7 z0 z1 P7 K7 => ?_⟩
            have K0a := K6' ka
            have hr7 := hr1.keepP (P6.keep0 ka) K7 (nep (P6.free K06 nr1))
            refine And.intro (by show 2 ≤ sizeLine; decide) <| fun tu1 ntu1 => And.intro (by show 1 ≤ sizeLine; decide) <| fun u1 nu1 => one3 ntu1 nu1 fun hu1 kb => cat2 (hr7.keep0 kb) hu1 (by rw [la, l1]; omega) fun r2 Hc nr2 hr2 kc => ?_
            have kbc := kb.trans kc
            have K0c : Keep [p] H Hc := (K0a.trans K7).trans (kbc.mono (by simp))
            exact fin (.inr (P7.free (K0a.trans K7) (kb.free nr2))) hr2 ((hnm.app hnv).app (.one (by decide +kernel))) (by rw [la, la, l1]; omega) b6b (P7.keep0 kbc) K0c
          all_goals
            refine ⟨_, rfl, _, rfl, iteB (fun eb2 => ?_) (fun eb2 => ?_)⟩
            · refine ⟨_, rfl, And.intro (by show 2 ≤ sizeLine; decide) <| fun tu ntu => And.intro (by show 1 ≤ sizeLine; decide) <| fun u nu => one3 ntu nu fun hu ku => cat2 (hl6.keep0 ku) hu (by rw [l1]; omega) fun r H8 nr hr kr => ?_⟩
              have kz := ku.trans kr
              exact fin (.inl (ku.free nr)) hr (hnm.app (.one (by decide +kernel))) (by rw [la, l1]; omega) b6b (P6.keep0 kz) (K6' kz)
            -- payments
            refine ⟨_, rfl, _, rfl, cat2 hl6 hv6 (by omega) fun r1 Ha nr1 hr1 ka => ?_⟩
            refine And.intro (by show 2 ≤ sizeLine; decide) <| fun tu1 ntu1 => And.intro (by show 1 ≤ sizeLine; decide) <| fun u1 nu1 => one3 ntu1 nu1 fun hu1 kb => cat2 (hr1.keep0 kb) hu1 (by rw [la, l1]; omega) fun r2 Hc nr2 hr2 kc => ?_
            have kac := ka.trans (kb.trans kc)
            refine ⟨_, rfl, cat2 hr2 (hv6.keep0 kac) (by rw [la, la, l1]; omega) fun r3 Hd nr3 hr3 kd3 => ?_⟩
            have kad := kac.trans kd3
            refine ⟨_, rfl, p, q, ns, b6, 3, rfl, by decide, by decide, P6.keep0 kad, fun z H7 z0 z1 P7 K7 => ?_⟩
            have K0d := K6' kad
            have hr7 := hr3.keepP (P6.keep0 kad) K7 (nep (P6.free K06 (kac.free nr3)))
            have hv7 := (hv6.keep0 kad).keepP (P6.keep0 kad) K7 (nep nv0)
            refine And.intro (by show 2 ≤ sizeLine; decide) <| fun tu2 ntu2 => And.intro (by show 1 ≤ sizeLine; decide) <| fun u2 nu2 => one3 ntu2 nu2 fun hu2 ke => cat2 (hr7.keep0 ke) hu2 (by rw [la, la, la, l1, l1]; omega) fun r4 Hf nr4 hr4 kf => ?_
            have kef := ke.trans kf
            refine ⟨_, rfl, cat2 hr4 (hv7.keep0 kef) (by rw [la, la, la, la, l1, l1]; omega) fun r5 Hg nr5 hr5 kg => ?_⟩
            have keg := kef.trans kg
            refine And.intro (by show 2 ≤ sizeLine; decide) <| fun tu3 ntu3 => And.intro (by show 1 ≤ sizeLine; decide) <| fun u3 nu3 => one3 ntu3 nu3 fun hu3 kh => cat2 (hr5.keep0 kh) hu3 (by rw [la, la, la, la, la, l1, l1, l1]; omega) fun r6 Hi nr6 hr6 ki => ?_
            have kei := keg.trans (kh.trans ki)
            have K0i : Keep [p] H Hi := (K0d.trans K7).trans (kei.mono (by simp))
            refine fin (.inr (P7.free (K0d.trans K7) ((keg.trans kh).free nr6))) hr6 ((((((hnm.app hnv).app (.one (by decide +kernel))).app hnv).app (.one (by decide +kernel))).app hnv).app (.one (by decide +kernel))) ?_ b6b (P7.keep0 kei) K0i
            rw [la, la, la, la, la, la, l1, l1, l1]; omega
      · exact ⟨l, cs, _, _, _, _, _, _, rfl, nl, hl.keepP P2 K3 (nep nl), hnm, by omega, by omega, P3, K2.trans K3⟩
    · rintro σ H2 ⟨l, cs, b1, o6, o7, o8, o9, o10, rfl, nl, hl, hnm, hlen, hb1, P2, K2⟩
      exact ⟨_, rfl, k l cs b1 _ nl hl hnm hlen hb1 P2 K2⟩
theorem code_all {f : Addr} {fd : FuncData} (D : C8.Def K mg "_law_some_code" s_law_some_code f fd) (b : Binds K fd ["pool", "slots", "moves", "brain", "deep"] []) (T : Txt K mg C_Checker C_GameError C_BadText C_TooLarge C_BadMove C_BadCode T_SIGNS T_ROUND_NAMES T_BRAIN_NAMES T_EFFECTS) (c0 : C8.Cal P w K mg base 7 "_law_some_value" (sp_value 5) []) (c1 : C8.Cal P w K mg base 1 "_law_draw" sp_law_draw []) (c2 : C8.Cal P w K mg base 1 "_law_spend" sp_law_spend []) (c3 : C8.Cal P w K mg base 2 "_law_few" sp_law_few []) :
    ∀ n, C8.Cal P w K mg base (n + 7) "_law_some_code" (sp_code n) []
  | 0 => ok_code0 D b
  | n + 1 => ok_code D b T (code_all D b T c0 c1 c2 c3 n) (calUp c0 (by omega)) (calUp c1 (by omega)) (calUp c2 (by omega)) (calUp c3 (by omega))
end

def tailNm : List Str := ["", "halt", "push ", "pushes"]
def sp_whole : Sp := fun vs H Q _ => ∃ (p q : Addr) (ns : List Int) (bud sl mo : Int) (br : Bool), vs = [.ref p, .int sl, .int mo, .bl br] ∧ Pool H p q ns bud ∧ 0 ≤ sl ∧ sl ≤ 12 ∧ 0 ≤ mo ∧ mo ≤ 24 ∧ bud.toNat ≤ 40 ∧
  ∀ l cs bud' H', H l = none → CL H' l cs → NmOk cs → cs.length ≤ 20200 → Pool H' p q ns bud' → Keep [p] H H' → Q (.ref l) H'
def sp_any : Sp := fun vs H Q _ => ∃ (p q : Addr) (ns : List Int) (bud : Int), vs = [.ref p] ∧ Pool H p q ns bud ∧ ∀ t n a H', H t = none → n ∈ allNm ++ tailNm → H' t = some (.tup [.str n, .int a]) → Pool H' p q ns bud → Keep [p] H H' → Q (.ref t) H'
def sp_spoilt : Sp := fun vs H Q _ => ∃ (p q : Addr) (ns : List Int) (bud : Int) (c : Addr) (cs : List Ins) (sl mo : Int), vs = [.ref p, .ref c, .int sl, .int mo] ∧ Pool H p q ns bud ∧ CL H c cs ∧ cs ≠ [] ∧ NmOk cs ∧ cs.length ≤ 100000 ∧
  ∀ l cs' H', H l = none → CL H' l cs' → NmOk cs' → cs'.length ≤ cs.length + 1 → Pool H' p q ns bud → Keep [p] H H' → Q (.ref l) H'
theorem cutTo {xs : List V} {m : Nat} (h : m ≤ xs.length) : cutV xs none (some (m : Int)) = xs.take m := by
  unfold cutV
  rw [HT.sIx_nat, HT.sIx_none, Nat.min_eq_left h]
  show (xs.drop 0).take (m - 0) = _
  rw [List.drop_zero, Nat.sub_zero]
theorem cutFrom {xs : List V} {m : Nat} (h : m ≤ xs.length) : cutV xs (some (m : Int)) none = xs.drop m := by
  unfold cutV
  rw [HT.sIx_nat, HT.sIx_none, Nat.min_eq_left h]
  exact List.take_of_length_le (by rw [List.length_drop]; omega)
theorem NmOk.take {cs : List Ins} (h : NmOk cs) (i : Nat) : NmOk (cs.take i) := fun p hp => h p (List.mem_of_mem_take hp)
theorem NmOk.drop {cs : List Ins} (h : NmOk cs) (i : Nat) : NmOk (cs.drop i) := fun p hp => h p (List.mem_of_mem_drop hp)
theorem NmOk.one' {n : Str} {a : Int} (h : n ∈ allNm ++ tailNm) : NmOk [(n, a)] := fun p hp => by
  rw [List.mem_singleton] at hp
  subst hp
  exact h
theorem CL.cut {K : PySem.W.Frag} {H : Hp} {l r : Addr} {cs : List Ins} (h : CL H l cs) (i : Nat) (hi : i ≤ cs.length) : ∃ xs, SqL K H l xs ∧ (H r = none → CL (upd H r (.lst (cutV xs none (some (i : Int))))) r (cs.take i)) ∧ (H r = none → CL (upd H r (.lst (cutV xs (some (i : Int)) none))) r (cs.drop i)) := by
  obtain ⟨xs, h1, h2⟩ := h
  have hl := h2.len
  refine ⟨xs, SqL.of h1, fun n => ⟨_, upd_same, ?_⟩, fun n => ⟨_, upd_same, ?_⟩⟩
  · rw [cutTo (by omega)]; exact (h2.take i).tk (TK.new n)
  · rw [cutFrom (by omega)]; exact (h2.drop i).tk (TK.new n)
theorem Prs.set {H : Hp} {xs : List V} {cs : List Ins} {t : Addr} {n : Str} {a : Int} (h : Prs H xs cs) (ht : H t = some (.tup [.str n, .int a])) : ∀ (i : Nat), Prs H (xs.set i (.ref t)) (cs.set i (n, a)) := by
  induction h with
  | nil => exact fun i => .nil
  | cons h1 h2 ih =>
    intro i
    cases i with
    | zero => exact .cons ht h2
    | succ i => exact .cons h1 (ih i)
theorem CL.set {H : Hp} {xs : List V} {cs : List Ins} {l t : Addr} {n : Str} {a : Int} (hl : H l = some (.lst xs)) (h : Prs H xs cs) (ht : H t = some (.tup [.str n, .int a])) (i : Nat) : CL (upd H l (.lst (xs.set i (.ref t)))) l (cs.set i (n, a)) :=
  ⟨_, upd_same, (h.set ht i).tk fun b ys q => by
    rw [upd_ne (fun z => by rw [z, hl] at q; cases q)]; exact q⟩
theorem NmOk.set {cs : List Ins} {n : Str} {a : Int} {i : Nat} (h : NmOk cs) (hn : n ∈ allNm ++ tailNm) : NmOk (cs.set i (n, a)) := fun p hp => by
  rcases List.mem_or_eq_of_mem_set hp with z | rfl
  · exact h p z
  · exact hn
section
variable {P : Program} {w : World} {K : PySem.W.Frag} {mg : Str → Option Value} {base : Heap} {C_Checker : Addr} {C_GameError : Addr} {C_BadText : Addr} {C_TooLarge : Addr} {C_BadMove : Addr} {C_BadCode : Addr} {f_BadCode___init : Addr} {T_SIGNS : Addr} {T_ROUND_NAMES : Addr} {T_BRAIN_NAMES : Addr} {T_EFFECTS : Addr}
theorem ok_whole {f : Addr} {fd : FuncData} (D : C8.Def K mg "_law_whole_code" s_law_whole_code f fd) (b : Binds K fd ["pool", "slots", "moves", "brain"] []) (T : Txt K mg C_Checker C_GameError C_BadText C_TooLarge C_BadMove C_BadCode T_SIGNS T_ROUND_NAMES T_BRAIN_NAMES T_EFFECTS) (c_law_some_code : C8.Cal P w K mg base 48 "_law_some_code" (sp_code 41) []) (c_law_some_value : C8.Cal P w K mg base 7 "_law_some_value" (sp_value 5) []) : C8.Cal P w K mg base 49 "_law_whole_code" sp_whole [] := by
  refine cal0 D b .nil sc_law_whole_code (fun vs H Q E h => ?_) (fun cdv A outer s H vs Q E hr h => ?_)
  · obtain ⟨p, q, ns, bud, sl, mo, br, rfl, _⟩ := h
    rfl
  · obtain ⟨p, q, ns, bud, sl, mo, br, rfl, hP, sl0, sl1, mo0, mo1, hb, k⟩ := h
    refine ⟨_, (pss_cons (ps_set (i := 4) sc_law_whole_code.nd rfl (by first | exact Or.inl rfl | exact Or.inr rfl) (pe_c c_law_some_code hr (by first | exact Nat.le_refl _ | decide) rfl (pa_cons (pv 0) (pa_cons (pv 1) (pa_cons (pv 2) (pa_cons (pv 3) (pa_cons pe_int pa_nil)))))))
(pss_cons (ps_if (pt_val (pv 3))
  (pss_one (ps_set (i := 4) sc_law_whole_code.nd rfl (by first | exact Or.inl rfl | exact Or.inr rfl) (pe_op op_cat (pv 4) (pe_c c_law_some_value hr (by first | exact Nat.le_refl _ | decide) rfl (pa_cons (pv 0) (pa_cons (pv 1) (pa_cons (pv 2) (pa_cons (pv 3) (pa_cons pe_int pa_nil)))))))))
  pss_nil)
(pss_one (ps_ret (pe_op op_cat (pv 4) (pe_lst (pa_cons (pe_tup (pa_cons pe_str (pa_cons pe_int pa_nil))) pa_nil))))))), ?_⟩
    have la : ∀ (c1 c2 : List Ins), (c1 ++ c2).length = c1.length + c2.length := fun _ _ => List.length_append
    have l1 : ∀ (nm : Str) (a : Int), ([(nm, a)] : List Ins).length = 1 := fun _ _ => rfl
    refine ⟨_, rfl, _, rfl, _, rfl, _, rfl, p, q, ns, bud, sl, mo, br, 3, rfl, hP, sl0, sl1, mo0, mo1, by omega, by decide, fun l cs b1 H1 nl hl hnm hlen hb1 P1 K1 => ⟨_, rfl, _, rfl, iteB (fun e => ?_) (fun e => ?_)⟩⟩
    · refine ⟨_, rfl, _, rfl, _, rfl, _, rfl, _, rfl, p, q, ns, b1, sl, mo, br, 4, rfl, P1, sl0, sl1, mo0, mo1, by decide, by decide, by decide, fun v cv b2 H2 nv hv hnv hcv hb2 P2 K2 => ?_⟩
      have hcv : cv.length ≤ 161 := hcv
      refine cat2 (hl.keepP P1 K2 (hP.nep nl)) hv (by omega) fun r H3 nr hr k3 => ?_
      have K03 : Keep [p] H H3 := (K1.trans K2).trans (k3.mono (by simp))
      have P3 := P2.keep0 k3
      refine ⟨_, rfl, And.intro (by show 2 ≤ sizeLine; decide) <| fun tu ntu => And.intro (by show 1 ≤ sizeLine; decide) <| fun u nu => one3 ntu nu fun hu ku => cat2 (hr.keep0 ku) hu (by rw [la, l1]; omega) fun z H4 nz hz kz => ?_⟩
      have kk := ku.trans kz
      exact k z _ b2 _ (P3.free K03 (ku.free nz)) hz ((hnm.app hnv).app (.one (by decide +kernel))) (by rw [la, la, l1]; omega) (P3.keep0 kk) (K03.trans (kk.mono (by simp)))
    · refine ⟨_, rfl, And.intro (by show 2 ≤ sizeLine; decide) <| fun tu ntu => And.intro (by show 1 ≤ sizeLine; decide) <| fun u nu => one3 ntu nu fun hu ku => cat2 (hl.keep0 ku) hu (by rw [l1]; omega) fun z H4 nz hz kz => ?_⟩
      have kk := ku.trans kz
      exact k z _ b1 _ (P1.free K1 (ku.free nz)) hz (hnm.app (.one (by decide +kernel))) (by rw [la, l1]; omega) (P1.keep0 kk) (K1.trans (kk.mono (by simp)))
theorem ok_any {f : Addr} {fd : FuncData} (D : C8.Def K mg "_law_any" s_law_any f fd) (b : Binds K fd ["pool"] []) (T : Txt K mg C_Checker C_GameError C_BadText C_TooLarge C_BadMove C_BadCode T_SIGNS T_ROUND_NAMES T_BRAIN_NAMES T_EFFECTS) (c_law_names_of_code : C8.Cal P w K mg base 1 "_law_names_of_code" sp_names []) (c_law_draw : C8.Cal P w K mg base 1 "_law_draw" sp_law_draw []) (c_law_few : C8.Cal P w K mg base 2 "_law_few" sp_law_few []) : C8.Cal P w K mg base 3 "_law_any" sp_any [] := by
  refine cal0 D b .nil sc_law_any (fun vs H Q E h => ?_) (fun cdv A outer s H vs Q E hr h => ?_)
  · obtain ⟨p, q, ns, bud, rfl, _⟩ := h
    rfl
  · obtain ⟨p, q, ns, bud, rfl, hP, k⟩ := h
    refine ⟨_, (pss_cons (ps_set (i := 1) sc_law_any.nd rfl (by first | exact Or.inl rfl | exact Or.inr rfl) (pe_ix ix_list (pe_op op_cat (pe_c0 c_law_names_of_code hr (by first | exact Nat.le_refl _ | decide) rfl) (pe_lst (pa_cons pe_str (pa_cons pe_str (pa_cons pe_str (pa_cons pe_str pa_nil)))))) (pe_c c_law_draw hr (by first | exact Nat.le_refl _ | decide) rfl (pa_cons (pv 0) (pa_cons pe_int pa_nil))) (fun _ _ => rfl)))
(pss_cons (ps_set (i := 2) sc_law_any.nd rfl (by first | exact Or.inl rfl | exact Or.inr rfl) pe_int)
(pss_cut (ps_if (pt_cmpR op_in_seq (pv 1) (pe_tup (pa_cons pe_str (pa_cons pe_str (pa_cons pe_str (pa_cons pe_str (pa_cons pe_str (pa_cons pe_str (pa_cons pe_str (pa_cons pe_str (pa_cons pe_str pa_nil)))))))))) (by rfl))
  (pss_one (ps_set (i := 2) sc_law_any.nd rfl (by first | exact Or.inl rfl | exact Or.inr rfl) (pe_c c_law_few hr (by first | exact Nat.le_refl _ | decide) rfl (pa_cons (pv 0) (pa_cons pe_int pa_nil)))))
  pss_nil)
(pss_one (ps_ret (pe_tup (pa_cons (pv 1) (pa_cons (pv 2) pa_nil)))))))), ?_⟩
    refine ⟨rfl, fun l H1 nl hl K1 => And.intro (by show 4 ≤ sizeLine; decide) <| fun u nu => ?_⟩
    have k2 : Keep [] H1 (upd H1 u (.lst (tailNm.map V.str))) := Keep.new nu
    refine ⟨l, u, allNm.map V.str, tailNm.map V.str, rfl, rfl, k2 _ _ hl (by simp), upd_same, by decide +kernel, fun r nr => ?_⟩
    have k3 := (K1.trans k2).then_new (o := .lst (allNm.map V.str ++ tailNm.map V.str)) nr
    refine ⟨_, rfl, p, q, ns, bud, 20, rfl, by decide, by decide, hP.keep0 k3, fun i H4 i0 i1 P4 K4 => ?_⟩
    have hr4 : H4 r = some (.lst ((allNm ++ tailNm).map V.str)) := by
      rw [List.map_append]
      exact K4 _ _ upd_same (by simpa using hP.nep ((K1.trans k2).free nr))
    obtain ⟨j, rfl⟩ : ∃ j : Nat, i = (j : Int) := ⟨i.toNat, by omega⟩
    have hlen : (allNm ++ tailNm).length = 20 := by decide +kernel
    have hj : j < (allNm ++ tailNm).length := by omega
    have hn : (allNm ++ tailNm)[j] ∈ allNm ++ tailNm := List.getElem_mem hj
    have hg : ((allNm ++ tailNm).map V.str)[j]? = some (.str (allNm ++ tailNm)[j]) := by rw [List.getElem?_map, List.getElem?_eq_getElem hj]; rfl
    generalize (allNm ++ tailNm)[j] = n at *
    have K04 : Keep [p] H H4 := (k3.mono (by simp)).trans K4
    refine ⟨_, _, _, _, rfl, rfl, SqL.of hr4, atI_nat hg, ?_⟩
    refine ⟨fun σ H' => ∃ a : Int, σ = [some (.ref p), some (.str n), some (.int a)] ∧ Pool H' p q ns bud ∧ Keep [p] H H', ?_, ?_⟩
    · refine ⟨_, rfl, by show 9 ≤ sizeLine; decide, fun v nv => ⟨v, _, rfl, .inr (SqT.of upd_same), rfl, rfl, _, rfl, iteB (fun e => ?_) (fun e => ?_)⟩⟩
      · have k5 : Keep [] H4 (upd H4 v (.tup ((["push", "load", "store", "sign", "jump", "skip", "ask", "show", "back"] : List Str).map V.str))) := Keep.new nv
        exact ⟨_, rfl, p, q, ns, bud, 8, rfl, by decide, by decide, P4.keep0 k5, fun z H5 z0 z1 P5 K5 => ⟨z, rfl, P5, (K04.trans (k5.mono (by simp))).trans K5⟩⟩
      · exact ⟨0, rfl, P4.new nv, K04.then_new nv⟩
    rintro σ H' ⟨a, rfl, P5, K5⟩
    exact ⟨_, rfl, _, rfl, by show 2 ≤ sizeLine; decide, fun t nt => k t n a _ (P5.free K5 nt) hn upd_same (P5.new nt) (K5.then_new nt)⟩
theorem ok_spoilt {f : Addr} {fd : FuncData} (D : C8.Def K mg "_law_spoilt" s_law_spoilt f fd) (b : Binds K fd ["pool", "code", "slots", "moves"] []) (T : Txt K mg C_Checker C_GameError C_BadText C_TooLarge C_BadMove C_BadCode T_SIGNS T_ROUND_NAMES T_BRAIN_NAMES T_EFFECTS) (c_law_any : C8.Cal P w K mg base 3 "_law_any" sp_any []) (c_law_draw : C8.Cal P w K mg base 1 "_law_draw" sp_law_draw []) : C8.Cal P w K mg base 4 "_law_spoilt" sp_spoilt [] := by
  refine cal0 D b .nil sc_law_spoilt (fun vs H Q E h => ?_) (fun cdv A outer s H vs Q E hr h => ?_)
  · obtain ⟨p, q, ns, bud, c, cs, sl, mo, rfl, _⟩ := h
    rfl
  · obtain ⟨p, q, ns, bud, c, cs, sl, mo, rfl, hP, hc, hne, hnm, hlen, k⟩ := h
    refine ⟨_, (pss_cons (ps_set (i := 1) sc_law_spoilt.nd rfl (by first | exact Or.inl rfl | exact Or.inr rfl) (pe_callTy call_list_of (by rfl) T.n_list bo_list (pa_cons (pv 1) pa_nil)))
(pss_cons (ps_set (i := 4) sc_law_spoilt.nd rfl (by first | exact Or.inl rfl | exact Or.inr rfl) (pe_c c_law_draw hr (by first | exact Nat.le_refl _ | decide) rfl (pa_cons (pv 0) (pa_cons (pe_callB call_len_seq (by rfl) T.n_len bo_len (pa_cons (pv 1) pa_nil)) pa_nil))))
(pss_cons (ps_asg (pe_ix ix_list (pv 1) (pv 4) (fun _ _ => rfl)) (pg_tup (by rfl) (pgs_cons (pg_name (i := 5) sc_law_spoilt.nd rfl (by first | exact Or.inl rfl | exact Or.inr rfl)) (pgs_cons (pg_name (i := 6) sc_law_spoilt.nd rfl (by first | exact Or.inl rfl | exact Or.inr rfl)) pgs_nil))))
(pss_cons (ps_set (i := 7) sc_law_spoilt.nd rfl (by first | exact Or.inl rfl | exact Or.inr rfl) (pe_c c_law_draw hr (by first | exact Nat.le_refl _ | decide) rfl (pa_cons (pv 0) (pa_cons pe_int pa_nil))))
(pss_cut (ps_if (pt_cmpR op_eq (pv 7) pe_int (nomark _))
  (pss_one (ps_ret (pe_op op_cat (pe_op op_cat (pe_slice sl_list (pv 1) po_none (po_some (pv 4))) (pe_lst (pa_cons (pe_c c_law_any hr (by first | exact Nat.le_refl _ | decide) rfl (pa_cons (pv 0) pa_nil)) pa_nil))) (pe_slice sl_list (pv 1) (po_some (pv 4)) po_none))))
  pss_nil)
(pss_cons (ps_if (pt_cmpR op_eq (pv 7) pe_int (nomark _))
  (pss_one (ps_ret (pe_op op_cat (pe_slice sl_list (pv 1) po_none (po_some (pv 4))) (pe_slice sl_list (pv 1) (po_some (pe_op op_add (pv 4) pe_int)) po_none))))
  pss_nil)
(pss_cons (ps_if (pt_cmpR op_eq (pv 7) pe_int (nomark _))
  (pss_one (ps_asg (pe_tup (pa_cons (pv 5) (pa_cons (pe_op op_add (pv 6) pe_int) pa_nil))) (pg_sub (pv 1) (pv 4) set_list)))
  (pss_one (ps_if (pt_cmpR op_eq (pv 7) pe_int (nomark _))
    (pss_one (ps_asg (pe_tup (pa_cons (pv 5) (pa_cons (pe_op op_sub (pv 6) pe_int) pa_nil))) (pg_sub (pv 1) (pv 4) set_list)))
    (pss_one (ps_if (pt_cmpR op_eq (pv 7) pe_int (nomark _))
      (pss_cons (ps_set (i := 8) sc_law_spoilt.nd rfl (by first | exact Or.inl rfl | exact Or.inr rfl) (pe_op op_add pe_int (pe_c c_law_draw hr (by first | exact Nat.le_refl _ | decide) rfl (pa_cons (pv 0) (pa_cons (pe_op op_pow pe_int pe_int) pa_nil)))))
      (pss_one (ps_asg (pe_tup (pa_cons (pv 5) (pa_cons (pe_ix ix_tup (pe_tup (pa_cons pe_int (pa_cons pe_int (pa_cons (pv 8) (pa_cons (pe_un un_neg pe_int) (pa_cons (pe_un un_neg pe_int) (pa_cons (pe_un un_neg (pv 8)) (pa_cons (pv 2) (pa_cons (pv 3) (pa_cons pe_int (pa_cons pe_int pa_nil))))))))))) (pe_c c_law_draw hr (by first | exact Nat.le_refl _ | decide) rfl (pa_cons (pv 0) (pa_cons pe_int pa_nil))) (fun _ _ => rfl)) pa_nil))) (pg_sub (pv 1) (pv 4) set_list))))
      (pss_one (ps_asg (pe_c c_law_any hr (by first | exact Nat.le_refl _ | decide) rfl (pa_cons (pv 0) pa_nil)) (pg_sub (pv 1) (pv 4) set_list))))))))
(pss_one (ps_ret (pv 1)))))))))), ?_⟩
    obtain ⟨xs, hx, px⟩ := id hc
    have hl := px.len
    have hpos : 0 < cs.length := List.length_pos_iff.mpr hne
    refine ⟨_, rfl, _, _, rfl, .inl (SqL.of hx), fun l nl => ?_⟩
    have k1 : Keep [] H (upd H l (.lst xs)) := Keep.new nl
    have nlp := hP.nep nl
    refine ⟨_, rfl, _, rfl, _, _, rfl, .inl (SqL.of upd_same), p, q, ns, bud, (xs.length : Int), rfl, by omega, by omega, hP.new nl, fun pl H2 p0 p1 P2 K2 => ?_⟩
    have K02 : Keep [p] H H2 := (k1.mono (by simp)).trans K2
    have hx2 := K2 _ _ (upd_same (H := H) (a := l) (o := HO.lst xs)) (by simpa using nlp)
    have px2 : Prs H2 xs cs := (px.tk k1.tk).tk ((hP.new nl).tkb K2)
    obtain ⟨i, rfl⟩ : ∃ i : Nat, pl = (i : Int) := ⟨pl.toNat, by omega⟩
    have hi : i < cs.length := by omega
    obtain ⟨n, a, hna⟩ : ∃ n a, cs[i]? = some (n, a) := ⟨_, _, List.getElem?_eq_getElem hi⟩
    have hn := hnm (n, a) (List.mem_of_getElem? hna)
    obtain ⟨t0, ht0, hT0⟩ := px2.get hna
    refine ⟨_, rfl, _, rfl, _, _, _, _, rfl, rfl, SqL.of hx2, atI_nat ht0, t0, _, rfl, SqT.of hT0, rfl, _, _, rfl, _, _, rfl, rfl, ?_⟩
    have nlq := hP.neq nl
    have finS : ∀ {H4 : Hp} {t : Addr} {n' : Str} {a' : Int}, H4 l = some (.lst xs) → Prs H4 xs cs → H4 t = some (.tup [.str n', .int a']) → n' ∈ allNm ++ tailNm → Pool H4 p q ns bud → Keep [p] H H4 → Q (.ref l) (upd H4 l (.lst (xs.set i (.ref t)))) := fun h1 h2 h3 h4 h5 h6 =>
      k l (cs.set i _) _ nl (CL.set h1 h2 h3 i) (hnm.set h4) (by rw [List.length_set]; omega) (h5.own nlp nlq) (h6.then_own nl)
    have hix : ixN xs.length (i : Int) = some i := ixN_j (by omega)
    refine ⟨_, rfl, p, q, ns, bud, 6, rfl, by decide, by decide, P2, fun kd H3 k0 k1' P3 K3 => ?_⟩
    have K03 := K02.trans K3
    have hx3 := K3 _ _ hx2 (by simpa using nlp)
    have px3 := px2.tk (P2.tkb K3)
    refine ⟨fun σ H' => H' = H3 ∧ σ = [some (.ref p), some (.ref l), some (.int sl), some (.int mo), some (.int (i : Int)), some (.str n), some (.int a), some (.int kd), none], ?_, ?_⟩
    · refine ⟨_, rfl, rfl, _, rfl, iteD (fun e => ?_) (fun e => ⟨rfl, rfl⟩)⟩
      have hc3 : CL H3 l cs := ⟨xs, hx3, px3⟩
      refine ⟨_, rfl, _, rfl, _, rfl, l, xs, rfl, SqL.of hx3, fun r1 nr1 => ?_⟩
      rw [cutTo (by omega)]
      have hr1 : CL (upd H3 r1 (.lst (xs.take i))) r1 (cs.take i) := ⟨_, upd_same, (px3.take i).tk (TK.new nr1)⟩
      have k4 : Keep [] H3 (upd H3 r1 (.lst (xs.take i))) := Keep.new nr1
      refine ⟨_, rfl, p, q, ns, bud, rfl, P3.new nr1, fun t n' a' H5 nt hn' ht P5 K5 => And.intro (by show 1 ≤ sizeLine; decide) <| fun u nu => ?_⟩
      have nr1p := P3.nep nr1
      have hr5 := hr1.keepP (P3.new nr1) K5 nr1p
      have hc5 := (hc3.keep0 k4).keepP (P3.new nr1) K5 nlp
      have hu : CL (upd H5 u (.lst [.ref t])) u [(n', a')] := ⟨_, upd_same, .cons (Keep.new (W := []) nu _ _ ht (by simp)) .nil⟩
      have k6 : Keep [] H5 (upd H5 u (.lst [.ref t])) := Keep.new nu
      have ll : ∀ (c1 c2 : List Ins), (c1 ++ c2).length = c1.length + c2.length := fun _ _ => List.length_append
      have l1 : ∀ (nm : Str) (a : Int), ([(nm, a)] : List Ins).length = 1 := fun _ _ => rfl
      refine cat2 (hr5.keep0 k6) hu (by rw [l1, List.length_take]; omega) fun r2 H6 nr2 hr2 k7 => ?_
      have k67 := k6.trans k7
      obtain ⟨xs6, hx6, px6⟩ := hc5.keep0 k67
      have hl6 := px6.len
      refine ⟨_, rfl, _, rfl, _, rfl, l, xs6, rfl, SqL.of hx6, fun r3 nr3 => ?_⟩
      rw [cutFrom (by omega)]
      have k8 : Keep [] H6 (upd H6 r3 (.lst (xs6.drop i))) := Keep.new nr3
      have hr3 : CL (upd H6 r3 (.lst (xs6.drop i))) r3 (cs.drop i) := ⟨_, upd_same, (px6.drop i).tk (TK.new nr3)⟩
      refine cat2 (hr2.keep0 k8) hr3 (by rw [ll, l1, List.length_take, List.length_drop]; omega) fun r4 H7 nr4 hr4 k9 => ?_
      have K37 : Keep [p] H3 H5 := (k4.mono (by simp)).trans K5
      have k57 := k67.trans (k8.trans k9)
      refine k r4 _ _ (P5.free (K03.trans K37) ((k67.trans k8).free nr4)) hr4 (((hnm.take i).app (.one' hn')).app (hnm.drop i)) (by rw [ll, ll, l1, List.length_take, List.length_drop]; omega) (P5.keep0 k57) ((K03.trans K37).trans (k57.mono (by simp)))
    rintro σ H' ⟨rfl, rfl⟩
    refine ⟨_, rfl, rfl, _, rfl, iteD (fun e => ?_) (fun e => ⟨_, rfl, rfl, _, rfl, iteD (fun e => ?_) (fun e => ⟨_, rfl, rfl, _, rfl, iteD (fun e => ?_) (fun e => ⟨_, rfl, rfl, _, rfl, iteD (fun e => ?_) (fun e => ?_)⟩)⟩)⟩)⟩
    · have hc3 : CL H' l cs := ⟨xs, hx3, px3⟩
      refine ⟨_, rfl, _, rfl, _, rfl, l, xs, rfl, SqL.of hx3, fun r1 nr1 => ?_⟩
      rw [cutTo (by omega)]
      have hr1 : CL (upd H' r1 (.lst (xs.take i))) r1 (cs.take i) := ⟨_, upd_same, (px3.take i).tk (TK.new nr1)⟩
      have k4 : Keep [] H' (upd H' r1 (.lst (xs.take i))) := Keep.new nr1
      refine ⟨_, rfl, _, rfl, _, _, rfl, rfl, _, rfl, l, xs, rfl, SqL.of (k4 _ _ hx3 (by simp)), fun r3 nr3 => ?_⟩
      have e1 : ((i : Int) + 1) = ((i + 1 : Nat) : Int) := by omega
      rw [e1, cutFrom (by omega)]
      have k8 : Keep [] _ (upd (upd H' r1 (.lst (xs.take i))) r3 (.lst (xs.drop (i + 1)))) := Keep.new nr3
      have hr3 : CL (upd (upd H' r1 (.lst (xs.take i))) r3 (.lst (xs.drop (i + 1)))) r3 (cs.drop (i + 1)) := ⟨_, upd_same, ((px3.tk k4.tk).drop (i + 1)).tk (TK.new nr3)⟩
      refine cat2 (hr1.keep0 k8) hr3 (by rw [List.length_take, List.length_drop]; omega) fun r4 H7 nr4 hr4 k9 => ?_
      have k57 := k4.trans (k8.trans k9)
      exact k r4 _ _ (P3.free K03 ((k4.trans k8).free nr4)) hr4 ((hnm.take i).app (hnm.drop (i + 1))) (by rw [List.length_append, List.length_take, List.length_drop]; omega) (P3.keep0 k57) (K03.trans (k57.mono (by simp)))
    · exact ⟨_, rfl, _, rfl, _, _, rfl, rfl, And.intro (by show 2 ≤ sizeLine; decide) <| fun t nt => ⟨_, rfl, _, rfl, _, _, _, _, rfl, rfl, Keep.new (W := []) nt _ _ hx3 (by simp), hix, _, rfl, finS (Keep.new (W := []) nt _ _ hx3 (by simp)) (px3.tk (TK.new nt)) upd_same hn (P3.new nt) (K03.then_new nt)⟩⟩
    · exact ⟨_, rfl, _, rfl, _, _, rfl, rfl, And.intro (by show 2 ≤ sizeLine; decide) <| fun t nt => ⟨_, rfl, _, rfl, _, _, _, _, rfl, rfl, Keep.new (W := []) nt _ _ hx3 (by simp), hix, _, rfl, finS (Keep.new (W := []) nt _ _ hx3 (by simp)) (px3.tk (TK.new nt)) upd_same hn (P3.new nt) (K03.then_new nt)⟩⟩
    · refine ⟨_, rfl, _, _, rfl, rfl, ⟨by decide, by decide, by decide⟩, p, q, ns, bud, 10 ^ 9, rfl, by decide, by decide, P3, fun z H4 z0 z1 P4 K4 => ⟨_, _, rfl, rfl, ?_⟩⟩
      have hx4 := K4 _ _ hx3 (by simpa using nlp)
      have px4 := px3.tk (P3.tkb K4)
      have K04 := K03.trans K4
      refine ⟨_, rfl, _, rfl, _, rfl, _, rfl, _, rfl, _, rfl, _, rfl, _, rfl, And.intro (by show 10 ≤ sizeLine; decide) <| fun u nu => ?_⟩
      have k5 : Keep [] H4 (upd H4 u (.tup (([65535, 65536, 65536 + z, -1, -2, -(65536 + z), sl, mo, 7, 3] : List Int).map V.int))) := Keep.new nu
      refine ⟨_, rfl, p, q, ns, bud, 10, rfl, by decide, by decide, P4.keep0 k5, fun y H5 y0 y1 P5 K5 => ?_⟩
      have nup := P4.nep nu
      have hu5 : H5 u = some (.tup (([65535, 65536, 65536 + z, -1, -2, -(65536 + z), sl, mo, 7, 3] : List Int).map V.int)) := K5 _ _ upd_same (by simpa using nup)
      obtain ⟨j, rfl⟩ : ∃ j : Nat, y = (j : Int) := ⟨y.toNat, by omega⟩
      have hj : j < ([65535, 65536, 65536 + z, -1, -2, -(65536 + z), sl, mo, 7, 3] : List Int).length := by show j < 10; omega
      have hg : (([65535, 65536, 65536 + z, -1, -2, -(65536 + z), sl, mo, 7, 3] : List Int).map V.int)[j]? = some (.int ([65535, 65536, 65536 + z, -1, -2, -(65536 + z), sl, mo, 7, 3] : List Int)[j]) := by rw [List.getElem?_map, List.getElem?_eq_getElem hj]; rfl
      generalize ([65535, 65536, 65536 + z, -1, -2, -(65536 + z), sl, mo, 7, 3] : List Int)[j] = a' at hg
      have K45 : Keep [p] H4 H5 := (k5.mono (by simp)).trans K5
      have hx5 := K45 _ _ hx4 (by simpa using nlp)
      have px5 := px4.tk (P4.tkb K45)
      exact ⟨_, _, _, _, rfl, rfl, SqT.of hu5, atI_nat hg, And.intro (by show 2 ≤ sizeLine; decide) <| fun t nt => ⟨_, rfl, _, rfl, _, _, _, _, rfl, rfl, Keep.new (W := []) nt _ _ hx5 (by simp), hix, _, rfl, finS (Keep.new (W := []) nt _ _ hx5 (by simp)) (px5.tk (TK.new nt)) upd_same hn (P5.new nt) ((K04.trans K45).then_new nt)⟩⟩
    · refine ⟨_, rfl, p, q, ns, bud, rfl, P3, fun t n' a' H4 nt hn' ht P4 K4 => ⟨_, rfl, _, rfl, _, _, _, _, rfl, rfl, K4 _ _ hx3 (by simpa using nlp), hix, _, rfl, finS (K4 _ _ hx3 (by simpa using nlp)) (px3.tk (P3.tkb K4)) ht hn' P4 (K03.trans K4)⟩⟩
end

theorem Prs.rep {H : Hp} {xs : List V} {cs : List Ins} (h : Prs H xs cs) : ∀ k : Nat, Prs H (List.replicate k xs).flatten (List.replicate k cs).flatten
  | 0 => .nil
  | k + 1 => by
    rw [List.replicate_succ, List.flatten_cons, List.replicate_succ, List.flatten_cons]
    exact h.app (h.rep k)
theorem len_rep (cs : List Ins) (k : Nat) : (List.replicate k cs).flatten.length = k * cs.length := by simp
theorem NmOk.rep {cs : List Ins} (h : NmOk cs) (k : Nat) : NmOk (List.replicate k cs).flatten := fun p hp => by
  obtain ⟨l, h1, h2⟩ := List.mem_flatten.mp hp
  rw [List.eq_of_mem_replicate h1] at h2
  exact h p h2
theorem repL {H : Hp} {l : Addr} {cs : List Ins} {m : Int} {Q : VK} (h : CL H l cs) (h0 : 0 ≤ m) (h1 : m ≤ 1000) (hz : cs.length ≤ 1000) (k : ∀ r H', H r = none → CL H' r (List.replicate m.toNat cs).flatten → Keep [] H H' → Q (.ref r) H') : rRep (.ref l) (.int m) H Q := by
  obtain ⟨xs, hx, px⟩ := h
  have hl := px.len
  refine ⟨_, _, _, rfl, rfl, hx, by omega, by omega, ?_, fun r nr => k r _ nr ⟨_, upd_same, (px.rep _).tk (TK.new nr)⟩ (Keep.new nr)⟩
  have : xs.length * m.toNat ≤ 1000 * 1000 := Nat.mul_le_mul (by omega) (by omega)
  exact smallM this
def dIns (p : Ins) : PyData := .tuple [.str p.1, .int p.2]
def dC (cs : List Ins) : List PyData := cs.map dIns
theorem dpAllC {K : PySem.W.Frag} {H : Hp} {xs : List V} {cs : List Ins} (h : Prs H xs cs) : DpAll K H xs (dC cs) := by
  induction h with
  | nil => exact .nil
  | cons h1 h2 ih => exact .cons (dpIns h1) ih
theorem CL.dp {K : PySem.W.Frag} {H : Hp} {l : Addr} {cs : List Ins} (h : CL H l cs) : Dp K H (.ref l) (.list (dC cs)) := by
  obtain ⟨xs, hx, px⟩ := h
  exact .lst (SqL.of hx) (dpAllC px)
theorem layC : ∀ {cs : List Ins}, NmOk cs → PyData.canLayAll0 (dC cs) = true ∧ PyData.depthAll (dC cs) ≤ 1
  | [], _ => ⟨by simp [dC, PyData.canLayAll0], by simp [dC, PyData.depthAll]⟩
  | p :: cs, h => by
    have ih := layC (cs := cs) fun q hq => h q (List.mem_cons_of_mem _ hq)
    have hp := nm_ok _ (h p (List.mem_cons_self ..))
    refine ⟨?_, ?_⟩
    · show PyData.canLayAll0 (dIns p :: dC cs) = true
      simp [PyData.canLayAll0, ih.1, dIns, PyData.canLay0, hp]
    · show PyData.depthAll (dIns p :: dC cs) ≤ 1
      have := ih.2
      simp [PyData.depthAll, dIns, PyData.depth]
      omega
theorem shC {cs : List Ins} (h : NmOk cs) : SeqAt.shaped (.list (dC cs)) = true := by
  have := layC h
  simp [SeqAt.shaped, PyData.canLay0, PyData.depth, this.1]
  omega
theorem eqvC : ∀ cs : List Ins, PyData.eqvAll (dC cs) (dC cs) = true
  | [] => by simp [dC, PyData.eqvAll]
  | p :: cs => by
    show PyData.eqvAll (dIns p :: dC cs) (dIns p :: dC cs) = true
    rw [PyData.eqvAll, eqvC cs, Bool.and_true, dIns, eqv_ins]
    simp
theorem eqvL (cs : List Ins) : PyData.eqv (.list (dC cs)) (.list (dC cs)) = true := by
  rw [PyData.eqv]; exact eqvC cs
theorem resAtom (r : Sum Nat Int) : ∀ v ∈ resV r, (∃ x, v = V.str x) ∨ (∃ i, v = .int i) ∨ (∃ b, v = .bl b) ∨ v = .non := by
  cases r with
  | inl i =>
    intro v hv
    simp [resV] at hv
    rcases hv with rfl | rfl | rfl
    · exact .inl ⟨_, rfl⟩
    · exact .inr (.inl ⟨_, rfl⟩)
    · exact .inr (.inr (.inl ⟨_, rfl⟩))
  | inr t =>
    intro v hv
    simp [resV] at hv
    rcases hv with rfl | rfl
    · exact .inl ⟨_, rfl⟩
    · exact .inr (.inl ⟨_, rfl⟩)
theorem sameRes {K : PySem.W.Frag} {H : Hp} {p q : Addr} {r : Sum Nat Int} {n : Nat} (h1 : H p = some (.tup (resV r))) (h2 : H q = some (.tup (resV r))) : SameV K (n + 2) H (.ref p) (.ref q) := by
  refine .inr ⟨p, q, _, _, rfl, rfl, .inr ⟨.inl h1, .inl h2⟩, rfl, ?_, fun i x y hx hy => ?_⟩
  · cases r with
    | inl i => show 3 ≤ sizeLine; decide
    | inr t => show 2 ≤ sizeLine; decide
  · rw [hx] at hy
    cases hy
    exact sameV_atom (resAtom r x (List.mem_of_getElem? hx))
def sp_law (K : PySem.W.Frag) : Sp := fun vs H Q _ => ∃ (a : Addr) (ns : List Int), vs = [.ref a] ∧ SqL K H a (ns.map V.int) ∧ ∀ H', Q (.bl true) H'
section
variable {P : Program} {w : World} {K : PySem.W.Frag} {mg : Str → Option Value} {base : Heap} {C_Checker : Addr} {C_GameError : Addr} {C_BadText : Addr} {C_TooLarge : Addr} {C_BadMove : Addr} {C_BadCode : Addr} {f_BadCode___init : Addr} {T_SIGNS : Addr} {T_ROUND_NAMES : Addr} {T_BRAIN_NAMES : Addr} {T_EFFECTS : Addr}
theorem ok_law {f : Addr} {fd : FuncData} (F : C8.Fun K "law" "law" s_law f fd) (T : Txt K mg C_Checker C_GameError C_BadText C_TooLarge C_BadMove C_BadCode T_SIGNS T_ROUND_NAMES T_BRAIN_NAMES T_EFFECTS) (c_law_pool : C8.Cal P w K mg base 1 "_law_pool" (sp_law_pool K) []) (c_law_draw : C8.Cal P w K mg base 1 "_law_draw" sp_law_draw []) (c_law_whole_code : C8.Cal P w K mg base 49 "_law_whole_code" sp_whole [])
    (c_law_spoilt : C8.Cal P w K mg base 4 "_law_spoilt" sp_spoilt []) (c_law_checked : C8.Cal P w K mg base 2 "_law_checked" sp_checked []) (c_law_told : C8.Cal P w K mg base 4 "_law_told" sp_told []) (c_law_same : C8.Cal P w K mg base 2 "_law_same" (sp_law_same K 2) []) :
    FnOk P w K mg base C8.CX0 50 f fd ["script"] (sp_law K) := by
  refine C8.fn0 F sc_law (fun vs H Q E h => ?_) (fun cdv A outer s H vs Q E hr h => ?_)
  · obtain ⟨a, ns, rfl, _⟩ := h
    rfl
  · obtain ⟨a, ns, rfl, hS, k⟩ := h
    refine ⟨_, (pss_cons (ps_set (i := 1) sc_law.nd rfl (by first | exact Or.inl rfl | exact Or.inr rfl) (pe_c c_law_pool hr (by first | exact Nat.le_refl _ | decide) rfl (pa_cons (pv 0) (pa_cons pe_int pa_nil))))
(pss_cons (ps_set (i := 2) sc_law.nd rfl (by first | exact Or.inl rfl | exact Or.inr rfl) (pe_c c_law_draw hr (by first | exact Nat.le_refl _ | decide) rfl (pa_cons (pv 1) (pa_cons pe_int pa_nil))))
(pss_cons (ps_set (i := 3) sc_law.nd rfl (by first | exact Or.inl rfl | exact Or.inr rfl) (pe_c c_law_draw hr (by first | exact Nat.le_refl _ | decide) rfl (pa_cons (pv 1) (pa_cons pe_int pa_nil))))
(pss_cons (ps_set (i := 4) sc_law.nd rfl (by first | exact Or.inl rfl | exact Or.inr rfl) (pe_cmpR op_eq (pe_c c_law_draw hr (by first | exact Nat.le_refl _ | decide) rfl (pa_cons (pv 1) (pa_cons pe_int pa_nil))) pe_int (nomark _)))
(pss_cons (ps_set (i := 5) sc_law.nd rfl (by first | exact Or.inl rfl | exact Or.inr rfl) (pe_c c_law_whole_code hr (by first | exact Nat.le_refl _ | decide) rfl (pa_cons (pv 1) (pa_cons (pv 2) (pa_cons (pe_op op_mul (pv 3) (pe_callTy call_int1 (by rfl) T.n_int bo_int (pa_cons (pe_not (pv 4)) pa_nil))) (pa_cons (pv 4) pa_nil))))))
(pss_cut (ps_if (pt_cmpR op_eq (pe_c c_law_draw hr (by first | exact Nat.le_refl _ | decide) rfl (pa_cons (pv 1) (pa_cons pe_int pa_nil))) pe_int (nomark _))
  (pss_cons (ps_set (i := 6) sc_law.nd rfl (by first | exact Or.inl rfl | exact Or.inr rfl) (pe_op op_add pe_int (pe_c c_law_draw hr (by first | exact Nat.le_refl _ | decide) rfl (pa_cons (pv 1) (pa_cons pe_int pa_nil)))))
  (pss_one (ps_set (i := 5) sc_law.nd rfl (by first | exact Or.inl rfl | exact Or.inr rfl) (pe_op op_cat (pe_op op_cat (pe_op op_cat (pe_op op_rep (pe_lst (pa_cons (pe_tup (pa_cons pe_str (pa_cons pe_int pa_nil))) pa_nil)) (pv 6)) (pe_op op_rep (pe_lst (pa_cons (pe_tup (pa_cons pe_str (pa_cons pe_int pa_nil))) pa_nil)) (pe_op op_sub (pv 6) pe_int))) (pe_lst (pa_cons (pe_tup (pa_cons pe_str (pa_cons pe_int pa_nil))) pa_nil))) (pv 5)))))
  pss_nil)
(pss_cut (ps_if (pt_cmpR op_eq (pe_c c_law_draw hr (by first | exact Nat.le_refl _ | decide) rfl (pa_cons (pv 1) (pa_cons pe_int pa_nil))) pe_int (nomark _))
  (pss_cons (ps_set (i := 7) sc_law.nd rfl (by first | exact Or.inl rfl | exact Or.inr rfl) (pe_ix ix_tup (pe_tup (pa_cons (pe_lst (pa_cons (pe_tup (pa_cons pe_str (pa_cons pe_int pa_nil))) (pa_cons (pe_tup (pa_cons pe_str (pa_cons pe_int pa_nil))) pa_nil))) (pa_cons (pe_lst (pa_cons (pe_tup (pa_cons pe_str (pa_cons pe_int pa_nil))) pa_nil)) pa_nil))) (pe_callTy call_int1 (by rfl) T.n_int bo_int (pa_cons (pv 4) pa_nil)) (fun _ _ => rfl)))
  (pss_one (ps_set (i := 5) sc_law.nd rfl (by first | exact Or.inl rfl | exact Or.inr rfl) (pe_op op_cat (pe_op op_rep (pv 7) (pe_c c_law_draw hr (by first | exact Nat.le_refl _ | decide) rfl (pa_cons (pv 1) (pa_cons pe_int pa_nil)))) (pv 5)))))
  pss_nil)
(pss_cut (ps_for PassesOwn.never rfl (pi_range1 (by rfl) T.n_range (pa_cons (pe_c c_law_draw hr (by first | exact Nat.le_refl _ | decide) rfl (pa_cons (pv 1) (pa_cons pe_int pa_nil))) pa_nil)) (pg_name (i := 8) sc_law.nd rfl (by first | exact Or.inl rfl | exact Or.inr rfl))
  (pss_one (ps_if (pt_cmpR op_gt (pe_callB call_len_seq (by rfl) T.n_len bo_len (pa_cons (pv 5) pa_nil)) pe_int (nomark _))
    (pss_one (ps_set (i := 5) sc_law.nd rfl (by first | exact Or.inl rfl | exact Or.inr rfl) (pe_c c_law_spoilt hr (by first | exact Nat.le_refl _ | decide) rfl (pa_cons (pv 1) (pa_cons (pv 5) (pa_cons (pv 2) (pa_cons (pv 3) pa_nil)))))))
    pss_nil)))
(pss_cut (ps_if (pt_cmpR op_eq (pe_c c_law_draw hr (by first | exact Nat.le_refl _ | decide) rfl (pa_cons (pv 1) (pa_cons pe_int pa_nil))) pe_int (nomark _))
  (pss_one (ps_set (i := 5) sc_law.nd rfl (by first | exact Or.inl rfl | exact Or.inr rfl) (pe_lst pa_nil)))
  pss_nil)
(pss_cons (ps_set (i := 9) sc_law.nd rfl (by first | exact Or.inl rfl | exact Or.inr rfl) (pe_callTy call_list_of (by rfl) T.n_list bo_list (pa_cons (pv 5) pa_nil)))
(pss_cons (ps_set (i := 10) sc_law.nd rfl (by first | exact Or.inl rfl | exact Or.inr rfl) (pe_c c_law_checked hr (by first | exact Nat.le_refl _ | decide) rfl (pa_cons (pv 5) (pa_cons (pv 2) (pa_cons (pv 3) (pa_cons (pv 4) pa_nil))))))
(pss_cons (ps_if (PW.pt (pw_or (pt_not (pt_val (pe_c c_law_same hr (by first | exact Nat.le_refl _ | decide) rfl (pa_cons (pe_c c_law_told hr (by first | exact Nat.le_refl _ | decide) rfl (pa_cons (pv 9) (pa_cons (pv 2) (pa_cons (pv 3) (pa_cons (pv 4) pa_nil))))) (pa_cons (pv 10) pa_nil))))) (pw_or1 (pt_cmpR (op_neD hr.units) (pv 9) (pv 5) (nomark _)))))
  (pss_one (ps_ret pe_bl))
  pss_nil)
(pss_one (ps_ret (pe_c c_law_same hr (by first | exact Nat.le_refl _ | decide) rfl (pa_cons (pe_c c_law_told hr (by first | exact Nat.le_refl _ | decide) rfl (pa_cons (pe_callTy call_tuple_of (by rfl) T.n_tuple bo_tuple (pa_cons (pv 5) pa_nil)) (pa_cons (pv 2) (pa_cons (pv 3) (pa_cons (pv 4) pa_nil))))) (pa_cons (pv 10) pa_nil))))))))))))))))), ?_⟩
    have la : ∀ (c1 c2 : List Ins), (c1 ++ c2).length = c1.length + c2.length := fun _ _ => List.length_append
    have l1 : ∀ (nm : Str) (a : Int), ([(nm, a)] : List Ins).length = 1 := fun _ _ => rfl
    refine ⟨_, rfl, a, ns, 40, rfl, hS, fun p q H1 np P1 K1 => ?_⟩
    refine ⟨_, rfl, p, q, ns, 40, 13, rfl, by decide, by decide, P1, fun sl H2 s0 s1 P2 K2 => ?_⟩
    refine ⟨_, rfl, p, q, ns, 40, 25, rfl, by decide, by decide, P2, fun mo H3 m0 m1 P3 K3 => ?_⟩
    refine ⟨_, rfl, p, q, ns, 40, 2, rfl, by decide, by decide, P3, fun z H4 z0 z1 P4 K4 => ⟨rfl, ?_⟩⟩
    generalize decide (V.int z = V.int 1) = br
    refine ⟨_, rfl, _, rfl, _, rfl, _, rfl, _, rfl, .inr ⟨_, rfl, _, _, rfl, rfl, .inr (by cases br <;> exact ⟨by decide, by decide⟩), ?_⟩⟩
    refine ⟨_, rfl, p, q, ns, 40, sl, _, br, rfl, P4, s0, by omega, ?_, ?_, by decide, fun c0 cs0 b0 H5 nc0 hc0 hnm0 hlen0 P5 K5 => ?_⟩
    · cases br <;> simp <;> omega
    · cases br <;> simp <;> omega
    -- in one of six: pushes in front
    refine ⟨fun σ H' => ∃ (c : Addr) (cs : List Ins) (b : Int) (o6 : Option V), σ = [some (.ref a), some (.ref p), some (.int sl), some (.int mo), some (.bl br), some (.ref c), o6, none, none, none, none] ∧ CL H' c cs ∧ NmOk cs ∧ cs.length ≤ 20300 ∧ Pool H' p q ns b ∧ c ≠ p, ?_, ?_⟩
    · refine ⟨_, rfl, p, q, ns, b0, 6, rfl, by decide, by decide, P5, fun y H6 y0 y1 P6 K6 => ⟨rfl, _, rfl, iteD (fun _ => ?_) (fun _ => ⟨c0, cs0, b0, _, rfl, hc0.keepP P5 K6 (P4.nep nc0), hnm0, by omega, P6, P4.nep nc0⟩)⟩⟩
      have hc6 := hc0.keepP P5 K6 (P4.nep nc0)
      refine ⟨_, rfl, p, q, ns, b0, 9, rfl, by decide, by decide, P6, fun x H7 x0 x1 P7 K7 => ⟨_, _, rfl, rfl, ?_⟩⟩
      have hc7 := hc6.keepP P6 K7 (P4.nep nc0)
      refine And.intro (by show 2 ≤ sizeLine; decide) <| fun t1 nt1 => And.intro (by show 1 ≤ sizeLine; decide) <| fun u1 nu1 => one3 nt1 nu1 fun hu1 ku1 => ?_
      refine ⟨_, rfl, repL hu1 (by omega) (by omega) (by rw [l1]; omega) fun r1 H8 nr1 hr1 kr1 => ?_⟩
      refine And.intro (by show 2 ≤ sizeLine; decide) <| fun t2 nt2 => And.intro (by show 1 ≤ sizeLine; decide) <| fun u2 nu2 => one3 nt2 nu2 fun hu2 ku2 => ?_
      refine ⟨_, rfl, _, _, rfl, rfl, repL hu2 (by omega) (by omega) (by rw [l1]; omega) fun r2 H9 nr2 hr2 kr2 => ?_⟩
      refine cat2 (hr1.keep0 (ku2.trans kr2)) hr2 (by rw [len_rep, len_rep, l1, l1]; omega) fun r3 H10 nr3 hr3 kr3 => ?_
      refine And.intro (by show 2 ≤ sizeLine; decide) <| fun t4 nt4 => And.intro (by show 1 ≤ sizeLine; decide) <| fun u4 nu4 => one3 nt4 nu4 fun hu4 ku4 => ?_
      refine cat2 (hr3.keep0 ku4) hu4 (by rw [la, len_rep, len_rep, l1, l1, l1]; omega) fun r5 H11 nr5 hr5 kr5 => ?_
      have kk := ((ku1.trans kr1).trans (ku2.trans kr2)).trans (kr3.trans (ku4.trans kr5))
      refine ⟨_, rfl, cat2 hr5 (hc7.keep0 kk) (by rw [la, la, len_rep, len_rep, l1, l1, l1]; omega) fun r6 H12 nr6 hr6 kr6 => ?_⟩
      refine ⟨r6, _, b0, _, rfl, hr6, (((((NmOk.one (by decide +kernel)).rep _).app ((NmOk.one (by decide +kernel)).rep _)).app (.one (by decide +kernel))).app hnm0), ?_, P7.keep0 (kk.trans kr6), (P7.keep0 kk).nep nr6⟩
      rw [la, la, la, len_rep, len_rep, l1, l1, l1]; omega
    clear hc0
    rintro σ H6 ⟨c1, cs1, b1, o6, rfl, hc1, hnm1, hlen1, P6, np1⟩
    -- in one of twelve: units or payments in front
    refine ⟨fun σ H' => ∃ (c : Addr) (cs : List Ins) (b : Int) (o7 : Option V), σ = [some (.ref a), some (.ref p), some (.int sl), some (.int mo), some (.bl br), some (.ref c), o6, o7, none, none, none] ∧ CL H' c cs ∧ NmOk cs ∧ cs.length ≤ 20700 ∧ Pool H' p q ns b ∧ c ≠ p, ?_, ?_⟩
    · refine ⟨_, rfl, p, q, ns, b1, 12, rfl, by decide, by decide, P6, fun y H7 y0 y1 P7 K7 => ⟨rfl, _, rfl, iteD (fun _ => ?_) (fun _ => ⟨c1, cs1, b1, _, rfl, hc1.keepP P6 K7 np1, hnm1, by omega, P7, np1⟩)⟩⟩
      have hc7 := hc1.keepP P6 K7 np1
      refine And.intro (by show 2 ≤ sizeLine; decide) <| fun t1 nt1 => And.intro (by show 2 ≤ sizeLine; decide) <| fun t2 nt2 => And.intro (by show 2 ≤ sizeLine; decide) <| fun u1 nu1 => ?_
      refine And.intro (by show 2 ≤ sizeLine; decide) <| fun t3 nt3 => And.intro (by show 1 ≤ sizeLine; decide) <| fun u2 nu2 => And.intro (by show 2 ≤ sizeLine; decide) <| fun v nv => ?_
      have k1 : Keep [] H7 (upd H7 t1 (.tup [.str "push", .int 65535])) := Keep.new nt1
      have k2 : Keep [] H7 (upd (upd H7 t1 (.tup [.str "push", .int 65535])) t2 (.tup [.str "pay", .int 0])) := k1.then_new nt2
      generalize hH8 : upd (upd (upd H7 t1 (.tup [.str "push", .int 65535])) t2 (.tup [.str "pay", .int 0])) u1 (.lst [.ref t1, .ref t2]) = H8 at *
      have k3 : Keep [] H7 H8 := hH8 ▸ k2.then_new nu1
      have hu1 : CL H8 u1 [("push", 65535), ("pay", 0)] := by
        rw [← hH8]
        exact ⟨_, upd_same, .cons (Keep.new (W := []) nu1 _ _ (Keep.new (W := []) nt2 _ _ upd_same (by simp)) (by simp)) (.cons (Keep.new (W := []) nu1 _ _ upd_same (by simp)) .nil)⟩
      have hu2 := CL.one nu2
      have k4 : Keep [] H8 (upd (upd H8 t3 (.tup [.str "unit", .int 0])) u2 (.lst [.ref t3])) := (Keep.new nt3).then_new nu2
      have k5 : Keep [] (upd (upd H8 t3 (.tup [.str "unit", .int 0])) u2 (.lst [.ref t3])) (upd (upd (upd H8 t3 (.tup [.str "unit", .int 0])) u2 (.lst [.ref t3])) v (.tup [.ref u1, .ref u2])) := Keep.new nv
      obtain ⟨x, cx, hat, hx, hnx, hlx⟩ : ∃ (x : Addr) (cx : List Ins), atI [V.ref u1, V.ref u2] (if br then 1 else 0) = some (.ref x) ∧ CL (upd (upd (upd H8 t3 (.tup [.str "unit", .int 0])) u2 (.lst [.ref t3])) v (.tup [.ref u1, .ref u2])) x cx ∧ NmOk cx ∧ cx.length ≤ 2 := by
        cases br
        · exact ⟨u1, _, rfl, (hu1.keep0 k4).keep0 k5, NmOk.app (.one (by decide +kernel)) (.one (by decide +kernel)), by decide⟩
        · exact ⟨u2, _, rfl, hu2.keep0 k5, .one (by decide +kernel), by decide⟩
      have kv := k3.trans (k4.trans k5)
      refine ⟨_, rfl, .inr ⟨_, rfl, v, _, _, _, rfl, rfl, SqT.of upd_same, hat, ?_⟩⟩
      refine ⟨_, rfl, _, rfl, p, q, ns, b1, 150, rfl, by decide, by decide, P7.keep0 kv, fun y H9 y0 y1 P9 K9 => ?_⟩
      have nup : ∀ {y : Addr} {cy : List Ins} {Hy : Hp}, CL Hy y cy → Keep [] H7 Hy → H7 y = none → y ≠ p := fun _ _ z => P7.nep z
      have nxp : x ≠ p := by
        have h1 : u1 ≠ p := P7.nep (k2.free nu1)
        have h2 : u2 ≠ p := P7.nep (k3.free ((Keep.new (W := []) nt3).free nu2))
        cases br
        · cases hat; exact h1
        · cases hat; exact h2
      have hx9 := hx.keepP (P7.keep0 kv) K9 nxp
      have hc9 := (hc7.keep0 kv).keepP (P7.keep0 kv) K9 np1
      have hy : y.toNat * cx.length ≤ 150 * 2 := Nat.mul_le_mul (by omega) hlx
      refine repL hx9 y0 (by omega) (by omega) fun r1 H10 nr1 hr1 kr1 => ⟨_, rfl, cat2 hr1 (hc9.keep0 kr1) (by rw [len_rep]; omega) fun r2 H11 nr2 hr2 kr2 => ?_⟩
      exact ⟨r2, _, b1, _, rfl, hr2, (hnx.rep _).app hnm1, by rw [la, len_rep]; omega, P9.keep0 (kr1.trans kr2), P9.nep (kr1.free nr2)⟩
    clear hc1
    rintro σ H7 ⟨c2, cs2, b2, o7, rfl, hc2, hnm2, hlen2, P7, np2⟩
    -- spoilt in up to two places
    refine ⟨fun σ H' => ∃ (c : Addr) (cs : List Ins) (b : Int) (o8 : Option V), σ = [some (.ref a), some (.ref p), some (.int sl), some (.int mo), some (.bl br), some (.ref c), o6, o7, o8, none, none] ∧ CL H' c cs ∧ NmOk cs ∧ cs.length ≤ 20710 ∧ Pool H' p q ns b ∧ c ≠ p, ?_, ?_⟩
    · refine ⟨_, rfl, p, q, ns, b2, 3, rfl, by decide, by decide, P7, fun m H8 e0 e1 P8 K8 => ⟨m, rfl, by omega, by omega, for_range (lo := 0) (n := m.toNat) (fun i σ H' => ∃ (c : Addr) (cs : List Ins) (b : Int) (o8 : Option V), σ = [some (.ref a), some (.ref p), some (.int sl), some (.int mo), some (.bl br), some (.ref c), o6, o7, o8, none, none] ∧ CL H' c cs ∧ NmOk cs ∧ cs.length ≤ 20700 + i ∧ Pool H' p q ns b ∧ c ≠ p)
          ⟨c2, cs2, b2, _, rfl, hc2.keepP P7 K8 np2, hnm2, by omega, P8, np2⟩ ?_ ?_⟩⟩
      · rintro i σ H9 hi ⟨c, cs, b, o8, rfl, hc, hnm, hlen, P9, npc⟩
        obtain ⟨xs, hx, px⟩ := id hc
        have hl := px.len
        refine ⟨_, rfl, _, _, rfl, .inl (SqL.of hx), _, _, rfl, rfl, _, rfl, iteD (fun hg => ?_) (fun hg => ⟨c, cs, b, _, rfl, hc, hnm, by omega, P9, npc⟩)⟩
        have hne : cs ≠ [] := fun z => by
          rw [z] at hl
          have : ((xs.length : Nat) : Int) > 0 := hg
          simp at hl; simp [hl] at this
        refine ⟨_, rfl, _, rfl, _, rfl, _, rfl, p, q, ns, b, c, cs, sl, mo, rfl, P9, hc, hne, hnm, by omega, fun l cs' H10 nl hl' hnm' hlen' P10 K10 => ?_⟩
        exact ⟨l, cs', b, _, rfl, hl', hnm', by omega, P10, P9.nep nl⟩
      · rintro σ H9 ⟨c, cs, b, o8, rfl, hc, hnm, hlen, P9, npc⟩
        exact ⟨c, cs, b, _, rfl, hc, hnm, by omega, P9, npc⟩
    clear hc2
    rintro σ H8 ⟨c3, cs3, b3, o8, rfl, hc3, hnm3, hlen3, P8, np3⟩
    -- no instruction at all
    refine ⟨fun σ H' => ∃ (c : Addr) (cs : List Ins), σ = [some (.ref a), some (.ref p), some (.int sl), some (.int mo), some (.bl br), some (.ref c), o6, o7, o8, none, none] ∧ CL H' c cs ∧ NmOk cs ∧ cs.length ≤ 20710, ?_, ?_⟩
    · refine ⟨_, rfl, p, q, ns, b3, 30, rfl, by decide, by decide, P8, fun y H9 y0 y1 P9 K9 => ⟨rfl, _, rfl, iteD (fun _ => ?_) (fun _ => ⟨c3, cs3, rfl, hc3.keepP P8 K9 np3, hnm3, hlen3⟩)⟩⟩
      exact ⟨Nat.zero_le _, fun l nl => ⟨l, [], rfl, ⟨[], upd_same, .nil⟩, .nil, Nat.zero_le _⟩⟩
    clear hc3
    rintro σ H9 ⟨c, cs, rfl, hc, hnm, hlen⟩
    obtain ⟨xs, hx, px⟩ := id hc
    refine ⟨_, rfl, _, _, rfl, .inl (SqL.of hx), fun l nl => ?_⟩
    have k1 : Keep [] H9 (upd H9 l (.lst xs)) := Keep.new nl
    have hl1 : CL (upd H9 l (.lst xs)) l cs := ⟨xs, upd_same, px.tk (TK.new nl)⟩
    refine ⟨_, rfl, _, rfl, _, rfl, _, rfl, c, xs, cs, sl, mo, br, rfl, k1 _ _ hx (by simp), px.tk (TK.new nl), hnm, by omega, fun r t H10 hr nt ht K10 => ?_⟩
    obtain ⟨xl, hxl, pxl⟩ := hl1.keep0 K10
    refine ⟨_, rfl, _, rfl, _, rfl, _, rfl, l, cs, sl, mo, br, rfl, ⟨xl, .inl hxl, pxl⟩, hnm, by omega, fun r2 t2 H11 hr2 nt2 ht2 K11 => ?_⟩
    rw [hr2.one hr] at ht2
    refine ⟨_, rfl, _, _, rfl, sameRes ht2 (K11 _ _ ht (by simp)), ?_⟩
    have hc11 := ((hc.keep0 k1).keep0 K10).keep0 K11
    have hl11 := (hl1.keep0 K10).keep0 K11
    obtain ⟨x11, hx11, px11⟩ := id hc11
    refine ⟨_, rfl, iteF ?_⟩
    refine ⟨_, rfl, _, rfl, _, _, hl11.dp, hc11.dp, shC hnm, shC hnm, _, rfl, ?_⟩
    rw [eqvL]
    refine iteF ?_
    refine ⟨_, rfl, _, _, rfl, .inl ⟨SqL.of hx11, fun tt ntt => ?_⟩⟩
    have k12 : Keep [] H11 (upd H11 tt (.tup x11)) := Keep.new ntt
    refine ⟨_, rfl, _, rfl, _, rfl, tt, cs, sl, mo, br, rfl, ⟨x11, .inr upd_same, px11.tk (TK.new ntt)⟩, hnm, by omega, fun r3 t3 H12 hr3 nt3 ht3 K12 => ?_⟩
    rw [hr3.one hr] at ht3
    exact ⟨_, rfl, _, _, rfl, sameRes ht3 ((K11.trans (k12.trans K12)) _ _ ht (by simp)), k _⟩
end

theorem allNm_or (n : Str) (h : n ∈ allNm) : n = "push" ∨ n = "load" ∨ n = "store" ∨ n = "sign" ∨ n = "jump" ∨ n = "skip" ∨ n = "lot" ∨ n = "ask" ∨ n = "show" ∨ n = "pay" ∨ n = "take" ∨ n = "view" ∨ n = "long" ∨ n = "unit" ∨ n = "back" ∨ n = "end" := by
  have : ∀ n ∈ allNm, n = "push" ∨ n = "load" ∨ n = "store" ∨ n = "sign" ∨ n = "jump" ∨ n = "skip" ∨ n = "lot" ∨ n = "ask" ∨ n = "show" ∨ n = "pay" ∨ n = "take" ∨ n = "view" ∨ n = "long" ∨ n = "unit" ∨ n = "back" ∨ n = "end" := by decide +kernel
  exact this n h
theorem effOk {K : PySem.W.Frag} {w : World} {TE : Addr} {es : Array DictEntry} {m : Nat} (hl : K.lookup TE = some ⟨.type "dict", none, .dict es m, #[]⟩) (hk : PySem.W.KeysLit w.params es.toList)
    (h : ∀ n ∈ allNm, ∃ tp, PySem.W.nsIn K TE n = some (some (.ref tp)) ∧ ∃ (t u : Tok) (k : Nat) (sl : Array (Option Value)), K.lookup tp = some ⟨.type "tuple", none, .seq #[.int (eff n).1 t, .int (eff n).2 u] k, sl⟩) : EffOk K w TE := fun n hn => by
  obtain ⟨tp, g, t, u, k, sl, l⟩ := h n hn
  exact ⟨tp, ⟨_, _, _, hl, hk, g, rfl⟩, fun H => .inr ⟨_, _, _, l, rfl, rfl, by show 2 ≤ sizeLine; decide, .cons ⟨_, rfl⟩ (.cons ⟨_, rfl⟩ .nil)⟩⟩

theorem all_mk {l : PySem.W.OpenLaw} {w : World} {K : PySem.W.Frag} {h : Heap} {mg : Str → Option Value} {fa : Addr} (X : K.In h) (G : h.Ns mainGlobals mg) (hfa : mg "law" = some (.ref fa))
    {f_law_pool : Addr} {od_law_pool an_law_pool : Option Addr} {sl_law_pool : Array (Option Value)} {oc_law_pool kV_law_pool dc_law_pool pm_law_pool cd_law_pool ct_law_pool : Value}
    {f_law_draw : Addr} {od_law_draw an_law_draw : Option Addr} {sl_law_draw : Array (Option Value)} {oc_law_draw kV_law_draw dc_law_draw pm_law_draw cd_law_draw ct_law_draw : Value}
    {f_law_spend : Addr} {od_law_spend an_law_spend : Option Addr} {sl_law_spend : Array (Option Value)} {oc_law_spend kV_law_spend dc_law_spend pm_law_spend cd_law_spend ct_law_spend : Value}
    {f_law_few : Addr} {od_law_few an_law_few : Option Addr} {sl_law_few : Array (Option Value)} {oc_law_few kV_law_few dc_law_few pm_law_few cd_law_few ct_law_few : Value}
    {f_law_number : Addr} {od_law_number an_law_number : Option Addr} {sl_law_number : Array (Option Value)} {oc_law_number kV_law_number dc_law_number pm_law_number cd_law_number ct_law_number : Value}
    {f_law_same : Addr} {od_law_same an_law_same : Option Addr} {sl_law_same : Array (Option Value)} {oc_law_same kV_law_same dc_law_same pm_law_same cd_law_same ct_law_same : Value}
    {f_argument_fits : Addr} {od_argument_fits an_argument_fits : Option Addr} {sl_argument_fits : Array (Option Value)} {oc_argument_fits kV_argument_fits dc_argument_fits pm_argument_fits cd_argument_fits ct_argument_fits : Value}
    {f_targets_of : Addr} {od_targets_of an_targets_of : Option Addr} {sl_targets_of : Array (Option Value)} {oc_targets_of kV_targets_of dc_targets_of pm_targets_of cd_targets_of ct_targets_of : Value}
    {f_check_code : Addr} {od_check_code an_check_code : Option Addr} {sl_check_code : Array (Option Value)} {oc_check_code dc_check_code pm_check_code cd_check_code ct_check_code : Value} {KD_check_code : Addr}
    {f_law_names_of_code : Addr} {od_law_names_of_code an_law_names_of_code : Option Addr} {sl_law_names_of_code : Array (Option Value)} {oc_law_names_of_code kV_law_names_of_code dc_law_names_of_code pm_law_names_of_code cd_law_names_of_code ct_law_names_of_code : Value}
    {f_law_takes : Addr} {od_law_takes an_law_takes : Option Addr} {sl_law_takes : Array (Option Value)} {oc_law_takes kV_law_takes dc_law_takes pm_law_takes cd_law_takes ct_law_takes : Value}
    {f_law_argument : Addr} {od_law_argument an_law_argument : Option Addr} {sl_law_argument : Array (Option Value)} {oc_law_argument kV_law_argument dc_law_argument pm_law_argument cd_law_argument ct_law_argument : Value}
    {f_law_targets : Addr} {od_law_targets an_law_targets : Option Addr} {sl_law_targets : Array (Option Value)} {oc_law_targets kV_law_targets dc_law_targets pm_law_targets cd_law_targets ct_law_targets : Value}
    {f_law_checked : Addr} {od_law_checked an_law_checked : Option Addr} {sl_law_checked : Array (Option Value)} {oc_law_checked kV_law_checked dc_law_checked pm_law_checked cd_law_checked ct_law_checked : Value}
    {f_law_told : Addr} {od_law_told an_law_told : Option Addr} {sl_law_told : Array (Option Value)} {oc_law_told kV_law_told dc_law_told pm_law_told cd_law_told ct_law_told : Value}
    {f_law_some_value : Addr} {od_law_some_value an_law_some_value : Option Addr} {sl_law_some_value : Array (Option Value)} {oc_law_some_value kV_law_some_value dc_law_some_value pm_law_some_value cd_law_some_value ct_law_some_value : Value}
    {f_law_some_code : Addr} {od_law_some_code an_law_some_code : Option Addr} {sl_law_some_code : Array (Option Value)} {oc_law_some_code kV_law_some_code dc_law_some_code pm_law_some_code cd_law_some_code ct_law_some_code : Value}
    {f_law_whole_code : Addr} {od_law_whole_code an_law_whole_code : Option Addr} {sl_law_whole_code : Array (Option Value)} {oc_law_whole_code kV_law_whole_code dc_law_whole_code pm_law_whole_code cd_law_whole_code ct_law_whole_code : Value}
    {f_law_any : Addr} {od_law_any an_law_any : Option Addr} {sl_law_any : Array (Option Value)} {oc_law_any kV_law_any dc_law_any pm_law_any cd_law_any ct_law_any : Value}
    {f_law_spoilt : Addr} {od_law_spoilt an_law_spoilt : Option Addr} {sl_law_spoilt : Array (Option Value)} {oc_law_spoilt kV_law_spoilt dc_law_spoilt pm_law_spoilt cd_law_spoilt ct_law_spoilt : Value}
    {f_law : Addr} {od_law an_law : Option Addr} {sl_law : Array (Option Value)} {oc_law kV_law dc_law pm_law cd_law ct_law : Value}
    {C_Checker : Addr}
    {f_Checker___init : Addr} {od_Checker___init an_Checker___init : Option Addr} {sl_Checker___init : Array (Option Value)} {oc_Checker___init kV_Checker___init dc_Checker___init pm_Checker___init cd_Checker___init ct_Checker___init : Value}
    {f_Checker_reaches : Addr} {od_Checker_reaches an_Checker_reaches : Option Addr} {sl_Checker_reaches : Array (Option Value)} {oc_Checker_reaches kV_Checker_reaches dc_Checker_reaches pm_Checker_reaches cd_Checker_reaches ct_Checker_reaches : Value}
    {f_Checker_returns : Addr} {od_Checker_returns an_Checker_returns : Option Addr} {sl_Checker_returns : Array (Option Value)} {oc_Checker_returns kV_Checker_returns dc_Checker_returns pm_Checker_returns cd_Checker_returns ct_Checker_returns : Value}
    {f_Checker_good : Addr} {od_Checker_good an_Checker_good : Option Addr} {sl_Checker_good : Array (Option Value)} {oc_Checker_good kV_Checker_good dc_Checker_good pm_Checker_good cd_Checker_good ct_Checker_good : Value}
    {C_GameError : Addr}
    {C_BadText : Addr}
    {C_TooLarge : Addr}
    {C_BadMove : Addr}
    {C_BadCode : Addr}
    {nm_BadCode q_BadCode : Str} {N_BadCode : Addr} {bs_BadCode : List Value} {sn_BadCode : List Str} {sub_BadCode : List Value} {ab_BadCode : Bool} {col_BadCode : Option Bool} {dd_BadCode : Option Addr} {m0_BadCode m1_BadCode m2_BadCode m3_BadCode m5_BadCode : Option Value}
    {f_BadCode___init cda_BadCode___init cc_BadCode___init : Addr} {od_BadCode___init an_BadCode___init cld_BadCode___init cdd_BadCode___init : Option Addr} {sl_BadCode___init csl_BadCode___init ccs_BadCode___init : Array (Option Value)} {vs_BadCode___init : Array Value} {oc_BadCode___init dc_BadCode___init pm_BadCode___init ct_BadCode___init cl_BadCode___init ccl_BadCode___init : Value} {file_BadCode___init : Str} {tf_BadCode___init : Tok}
    {t_GREATEST : Tok}
    {T_SIGNS : Addr} {nn_SIGNS : Nat} {sl_SIGNS : Array (Option Value)} {t_SIGNS0 t_SIGNS1 t_SIGNS2 t_SIGNS3 t_SIGNS4 t_SIGNS5 t_SIGNS6 : Tok}
    {t_HIGHEST : Tok}
    {T_ROUND_NAMES : Addr} {nn_ROUND_NAMES : Nat} {sl_ROUND_NAMES : Array (Option Value)} {t_ROUND_NAMES0 t_ROUND_NAMES1 t_ROUND_NAMES2 t_ROUND_NAMES3 t_ROUND_NAMES4 t_ROUND_NAMES5 t_ROUND_NAMES6 t_ROUND_NAMES7 t_ROUND_NAMES8 t_ROUND_NAMES9 t_ROUND_NAMES10 t_ROUND_NAMES11 : Tok}
    {T_BRAIN_NAMES : Addr} {nn_BRAIN_NAMES : Nat} {sl_BRAIN_NAMES : Array (Option Value)} {t_BRAIN_NAMES0 t_BRAIN_NAMES1 t_BRAIN_NAMES2 t_BRAIN_NAMES3 t_BRAIN_NAMES4 t_BRAIN_NAMES5 t_BRAIN_NAMES6 t_BRAIN_NAMES7 t_BRAIN_NAMES8 t_BRAIN_NAMES9 t_BRAIN_NAMES10 t_BRAIN_NAMES11 : Tok}
    {T_EFFECTS : Addr}
    {es_EFFECTS : Array DictEntry} {nn_EFFECTS : Nat}
    {p_EFFECTS_0 : Addr} {np_EFFECTS_0 : Nat} {sp_EFFECTS_0 : Array (Option Value)} {tp_EFFECTS_0_0 tp_EFFECTS_0_1 : Tok}
    {p_EFFECTS_1 : Addr} {np_EFFECTS_1 : Nat} {sp_EFFECTS_1 : Array (Option Value)} {tp_EFFECTS_1_0 tp_EFFECTS_1_1 : Tok}
    {p_EFFECTS_2 : Addr} {np_EFFECTS_2 : Nat} {sp_EFFECTS_2 : Array (Option Value)} {tp_EFFECTS_2_0 tp_EFFECTS_2_1 : Tok}
    {p_EFFECTS_3 : Addr} {np_EFFECTS_3 : Nat} {sp_EFFECTS_3 : Array (Option Value)} {tp_EFFECTS_3_0 tp_EFFECTS_3_1 : Tok}
    {p_EFFECTS_4 : Addr} {np_EFFECTS_4 : Nat} {sp_EFFECTS_4 : Array (Option Value)} {tp_EFFECTS_4_0 tp_EFFECTS_4_1 : Tok}
    {p_EFFECTS_5 : Addr} {np_EFFECTS_5 : Nat} {sp_EFFECTS_5 : Array (Option Value)} {tp_EFFECTS_5_0 tp_EFFECTS_5_1 : Tok}
    {p_EFFECTS_6 : Addr} {np_EFFECTS_6 : Nat} {sp_EFFECTS_6 : Array (Option Value)} {tp_EFFECTS_6_0 tp_EFFECTS_6_1 : Tok}
    {p_EFFECTS_7 : Addr} {np_EFFECTS_7 : Nat} {sp_EFFECTS_7 : Array (Option Value)} {tp_EFFECTS_7_0 tp_EFFECTS_7_1 : Tok}
    {p_EFFECTS_8 : Addr} {np_EFFECTS_8 : Nat} {sp_EFFECTS_8 : Array (Option Value)} {tp_EFFECTS_8_0 tp_EFFECTS_8_1 : Tok}
    {p_EFFECTS_9 : Addr} {np_EFFECTS_9 : Nat} {sp_EFFECTS_9 : Array (Option Value)} {tp_EFFECTS_9_0 tp_EFFECTS_9_1 : Tok}
    {p_EFFECTS_10 : Addr} {np_EFFECTS_10 : Nat} {sp_EFFECTS_10 : Array (Option Value)} {tp_EFFECTS_10_0 tp_EFFECTS_10_1 : Tok}
    {p_EFFECTS_11 : Addr} {np_EFFECTS_11 : Nat} {sp_EFFECTS_11 : Array (Option Value)} {tp_EFFECTS_11_0 tp_EFFECTS_11_1 : Tok}
    {p_EFFECTS_12 : Addr} {np_EFFECTS_12 : Nat} {sp_EFFECTS_12 : Array (Option Value)} {tp_EFFECTS_12_0 tp_EFFECTS_12_1 : Tok}
    {p_EFFECTS_13 : Addr} {np_EFFECTS_13 : Nat} {sp_EFFECTS_13 : Array (Option Value)} {tp_EFFECTS_13_0 tp_EFFECTS_13_1 : Tok}
    {p_EFFECTS_14 : Addr} {np_EFFECTS_14 : Nat} {sp_EFFECTS_14 : Array (Option Value)} {tp_EFFECTS_14_0 tp_EFFECTS_14_1 : Tok}
    {p_EFFECTS_15 : Addr} {np_EFFECTS_15 : Nat} {sp_EFFECTS_15 : Array (Option Value)} {tp_EFFECTS_15_0 tp_EFFECTS_15_1 : Tok}
    (a_law_pool : PySem.W.nsIn K mainGlobals "_law_pool" = some (some (.ref f_law_pool))) (l_law_pool : K.lookup f_law_pool = some ⟨oc_law_pool, od_law_pool, .func (PySem.W.fnOf "_law_pool" "_law_pool" (fnArgs s_law_pool) (fnBody s_law_pool) (fnScope s_law_pool) .none kV_law_pool dc_law_pool pm_law_pool an_law_pool cd_law_pool ct_law_pool), sl_law_pool⟩) (c_law_pool : PySem.W.codeIn K cd_law_pool "_law_pool" = true) (k_law_pool : PySem.W.keepIn K (.ref f_law_pool) = true)
    (a_law_draw : PySem.W.nsIn K mainGlobals "_law_draw" = some (some (.ref f_law_draw))) (l_law_draw : K.lookup f_law_draw = some ⟨oc_law_draw, od_law_draw, .func (PySem.W.fnOf "_law_draw" "_law_draw" (fnArgs s_law_draw) (fnBody s_law_draw) (fnScope s_law_draw) .none kV_law_draw dc_law_draw pm_law_draw an_law_draw cd_law_draw ct_law_draw), sl_law_draw⟩) (c_law_draw : PySem.W.codeIn K cd_law_draw "_law_draw" = true) (k_law_draw : PySem.W.keepIn K (.ref f_law_draw) = true)
    (a_law_spend : PySem.W.nsIn K mainGlobals "_law_spend" = some (some (.ref f_law_spend))) (l_law_spend : K.lookup f_law_spend = some ⟨oc_law_spend, od_law_spend, .func (PySem.W.fnOf "_law_spend" "_law_spend" (fnArgs s_law_spend) (fnBody s_law_spend) (fnScope s_law_spend) .none kV_law_spend dc_law_spend pm_law_spend an_law_spend cd_law_spend ct_law_spend), sl_law_spend⟩) (c_law_spend : PySem.W.codeIn K cd_law_spend "_law_spend" = true) (k_law_spend : PySem.W.keepIn K (.ref f_law_spend) = true)
    (a_law_few : PySem.W.nsIn K mainGlobals "_law_few" = some (some (.ref f_law_few))) (l_law_few : K.lookup f_law_few = some ⟨oc_law_few, od_law_few, .func (PySem.W.fnOf "_law_few" "_law_few" (fnArgs s_law_few) (fnBody s_law_few) (fnScope s_law_few) .none kV_law_few dc_law_few pm_law_few an_law_few cd_law_few ct_law_few), sl_law_few⟩) (c_law_few : PySem.W.codeIn K cd_law_few "_law_few" = true) (k_law_few : PySem.W.keepIn K (.ref f_law_few) = true)
    (a_law_number : PySem.W.nsIn K mainGlobals "_law_number" = some (some (.ref f_law_number))) (l_law_number : K.lookup f_law_number = some ⟨oc_law_number, od_law_number, .func (PySem.W.fnOf "_law_number" "_law_number" (fnArgs s_law_number) (fnBody s_law_number) (fnScope s_law_number) .none kV_law_number dc_law_number pm_law_number an_law_number cd_law_number ct_law_number), sl_law_number⟩) (c_law_number : PySem.W.codeIn K cd_law_number "_law_number" = true) (k_law_number : PySem.W.keepIn K (.ref f_law_number) = true)
    (a_law_same : PySem.W.nsIn K mainGlobals "_law_same" = some (some (.ref f_law_same))) (l_law_same : K.lookup f_law_same = some ⟨oc_law_same, od_law_same, .func (PySem.W.fnOf "_law_same" "_law_same" (fnArgs s_law_same) (fnBody s_law_same) (fnScope s_law_same) .none kV_law_same dc_law_same pm_law_same an_law_same cd_law_same ct_law_same), sl_law_same⟩) (c_law_same : PySem.W.codeIn K cd_law_same "_law_same" = true) (k_law_same : PySem.W.keepIn K (.ref f_law_same) = true)
    (a_argument_fits : PySem.W.nsIn K mainGlobals "argument_fits" = some (some (.ref f_argument_fits))) (l_argument_fits : K.lookup f_argument_fits = some ⟨oc_argument_fits, od_argument_fits, .func (PySem.W.fnOf "argument_fits" "argument_fits" (fnArgs s_argument_fits) (fnBody s_argument_fits) (fnScope s_argument_fits) .none kV_argument_fits dc_argument_fits pm_argument_fits an_argument_fits cd_argument_fits ct_argument_fits), sl_argument_fits⟩) (c_argument_fits : PySem.W.codeIn K cd_argument_fits "argument_fits" = true) (k_argument_fits : PySem.W.keepIn K (.ref f_argument_fits) = true)
    (a_targets_of : PySem.W.nsIn K mainGlobals "targets_of" = some (some (.ref f_targets_of))) (l_targets_of : K.lookup f_targets_of = some ⟨oc_targets_of, od_targets_of, .func (PySem.W.fnOf "targets_of" "targets_of" (fnArgs s_targets_of) (fnBody s_targets_of) (fnScope s_targets_of) .none kV_targets_of dc_targets_of pm_targets_of an_targets_of cd_targets_of ct_targets_of), sl_targets_of⟩) (c_targets_of : PySem.W.codeIn K cd_targets_of "targets_of" = true) (k_targets_of : PySem.W.keepIn K (.ref f_targets_of) = true)
    (a_check_code : PySem.W.nsIn K mainGlobals "check_code" = some (some (.ref f_check_code))) (l_check_code : K.lookup f_check_code = some ⟨oc_check_code, od_check_code, .func (PySem.W.fnOf "check_code" "check_code" (fnArgs s_check_code) (fnBody s_check_code) (fnScope s_check_code) .none (.ref KD_check_code) dc_check_code pm_check_code an_check_code cd_check_code ct_check_code), sl_check_code⟩) (c_check_code : PySem.W.codeIn K cd_check_code "check_code" = true) (k_check_code : PySem.W.keepIn K (.ref f_check_code) = true)
    (kd_check_code : PySem.W.nsIn K KD_check_code "thinking" = some (some (.bool false)))
    (a_law_names_of_code : PySem.W.nsIn K mainGlobals "_law_names_of_code" = some (some (.ref f_law_names_of_code))) (l_law_names_of_code : K.lookup f_law_names_of_code = some ⟨oc_law_names_of_code, od_law_names_of_code, .func (PySem.W.fnOf "_law_names_of_code" "_law_names_of_code" (fnArgs s_law_names_of_code) (fnBody s_law_names_of_code) (fnScope s_law_names_of_code) .none kV_law_names_of_code dc_law_names_of_code pm_law_names_of_code an_law_names_of_code cd_law_names_of_code ct_law_names_of_code), sl_law_names_of_code⟩) (c_law_names_of_code : PySem.W.codeIn K cd_law_names_of_code "_law_names_of_code" = true) (k_law_names_of_code : PySem.W.keepIn K (.ref f_law_names_of_code) = true)
    (a_law_takes : PySem.W.nsIn K mainGlobals "_law_takes" = some (some (.ref f_law_takes))) (l_law_takes : K.lookup f_law_takes = some ⟨oc_law_takes, od_law_takes, .func (PySem.W.fnOf "_law_takes" "_law_takes" (fnArgs s_law_takes) (fnBody s_law_takes) (fnScope s_law_takes) .none kV_law_takes dc_law_takes pm_law_takes an_law_takes cd_law_takes ct_law_takes), sl_law_takes⟩) (c_law_takes : PySem.W.codeIn K cd_law_takes "_law_takes" = true) (k_law_takes : PySem.W.keepIn K (.ref f_law_takes) = true)
    (a_law_argument : PySem.W.nsIn K mainGlobals "_law_argument" = some (some (.ref f_law_argument))) (l_law_argument : K.lookup f_law_argument = some ⟨oc_law_argument, od_law_argument, .func (PySem.W.fnOf "_law_argument" "_law_argument" (fnArgs s_law_argument) (fnBody s_law_argument) (fnScope s_law_argument) .none kV_law_argument dc_law_argument pm_law_argument an_law_argument cd_law_argument ct_law_argument), sl_law_argument⟩) (c_law_argument : PySem.W.codeIn K cd_law_argument "_law_argument" = true) (k_law_argument : PySem.W.keepIn K (.ref f_law_argument) = true)
    (a_law_targets : PySem.W.nsIn K mainGlobals "_law_targets" = some (some (.ref f_law_targets))) (l_law_targets : K.lookup f_law_targets = some ⟨oc_law_targets, od_law_targets, .func (PySem.W.fnOf "_law_targets" "_law_targets" (fnArgs s_law_targets) (fnBody s_law_targets) (fnScope s_law_targets) .none kV_law_targets dc_law_targets pm_law_targets an_law_targets cd_law_targets ct_law_targets), sl_law_targets⟩) (c_law_targets : PySem.W.codeIn K cd_law_targets "_law_targets" = true) (k_law_targets : PySem.W.keepIn K (.ref f_law_targets) = true)
    (a_law_checked : PySem.W.nsIn K mainGlobals "_law_checked" = some (some (.ref f_law_checked))) (l_law_checked : K.lookup f_law_checked = some ⟨oc_law_checked, od_law_checked, .func (PySem.W.fnOf "_law_checked" "_law_checked" (fnArgs s_law_checked) (fnBody s_law_checked) (fnScope s_law_checked) .none kV_law_checked dc_law_checked pm_law_checked an_law_checked cd_law_checked ct_law_checked), sl_law_checked⟩) (c_law_checked : PySem.W.codeIn K cd_law_checked "_law_checked" = true) (k_law_checked : PySem.W.keepIn K (.ref f_law_checked) = true)
    (a_law_told : PySem.W.nsIn K mainGlobals "_law_told" = some (some (.ref f_law_told))) (l_law_told : K.lookup f_law_told = some ⟨oc_law_told, od_law_told, .func (PySem.W.fnOf "_law_told" "_law_told" (fnArgs s_law_told) (fnBody s_law_told) (fnScope s_law_told) .none kV_law_told dc_law_told pm_law_told an_law_told cd_law_told ct_law_told), sl_law_told⟩) (c_law_told : PySem.W.codeIn K cd_law_told "_law_told" = true) (k_law_told : PySem.W.keepIn K (.ref f_law_told) = true)
    (a_law_some_value : PySem.W.nsIn K mainGlobals "_law_some_value" = some (some (.ref f_law_some_value))) (l_law_some_value : K.lookup f_law_some_value = some ⟨oc_law_some_value, od_law_some_value, .func (PySem.W.fnOf "_law_some_value" "_law_some_value" (fnArgs s_law_some_value) (fnBody s_law_some_value) (fnScope s_law_some_value) .none kV_law_some_value dc_law_some_value pm_law_some_value an_law_some_value cd_law_some_value ct_law_some_value), sl_law_some_value⟩) (c_law_some_value : PySem.W.codeIn K cd_law_some_value "_law_some_value" = true) (k_law_some_value : PySem.W.keepIn K (.ref f_law_some_value) = true)
    (a_law_some_code : PySem.W.nsIn K mainGlobals "_law_some_code" = some (some (.ref f_law_some_code))) (l_law_some_code : K.lookup f_law_some_code = some ⟨oc_law_some_code, od_law_some_code, .func (PySem.W.fnOf "_law_some_code" "_law_some_code" (fnArgs s_law_some_code) (fnBody s_law_some_code) (fnScope s_law_some_code) .none kV_law_some_code dc_law_some_code pm_law_some_code an_law_some_code cd_law_some_code ct_law_some_code), sl_law_some_code⟩) (c_law_some_code : PySem.W.codeIn K cd_law_some_code "_law_some_code" = true) (k_law_some_code : PySem.W.keepIn K (.ref f_law_some_code) = true)
    (a_law_whole_code : PySem.W.nsIn K mainGlobals "_law_whole_code" = some (some (.ref f_law_whole_code))) (l_law_whole_code : K.lookup f_law_whole_code = some ⟨oc_law_whole_code, od_law_whole_code, .func (PySem.W.fnOf "_law_whole_code" "_law_whole_code" (fnArgs s_law_whole_code) (fnBody s_law_whole_code) (fnScope s_law_whole_code) .none kV_law_whole_code dc_law_whole_code pm_law_whole_code an_law_whole_code cd_law_whole_code ct_law_whole_code), sl_law_whole_code⟩) (c_law_whole_code : PySem.W.codeIn K cd_law_whole_code "_law_whole_code" = true) (k_law_whole_code : PySem.W.keepIn K (.ref f_law_whole_code) = true)
    (a_law_any : PySem.W.nsIn K mainGlobals "_law_any" = some (some (.ref f_law_any))) (l_law_any : K.lookup f_law_any = some ⟨oc_law_any, od_law_any, .func (PySem.W.fnOf "_law_any" "_law_any" (fnArgs s_law_any) (fnBody s_law_any) (fnScope s_law_any) .none kV_law_any dc_law_any pm_law_any an_law_any cd_law_any ct_law_any), sl_law_any⟩) (c_law_any : PySem.W.codeIn K cd_law_any "_law_any" = true) (k_law_any : PySem.W.keepIn K (.ref f_law_any) = true)
    (a_law_spoilt : PySem.W.nsIn K mainGlobals "_law_spoilt" = some (some (.ref f_law_spoilt))) (l_law_spoilt : K.lookup f_law_spoilt = some ⟨oc_law_spoilt, od_law_spoilt, .func (PySem.W.fnOf "_law_spoilt" "_law_spoilt" (fnArgs s_law_spoilt) (fnBody s_law_spoilt) (fnScope s_law_spoilt) .none kV_law_spoilt dc_law_spoilt pm_law_spoilt an_law_spoilt cd_law_spoilt ct_law_spoilt), sl_law_spoilt⟩) (c_law_spoilt : PySem.W.codeIn K cd_law_spoilt "_law_spoilt" = true) (k_law_spoilt : PySem.W.keepIn K (.ref f_law_spoilt) = true)
    (a_law : PySem.W.nsIn K mainGlobals "law" = some (some (.ref f_law))) (l_law : K.lookup f_law = some ⟨oc_law, od_law, .func (PySem.W.fnOf "law" "law" (fnArgs s_law) (fnBody s_law) (fnScope s_law) .none kV_law dc_law pm_law an_law cd_law ct_law), sl_law⟩) (c_law : PySem.W.codeIn K cd_law "law" = true) (k_law : PySem.W.keepIn K (.ref f_law) = true)
    (mc_Checker : PySem.W.nsIn K mainGlobals "Checker" = some (some (.ref C_Checker)))
    (pg_Checker : PySem.W.plainGet K C_Checker Str.empty = true)
    (hd_Checker : PySem.W.hasDictIn K C_Checker = true)
    (po_Checker : PySem.W.plainOver K C_Checker = true)
    (sa_Checker : PySem.W.findIn K (.ref C_Checker) "__setattr__" = some (some (.builtin "object.__setattr__")))
    (mk_Checker : PySem.W.makesIn K C_Checker = true)
    (kc_Checker : PySem.W.keepIn K (.ref C_Checker) = true)
    (ha_Checker : PySem.W.findIn K (.ref C_Checker) "__class__" = some (some (.builtin "object.__class__")))
    (hn_Checker : PySem.W.specialIn K (.builtin "object.__class__") "__get__" = some (some (.builtin "getset_descriptor.__get__")))
    (ht_Checker : PySem.W.takesIn K (.builtin "object.__class__") = some true)
    (hm_Checker : PySem.W.mroIn K C_Checker (.type "object") = some true)
    (ncode_Checker : PySem.W.findIn K (.ref C_Checker) "code" = some none)
    (nslots_Checker : PySem.W.findIn K (.ref C_Checker) "slots" = some none)
    (nmoves_Checker : PySem.W.findIn K (.ref C_Checker) "moves" = some none)
    (nthinking_Checker : PySem.W.findIn K (.ref C_Checker) "thinking" = some none)
    (nheights_Checker : PySem.W.findIn K (.ref C_Checker) "heights" = some none)
    (nhighest_Checker : PySem.W.findIn K (.ref C_Checker) "highest" = some none)
    (a_Checker___init : PySem.W.findIn K (.ref C_Checker) "__init__" = some (some (.ref f_Checker___init))) (i_Checker___init : PySem.W.isFn K (.ref f_Checker___init) = true) (l_Checker___init : K.lookup f_Checker___init = some ⟨oc_Checker___init, od_Checker___init, .func (PySem.W.fnOf "__init__" "Checker.__init__" (fnArgs s_Checker___init) (fnBody s_Checker___init) (fnScope s_Checker___init) .none kV_Checker___init dc_Checker___init pm_Checker___init an_Checker___init cd_Checker___init ct_Checker___init), sl_Checker___init⟩) (c_Checker___init : PySem.W.codeIn K cd_Checker___init "Checker.__init__" = true) (k_Checker___init : PySem.W.keepIn K (.ref f_Checker___init) = true)
    (a_Checker_reaches : PySem.W.findIn K (.ref C_Checker) "reaches" = some (some (.ref f_Checker_reaches))) (i_Checker_reaches : PySem.W.isFn K (.ref f_Checker_reaches) = true) (l_Checker_reaches : K.lookup f_Checker_reaches = some ⟨oc_Checker_reaches, od_Checker_reaches, .func (PySem.W.fnOf "reaches" "Checker.reaches" (fnArgs s_Checker_reaches) (fnBody s_Checker_reaches) (fnScope s_Checker_reaches) .none kV_Checker_reaches dc_Checker_reaches pm_Checker_reaches an_Checker_reaches cd_Checker_reaches ct_Checker_reaches), sl_Checker_reaches⟩) (c_Checker_reaches : PySem.W.codeIn K cd_Checker_reaches "Checker.reaches" = true) (k_Checker_reaches : PySem.W.keepIn K (.ref f_Checker_reaches) = true)
    (a_Checker_returns : PySem.W.findIn K (.ref C_Checker) "returns" = some (some (.ref f_Checker_returns))) (i_Checker_returns : PySem.W.isFn K (.ref f_Checker_returns) = true) (l_Checker_returns : K.lookup f_Checker_returns = some ⟨oc_Checker_returns, od_Checker_returns, .func (PySem.W.fnOf "returns" "Checker.returns" (fnArgs s_Checker_returns) (fnBody s_Checker_returns) (fnScope s_Checker_returns) .none kV_Checker_returns dc_Checker_returns pm_Checker_returns an_Checker_returns cd_Checker_returns ct_Checker_returns), sl_Checker_returns⟩) (c_Checker_returns : PySem.W.codeIn K cd_Checker_returns "Checker.returns" = true) (k_Checker_returns : PySem.W.keepIn K (.ref f_Checker_returns) = true)
    (a_Checker_good : PySem.W.findIn K (.ref C_Checker) "good" = some (some (.ref f_Checker_good))) (i_Checker_good : PySem.W.isFn K (.ref f_Checker_good) = true) (l_Checker_good : K.lookup f_Checker_good = some ⟨oc_Checker_good, od_Checker_good, .func (PySem.W.fnOf "good" "Checker.good" (fnArgs s_Checker_good) (fnBody s_Checker_good) (fnScope s_Checker_good) .none kV_Checker_good dc_Checker_good pm_Checker_good an_Checker_good cd_Checker_good ct_Checker_good), sl_Checker_good⟩) (c_Checker_good : PySem.W.codeIn K cd_Checker_good "Checker.good" = true) (k_Checker_good : PySem.W.keepIn K (.ref f_Checker_good) = true)
    (mc_GameError : PySem.W.nsIn K mainGlobals "GameError" = some (some (.ref C_GameError)))
    (mc_BadText : PySem.W.nsIn K mainGlobals "BadText" = some (some (.ref C_BadText)))
    (mc_TooLarge : PySem.W.nsIn K mainGlobals "TooLarge" = some (some (.ref C_TooLarge)))
    (mc_BadMove : PySem.W.nsIn K mainGlobals "BadMove" = some (some (.ref C_BadMove)))
    (mc_BadCode : PySem.W.nsIn K mainGlobals "BadCode" = some (some (.ref C_BadCode)))
    (opq : PySem.W.nsIn K PySem.cStatics "thirdparty.any" = some none)
    (zsup : PySem.W.nsIn K mainGlobals "super" = some none)
    (ptop : (l.prog.main.scope.names.lookup ("super" : Str)).isSome = false)
    (xsp : PySem.W.specialIn K (.builtin "object.__class__") "__get__" = some (some (.builtin "getset_descriptor.__get__")))
    (xtk : PySem.W.takesIn K (.builtin "object.__class__") = some true)
    (xL_BadCode : K.lookup C_BadCode = some (excClassObj nm_BadCode q_BadCode C_BadCode N_BadCode bs_BadCode [.ref C_GameError, .type "ValueError", .type "Exception", .type "BaseException", .type "object"] true sn_BadCode sub_BadCode ab_BadCode col_BadCode dd_BadCode m0_BadCode m1_BadCode m2_BadCode m3_BadCode m5_BadCode "ValueError.__new__"))
    (al_BadCode : PySem.W.ks_superIn K C_BadCode C_BadCode "__init__" = some (some (.builtin "ValueError.__init__")))
    (ve_BadCode : PySem.W.subIn K (.ref C_BadCode) (.type "ValueError") = some true)
    (sa_BadCode : PySem.W.findIn K (.ref C_BadCode) "__setattr__" = some (some (.builtin "object.__setattr__")))
    (ga_BadCode : PySem.W.findIn K (.ref C_BadCode) "__getattribute__" = some (some (.builtin "BaseException.__getattribute__")))
    (gg_BadCode : PySem.W.findIn K (.ref C_BadCode) "__getattr__" = some none)
    (nb_BadCode : PySem.W.findIn K (.ref C_BadCode) "at" = some none)
    (iC_BadCode : PySem.W.findIn K (.ref C_BadCode) "__init__" = some (some (.ref f_BadCode___init)))
    (tf_BadCode : PySem.W.typeIn K (.ref f_BadCode___init) = some (.type "function"))
    (kC_BadCode : PySem.W.keepIn K (.ref C_BadCode) = true)
    (eC_BadCode : PySem.W.subIn K (.ref C_BadCode) (.type "BaseException") = some true)
    (tC_BadCode : PySem.W.typeIn K (.ref C_BadCode) = some (.type "type"))
    (hC_BadCode : PySem.W.hasDictIn K C_BadCode = true)
    (mo_BadCode : PySem.W.mroIn K C_BadCode (.ref C_BadCode) = some true)
    (ma_BadCode : PySem.W.mroIn K C_BadCode (.type "object") = some true)
    (ca_BadCode : PySem.W.findIn K (.ref C_BadCode) "__class__" = some (some (.builtin "object.__class__")))
    (ss_BadCode : PySem.W.subIn K (.ref C_BadCode) (.ref C_BadCode) = some true)
    (lf_BadCode : K.lookup f_BadCode___init = some ⟨oc_BadCode___init, od_BadCode___init, .func (PySem.W.fnX "__init__" "BadCode.__init__" (fnArgs s_BadCode___init) (fnBody s_BadCode___init) (fnScope s_BadCode___init) [("__class__", cc_BadCode___init)] .none .none dc_BadCode___init pm_BadCode___init an_BadCode___init (.ref cda_BadCode___init) ct_BadCode___init), sl_BadCode___init⟩)
    (cf_BadCode : PySem.W.codeIn K (.ref cda_BadCode___init) "BadCode.__init__" = true)
    (lc_BadCode : K.lookup cc_BadCode___init = some ⟨cl_BadCode___init, cld_BadCode___init, .cell (some (.ref C_BadCode)), csl_BadCode___init⟩)
    (ld_BadCode : K.lookup cda_BadCode___init = some ⟨ccl_BadCode___init, cdd_BadCode___init, .fields vs_BadCode___init, ccs_BadCode___init⟩)
    (vf_BadCode : vs_BadCode___init[2]? = some (.str file_BadCode___init tf_BadCode___init))
    (fe_BadCode : ((l.prog.main.file : Str) == file_BadCode___init) = true)
    (hkit1 : PySem.W.kitOne K (.ref C_BadCode) (.ref C_GameError) = some true)
    (hkit2 : PySem.W.kitAny K (.ref C_BadCode) [.ref C_BadMove, .ref C_BadText, .ref C_TooLarge] = some false)
    (z_GREATEST : PySem.W.nsIn K mainGlobals "GREATEST" = some (some (.int 65535 t_GREATEST)))
    (z_SIGNS : PySem.W.nsIn K mainGlobals "SIGNS" = some (some (.ref T_SIGNS)))
    (lT_SIGNS : K.lookup T_SIGNS = some ⟨.type "tuple", none, .seq #[.str "+" t_SIGNS0, .str "-" t_SIGNS1, .str "*" t_SIGNS2, .str "/" t_SIGNS3, .str "mod" t_SIGNS4, .str "<" t_SIGNS5, .str "=" t_SIGNS6] nn_SIGNS, sl_SIGNS⟩)
    (z_HIGHEST : PySem.W.nsIn K mainGlobals "HIGHEST" = some (some (.int 16 t_HIGHEST)))
    (z_ROUND_NAMES : PySem.W.nsIn K mainGlobals "ROUND_NAMES" = some (some (.ref T_ROUND_NAMES)))
    (lT_ROUND_NAMES : K.lookup T_ROUND_NAMES = some ⟨.type "tuple", none, .seq #[.str "push" t_ROUND_NAMES0, .str "load" t_ROUND_NAMES1, .str "store" t_ROUND_NAMES2, .str "sign" t_ROUND_NAMES3, .str "jump" t_ROUND_NAMES4, .str "skip" t_ROUND_NAMES5, .str "lot" t_ROUND_NAMES6, .str "end" t_ROUND_NAMES7, .str "ask" t_ROUND_NAMES8, .str "show" t_ROUND_NAMES9, .str "pay" t_ROUND_NAMES10, .str "take" t_ROUND_NAMES11] nn_ROUND_NAMES, sl_ROUND_NAMES⟩)
    (z_BRAIN_NAMES : PySem.W.nsIn K mainGlobals "BRAIN_NAMES" = some (some (.ref T_BRAIN_NAMES)))
    (lT_BRAIN_NAMES : K.lookup T_BRAIN_NAMES = some ⟨.type "tuple", none, .seq #[.str "push" t_BRAIN_NAMES0, .str "load" t_BRAIN_NAMES1, .str "store" t_BRAIN_NAMES2, .str "sign" t_BRAIN_NAMES3, .str "jump" t_BRAIN_NAMES4, .str "skip" t_BRAIN_NAMES5, .str "lot" t_BRAIN_NAMES6, .str "end" t_BRAIN_NAMES7, .str "view" t_BRAIN_NAMES8, .str "long" t_BRAIN_NAMES9, .str "unit" t_BRAIN_NAMES10, .str "back" t_BRAIN_NAMES11] nn_BRAIN_NAMES, sl_BRAIN_NAMES⟩)
    (z_EFFECTS : PySem.W.nsIn K mainGlobals "EFFECTS" = some (some (.ref T_EFFECTS)))
    (lT_EFFECTS : K.lookup T_EFFECTS = some ⟨.type "dict", none, .dict es_EFFECTS nn_EFFECTS, #[]⟩)
    (kl_EFFECTS : PySem.W.KeysLit w.params es_EFFECTS.toList)
    (gp_EFFECTS_0 : PySem.W.nsIn K T_EFFECTS "push" = some (some (.ref p_EFFECTS_0)))
    (lp_EFFECTS_0 : K.lookup p_EFFECTS_0 = some ⟨.type "tuple", none, .seq #[.int (0) tp_EFFECTS_0_0, .int (1) tp_EFFECTS_0_1] np_EFFECTS_0, sp_EFFECTS_0⟩)
    (gp_EFFECTS_1 : PySem.W.nsIn K T_EFFECTS "load" = some (some (.ref p_EFFECTS_1)))
    (lp_EFFECTS_1 : K.lookup p_EFFECTS_1 = some ⟨.type "tuple", none, .seq #[.int (0) tp_EFFECTS_1_0, .int (1) tp_EFFECTS_1_1] np_EFFECTS_1, sp_EFFECTS_1⟩)
    (gp_EFFECTS_2 : PySem.W.nsIn K T_EFFECTS "store" = some (some (.ref p_EFFECTS_2)))
    (lp_EFFECTS_2 : K.lookup p_EFFECTS_2 = some ⟨.type "tuple", none, .seq #[.int (1) tp_EFFECTS_2_0, .int (0) tp_EFFECTS_2_1] np_EFFECTS_2, sp_EFFECTS_2⟩)
    (gp_EFFECTS_3 : PySem.W.nsIn K T_EFFECTS "sign" = some (some (.ref p_EFFECTS_3)))
    (lp_EFFECTS_3 : K.lookup p_EFFECTS_3 = some ⟨.type "tuple", none, .seq #[.int (2) tp_EFFECTS_3_0, .int (1) tp_EFFECTS_3_1] np_EFFECTS_3, sp_EFFECTS_3⟩)
    (gp_EFFECTS_4 : PySem.W.nsIn K T_EFFECTS "jump" = some (some (.ref p_EFFECTS_4)))
    (lp_EFFECTS_4 : K.lookup p_EFFECTS_4 = some ⟨.type "tuple", none, .seq #[.int (0) tp_EFFECTS_4_0, .int (0) tp_EFFECTS_4_1] np_EFFECTS_4, sp_EFFECTS_4⟩)
    (gp_EFFECTS_5 : PySem.W.nsIn K T_EFFECTS "skip" = some (some (.ref p_EFFECTS_5)))
    (lp_EFFECTS_5 : K.lookup p_EFFECTS_5 = some ⟨.type "tuple", none, .seq #[.int (1) tp_EFFECTS_5_0, .int (0) tp_EFFECTS_5_1] np_EFFECTS_5, sp_EFFECTS_5⟩)
    (gp_EFFECTS_6 : PySem.W.nsIn K T_EFFECTS "lot" = some (some (.ref p_EFFECTS_6)))
    (lp_EFFECTS_6 : K.lookup p_EFFECTS_6 = some ⟨.type "tuple", none, .seq #[.int (1) tp_EFFECTS_6_0, .int (1) tp_EFFECTS_6_1] np_EFFECTS_6, sp_EFFECTS_6⟩)
    (gp_EFFECTS_7 : PySem.W.nsIn K T_EFFECTS "ask" = some (some (.ref p_EFFECTS_7)))
    (lp_EFFECTS_7 : K.lookup p_EFFECTS_7 = some ⟨.type "tuple", none, .seq #[.int (0) tp_EFFECTS_7_0, .int (1) tp_EFFECTS_7_1] np_EFFECTS_7, sp_EFFECTS_7⟩)
    (gp_EFFECTS_8 : PySem.W.nsIn K T_EFFECTS "show" = some (some (.ref p_EFFECTS_8)))
    (lp_EFFECTS_8 : K.lookup p_EFFECTS_8 = some ⟨.type "tuple", none, .seq #[.int (1) tp_EFFECTS_8_0, .int (0) tp_EFFECTS_8_1] np_EFFECTS_8, sp_EFFECTS_8⟩)
    (gp_EFFECTS_9 : PySem.W.nsIn K T_EFFECTS "pay" = some (some (.ref p_EFFECTS_9)))
    (lp_EFFECTS_9 : K.lookup p_EFFECTS_9 = some ⟨.type "tuple", none, .seq #[.int (1) tp_EFFECTS_9_0, .int (0) tp_EFFECTS_9_1] np_EFFECTS_9, sp_EFFECTS_9⟩)
    (gp_EFFECTS_10 : PySem.W.nsIn K T_EFFECTS "take" = some (some (.ref p_EFFECTS_10)))
    (lp_EFFECTS_10 : K.lookup p_EFFECTS_10 = some ⟨.type "tuple", none, .seq #[.int (1) tp_EFFECTS_10_0, .int (0) tp_EFFECTS_10_1] np_EFFECTS_10, sp_EFFECTS_10⟩)
    (gp_EFFECTS_11 : PySem.W.nsIn K T_EFFECTS "view" = some (some (.ref p_EFFECTS_11)))
    (lp_EFFECTS_11 : K.lookup p_EFFECTS_11 = some ⟨.type "tuple", none, .seq #[.int (1) tp_EFFECTS_11_0, .int (1) tp_EFFECTS_11_1] np_EFFECTS_11, sp_EFFECTS_11⟩)
    (gp_EFFECTS_12 : PySem.W.nsIn K T_EFFECTS "long" = some (some (.ref p_EFFECTS_12)))
    (lp_EFFECTS_12 : K.lookup p_EFFECTS_12 = some ⟨.type "tuple", none, .seq #[.int (0) tp_EFFECTS_12_0, .int (1) tp_EFFECTS_12_1] np_EFFECTS_12, sp_EFFECTS_12⟩)
    (gp_EFFECTS_13 : PySem.W.nsIn K T_EFFECTS "unit" = some (some (.ref p_EFFECTS_13)))
    (lp_EFFECTS_13 : K.lookup p_EFFECTS_13 = some ⟨.type "tuple", none, .seq #[.int (0) tp_EFFECTS_13_0, .int (0) tp_EFFECTS_13_1] np_EFFECTS_13, sp_EFFECTS_13⟩)
    (gp_EFFECTS_14 : PySem.W.nsIn K T_EFFECTS "back" = some (some (.ref p_EFFECTS_14)))
    (lp_EFFECTS_14 : K.lookup p_EFFECTS_14 = some ⟨.type "tuple", none, .seq #[.int (0) tp_EFFECTS_14_0, .int (0) tp_EFFECTS_14_1] np_EFFECTS_14, sp_EFFECTS_14⟩)
    (gp_EFFECTS_15 : PySem.W.nsIn K T_EFFECTS "end" = some (some (.ref p_EFFECTS_15)))
    (lp_EFFECTS_15 : K.lookup p_EFFECTS_15 = some ⟨.type "tuple", none, .seq #[.int (0) tp_EFFECTS_15_0, .int (0) tp_EFFECTS_15_1] np_EFFECTS_15, sp_EFFECTS_15⟩)
    (z_bool : PySem.W.nsIn K mainGlobals "bool" = some none)
    (z_int : PySem.W.nsIn K mainGlobals "int" = some none)
    (z_isinstance : PySem.W.nsIn K mainGlobals "isinstance" = some none)
    (z_len : PySem.W.nsIn K mainGlobals "len" = some none)
    (z_list : PySem.W.nsIn K mainGlobals "list" = some none)
    (z_max : PySem.W.nsIn K mainGlobals "max" = some none)
    (z_min : PySem.W.nsIn K mainGlobals "min" = some none)
    (z_ord : PySem.W.nsIn K mainGlobals "ord" = some none)
    (z_range : PySem.W.nsIn K mainGlobals "range" = some none)
    (z_str : PySem.W.nsIn K mainGlobals "str" = some none)
    (z_tuple : PySem.W.nsIn K mainGlobals "tuple" = some none)
    : ∃ fd : FuncData, (∀ (s : Shared) (v : Value), BindsTo s fd ⟨[v], []⟩ [("script", v)]) ∧ ∀ base : Heap, K.In base → base.Ns mainGlobals mg → FnOk l.prog w K mg base C8.CX0 50 fa fd ["script"] (sp_law K) := by
  have e := hfa.symm.trans (PySem.W.mg_of X G a_law)
  cases e
  have T : Txt K mg C_Checker C_GameError C_BadText C_TooLarge C_BadMove C_BadCode T_SIGNS T_ROUND_NAMES T_BRAIN_NAMES T_EFFECTS := ⟨PySem.W.mg_none_of X G z_bool, PySem.W.mg_none_of X G z_int, PySem.W.mg_none_of X G z_isinstance, PySem.W.mg_none_of X G z_len, PySem.W.mg_none_of X G z_list, PySem.W.mg_none_of X G z_max, PySem.W.mg_none_of X G z_min, PySem.W.mg_none_of X G z_ord, PySem.W.mg_none_of X G z_range, PySem.W.mg_none_of X G z_str, PySem.W.mg_none_of X G z_tuple, ⟨pg_Checker, hd_Checker, po_Checker, sa_Checker⟩, PySem.W.mg_of X G mc_Checker, ⟨⟨pg_Checker, hd_Checker, po_Checker, sa_Checker⟩, ha_Checker, hn_Checker, ht_Checker, hm_Checker, kitSelf⟩, ncode_Checker, nslots_Checker, nmoves_Checker, nthinking_Checker, nheights_Checker, nhighest_Checker, ⟨_, PySem.W.mg_of X G z_GREATEST, ⟨_, rfl⟩⟩, ⟨_, PySem.W.mg_of X G z_SIGNS, rfl⟩, fun H => .inr ⟨_, _, _, lT_SIGNS, rfl, rfl, by show 7 ≤ sizeLine; decide, .cons ⟨_, rfl⟩ (.cons ⟨_, rfl⟩ (.cons ⟨_, rfl⟩ (.cons ⟨_, rfl⟩ (.cons ⟨_, rfl⟩ (.cons ⟨_, rfl⟩ (.cons ⟨_, rfl⟩ (.nil)))))))⟩, ⟨_, lT_SIGNS, rfl, rfl⟩, ⟨_, PySem.W.mg_of X G z_HIGHEST, ⟨_, rfl⟩⟩, ⟨_, PySem.W.mg_of X G z_ROUND_NAMES, rfl⟩, fun H => .inr ⟨_, _, _, lT_ROUND_NAMES, rfl, rfl, by show 12 ≤ sizeLine; decide, .cons ⟨_, rfl⟩ (.cons ⟨_, rfl⟩ (.cons ⟨_, rfl⟩ (.cons ⟨_, rfl⟩ (.cons ⟨_, rfl⟩ (.cons ⟨_, rfl⟩ (.cons ⟨_, rfl⟩ (.cons ⟨_, rfl⟩ (.cons ⟨_, rfl⟩ (.cons ⟨_, rfl⟩ (.cons ⟨_, rfl⟩ (.cons ⟨_, rfl⟩ (.nil))))))))))))⟩, ⟨_, lT_ROUND_NAMES, rfl, rfl⟩, ⟨_, PySem.W.mg_of X G z_BRAIN_NAMES, rfl⟩, fun H => .inr ⟨_, _, _, lT_BRAIN_NAMES, rfl, rfl, by show 12 ≤ sizeLine; decide, .cons ⟨_, rfl⟩ (.cons ⟨_, rfl⟩ (.cons ⟨_, rfl⟩ (.cons ⟨_, rfl⟩ (.cons ⟨_, rfl⟩ (.cons ⟨_, rfl⟩ (.cons ⟨_, rfl⟩ (.cons ⟨_, rfl⟩ (.cons ⟨_, rfl⟩ (.cons ⟨_, rfl⟩ (.cons ⟨_, rfl⟩ (.cons ⟨_, rfl⟩ (.nil))))))))))))⟩, ⟨_, lT_BRAIN_NAMES, rfl, rfl⟩, ⟨_, PySem.W.mg_of X G z_EFFECTS, rfl⟩, PySem.W.mg_of X G mc_GameError, PySem.W.mg_of X G mc_BadText, PySem.W.mg_of X G mc_TooLarge, PySem.W.mg_of X G mc_BadMove, PySem.W.mg_of X G mc_BadCode, ⟨ga_BadCode, gg_BadCode, eC_BadCode, hC_BadCode, ca_BadCode, xsp, xtk, ma_BadCode⟩, ⟨ga_BadCode, gg_BadCode, eC_BadCode, hC_BadCode⟩, nb_BadCode, PySem.W.exm_ref eC_BadCode hC_BadCode tC_BadCode ss_BadCode, hkit1, hkit2, True.intro⟩
  have X_BadCode : SupX_BadCode.Txt l.prog K mg "BadCode" C_BadCode f_BadCode___init := { gC := PySem.W.mg_of X G mc_BadCode, cls := ⟨_, _, _, _, _, _, _, _, _, _, _, _, _, _, _, xL_BadCode, rfl⟩, along := al_BadCode, veC := ve_BadCode, sa := sa_BadCode, ga := ga_BadCode, gg := gg_BadCode, noN := nb_BadCode, iC := iC_BadCode, tC := tf_BadCode, kC := kC_BadCode, exC := eC_BadCode, tyC := tC_BadCode, hdC := hC_BadCode, opq := opq, noS := PySem.W.mg_none_of X G zsup, mroC := mo_BadCode, top := ptop, fn := ⟨_, _, _, _, _, _, _, _, _, _, _, _, _, _, _, _, _, _, lf_BadCode, cf_BadCode, lc_BadCode, ld_BadCode, vf_BadCode, fe_BadCode⟩ }
  have F_Checker___init : C8.Fun K "__init__" "Checker.__init__" s_Checker___init _ _ := ⟨⟨_, _, _, _, _, _, _, _, _, _, rfl, l_Checker___init, c_Checker___init⟩⟩
  have M_Checker : Mk K C_Checker f_Checker___init := ⟨mk_Checker, a_Checker___init, i_Checker___init, kc_Checker⟩
  have b_Checker___init : Binds K _ ["self", "code", "slots", "moves", "thinking"] [] := C8.Fun.binds F_Checker___init rfl fun _ _ _ _ _ _ us hl => match us, hl with | [_, _, _, _, _], _ => rfl
  have F_Checker_reaches : C8.Fun K "reaches" "Checker.reaches" s_Checker_reaches _ _ := ⟨⟨_, _, _, _, _, _, _, _, _, _, rfl, l_Checker_reaches, c_Checker_reaches⟩⟩
  have M_Checker_reaches : Meth K C_Checker "reaches" f_Checker_reaches := ⟨a_Checker_reaches, i_Checker_reaches, k_Checker_reaches⟩
  have b_Checker_reaches : Binds K _ ["self", "targets", "height"] [] := C8.Fun.binds F_Checker_reaches rfl fun _ _ _ _ _ _ us hl => match us, hl with | [_, _, _], _ => rfl
  have F_Checker_returns : C8.Fun K "returns" "Checker.returns" s_Checker_returns _ _ := ⟨⟨_, _, _, _, _, _, _, _, _, _, rfl, l_Checker_returns, c_Checker_returns⟩⟩
  have M_Checker_returns : Meth K C_Checker "returns" f_Checker_returns := ⟨a_Checker_returns, i_Checker_returns, k_Checker_returns⟩
  have b_Checker_returns : Binds K _ ["self", "at", "target"] [] := C8.Fun.binds F_Checker_returns rfl fun _ _ _ _ _ _ us hl => match us, hl with | [_, _, _], _ => rfl
  have F_Checker_good : C8.Fun K "good" "Checker.good" s_Checker_good _ _ := ⟨⟨_, _, _, _, _, _, _, _, _, _, rfl, l_Checker_good, c_Checker_good⟩⟩
  have M_Checker_good : Meth K C_Checker "good" f_Checker_good := ⟨a_Checker_good, i_Checker_good, k_Checker_good⟩
  have b_Checker_good : Binds K _ ["self", "at"] [] := C8.Fun.binds F_Checker_good rfl fun _ _ _ _ _ _ us hl => match us, hl with | [_, _], _ => rfl
  have D_law_pool : C8.Def K mg "_law_pool" s_law_pool _ _ := ⟨⟨⟨_, _, _, _, _, _, _, _, _, _, rfl, l_law_pool, c_law_pool⟩⟩, PySem.W.mg_of X G a_law_pool, k_law_pool⟩
  have b_law_pool : Binds K _ ["script", "budget"] [] := C8.Fun.binds D_law_pool.fn rfl fun _ _ _ _ _ _ us hl => match us, hl with | [_, _], _ => rfl
  have D_law_draw : C8.Def K mg "_law_draw" s_law_draw _ _ := ⟨⟨⟨_, _, _, _, _, _, _, _, _, _, rfl, l_law_draw, c_law_draw⟩⟩, PySem.W.mg_of X G a_law_draw, k_law_draw⟩
  have b_law_draw : Binds K _ ["pool", "size"] [] := C8.Fun.binds D_law_draw.fn rfl fun _ _ _ _ _ _ us hl => match us, hl with | [_, _], _ => rfl
  have D_law_spend : C8.Def K mg "_law_spend" s_law_spend _ _ := ⟨⟨⟨_, _, _, _, _, _, _, _, _, _, rfl, l_law_spend, c_law_spend⟩⟩, PySem.W.mg_of X G a_law_spend, k_law_spend⟩
  have b_law_spend : Binds K _ ["pool"] [] := C8.Fun.binds D_law_spend.fn rfl fun _ _ _ _ _ _ us hl => match us, hl with | [_], _ => rfl
  have D_law_few : C8.Def K mg "_law_few" s_law_few _ _ := ⟨⟨⟨_, _, _, _, _, _, _, _, _, _, rfl, l_law_few, c_law_few⟩⟩, PySem.W.mg_of X G a_law_few, k_law_few⟩
  have b_law_few : Binds K _ ["pool", "most"] [] := C8.Fun.binds D_law_few.fn rfl fun _ _ _ _ _ _ us hl => match us, hl with | [_, _], _ => rfl
  have D_law_number : C8.Def K mg "_law_number" s_law_number _ _ := ⟨⟨⟨_, _, _, _, _, _, _, _, _, _, rfl, l_law_number, c_law_number⟩⟩, PySem.W.mg_of X G a_law_number, k_law_number⟩
  have b_law_number : Binds K _ ["pool"] [] := C8.Fun.binds D_law_number.fn rfl fun _ _ _ _ _ _ us hl => match us, hl with | [_], _ => rfl
  have D_law_same : C8.Def K mg "_law_same" s_law_same _ _ := ⟨⟨⟨_, _, _, _, _, _, _, _, _, _, rfl, l_law_same, c_law_same⟩⟩, PySem.W.mg_of X G a_law_same, k_law_same⟩
  have b_law_same : Binds K _ ["actual", "due"] [] := C8.Fun.binds D_law_same.fn rfl fun _ _ _ _ _ _ us hl => match us, hl with | [_, _], _ => rfl
  have D_argument_fits : C8.Def K mg "argument_fits" s_argument_fits _ _ := ⟨⟨⟨_, _, _, _, _, _, _, _, _, _, rfl, l_argument_fits, c_argument_fits⟩⟩, PySem.W.mg_of X G a_argument_fits, k_argument_fits⟩
  have b_argument_fits : Binds K _ ["instruction", "slots", "moves"] [] := C8.Fun.binds D_argument_fits.fn rfl fun _ _ _ _ _ _ us hl => match us, hl with | [_, _, _], _ => rfl
  have D_targets_of : C8.Def K mg "targets_of" s_targets_of _ _ := ⟨⟨⟨_, _, _, _, _, _, _, _, _, _, rfl, l_targets_of, c_targets_of⟩⟩, PySem.W.mg_of X G a_targets_of, k_targets_of⟩
  have b_targets_of : Binds K _ ["at", "instruction"] [] := C8.Fun.binds D_targets_of.fn rfl fun _ _ _ _ _ _ us hl => match us, hl with | [_, _], _ => rfl
  have D_check_code : C8.Def K mg "check_code" s_check_code _ _ := ⟨⟨⟨_, _, _, _, _, _, _, _, _, _, rfl, l_check_code, c_check_code⟩⟩, PySem.W.mg_of X G a_check_code, k_check_code⟩
  have FD_check_code : FunD K "check_code" "check_code" (fnArgs s_check_code) (fnBody s_check_code) (fnScope s_check_code) [] [("thinking", .bl false)] f_check_code _ := ⟨⟨_, _, _, _, _, _, _, _, _, _, rfl, l_check_code, c_check_code, .inl ⟨rfl, rfl⟩, .inr ⟨_, rfl, fun q hq => by rw [List.mem_singleton] at hq; subst hq; exact ⟨_, kd_check_code, rfl⟩⟩⟩, k_check_code⟩
  obtain ⟨ds1_check_code, v1_check_code, b1_check_code⟩ := FD_check_code.binds0 (ps := ["code", "slots", "moves", "thinking"]) 3 (by simp) rfl (fun _ _ _ _ _ _ us ks hu hk => match us, hu, ks, hk with | [_, _, _], _, [_], _ => ⟨_, _, _, _, _, _, rfl, rfl, rfl⟩)
  obtain ⟨its_check_code, kb_check_code⟩ := FD_check_code.kbinds0 (ps := ["code", "slots", "moves", "thinking"]) 3 ["thinking"] [] (fun us _ ws => us ++ ws) (by simp) (fun _ h => nomatch h) (fun h1 _ h3 => h1.append h3) (fun _ _ _ _ _ _ us mv ws hu hm hw => match us, hu, mv, hm, ws, hw with | [_, _, _], _, [], _, [_], _ => rfl)
  have D_law_names_of_code : C8.Def K mg "_law_names_of_code" s_law_names_of_code _ _ := ⟨⟨⟨_, _, _, _, _, _, _, _, _, _, rfl, l_law_names_of_code, c_law_names_of_code⟩⟩, PySem.W.mg_of X G a_law_names_of_code, k_law_names_of_code⟩
  have b_law_names_of_code : Binds K _ [] [] := C8.Fun.binds D_law_names_of_code.fn rfl fun _ _ _ _ _ _ us hl => match us, hl with | [], _ => rfl
  have D_law_takes : C8.Def K mg "_law_takes" s_law_takes _ _ := ⟨⟨⟨_, _, _, _, _, _, _, _, _, _, rfl, l_law_takes, c_law_takes⟩⟩, PySem.W.mg_of X G a_law_takes, k_law_takes⟩
  have b_law_takes : Binds K _ ["name"] [] := C8.Fun.binds D_law_takes.fn rfl fun _ _ _ _ _ _ us hl => match us, hl with | [_], _ => rfl
  have D_law_argument : C8.Def K mg "_law_argument" s_law_argument _ _ := ⟨⟨⟨_, _, _, _, _, _, _, _, _, _, rfl, l_law_argument, c_law_argument⟩⟩, PySem.W.mg_of X G a_law_argument, k_law_argument⟩
  have b_law_argument : Binds K _ ["pair", "slots", "moves"] [] := C8.Fun.binds D_law_argument.fn rfl fun _ _ _ _ _ _ us hl => match us, hl with | [_, _, _], _ => rfl
  have D_law_targets : C8.Def K mg "_law_targets" s_law_targets _ _ := ⟨⟨⟨_, _, _, _, _, _, _, _, _, _, rfl, l_law_targets, c_law_targets⟩⟩, PySem.W.mg_of X G a_law_targets, k_law_targets⟩
  have b_law_targets : Binds K _ ["at", "pair"] [] := C8.Fun.binds D_law_targets.fn rfl fun _ _ _ _ _ _ us hl => match us, hl with | [_, _], _ => rfl
  have D_law_checked : C8.Def K mg "_law_checked" s_law_checked _ _ := ⟨⟨⟨_, _, _, _, _, _, _, _, _, _, rfl, l_law_checked, c_law_checked⟩⟩, PySem.W.mg_of X G a_law_checked, k_law_checked⟩
  have b_law_checked : Binds K _ ["code", "slots", "moves", "brain"] [] := C8.Fun.binds D_law_checked.fn rfl fun _ _ _ _ _ _ us hl => match us, hl with | [_, _, _, _], _ => rfl
  have D_law_told : C8.Def K mg "_law_told" s_law_told _ _ := ⟨⟨⟨_, _, _, _, _, _, _, _, _, _, rfl, l_law_told, c_law_told⟩⟩, PySem.W.mg_of X G a_law_told, k_law_told⟩
  have b_law_told : Binds K _ ["code", "slots", "moves", "brain"] [] := C8.Fun.binds D_law_told.fn rfl fun _ _ _ _ _ _ us hl => match us, hl with | [_, _, _, _], _ => rfl
  have D_law_some_value : C8.Def K mg "_law_some_value" s_law_some_value _ _ := ⟨⟨⟨_, _, _, _, _, _, _, _, _, _, rfl, l_law_some_value, c_law_some_value⟩⟩, PySem.W.mg_of X G a_law_some_value, k_law_some_value⟩
  have b_law_some_value : Binds K _ ["pool", "slots", "moves", "brain", "deep"] [] := C8.Fun.binds D_law_some_value.fn rfl fun _ _ _ _ _ _ us hl => match us, hl with | [_, _, _, _, _], _ => rfl
  have D_law_some_code : C8.Def K mg "_law_some_code" s_law_some_code _ _ := ⟨⟨⟨_, _, _, _, _, _, _, _, _, _, rfl, l_law_some_code, c_law_some_code⟩⟩, PySem.W.mg_of X G a_law_some_code, k_law_some_code⟩
  have b_law_some_code : Binds K _ ["pool", "slots", "moves", "brain", "deep"] [] := C8.Fun.binds D_law_some_code.fn rfl fun _ _ _ _ _ _ us hl => match us, hl with | [_, _, _, _, _], _ => rfl
  have D_law_whole_code : C8.Def K mg "_law_whole_code" s_law_whole_code _ _ := ⟨⟨⟨_, _, _, _, _, _, _, _, _, _, rfl, l_law_whole_code, c_law_whole_code⟩⟩, PySem.W.mg_of X G a_law_whole_code, k_law_whole_code⟩
  have b_law_whole_code : Binds K _ ["pool", "slots", "moves", "brain"] [] := C8.Fun.binds D_law_whole_code.fn rfl fun _ _ _ _ _ _ us hl => match us, hl with | [_, _, _, _], _ => rfl
  have D_law_any : C8.Def K mg "_law_any" s_law_any _ _ := ⟨⟨⟨_, _, _, _, _, _, _, _, _, _, rfl, l_law_any, c_law_any⟩⟩, PySem.W.mg_of X G a_law_any, k_law_any⟩
  have b_law_any : Binds K _ ["pool"] [] := C8.Fun.binds D_law_any.fn rfl fun _ _ _ _ _ _ us hl => match us, hl with | [_], _ => rfl
  have D_law_spoilt : C8.Def K mg "_law_spoilt" s_law_spoilt _ _ := ⟨⟨⟨_, _, _, _, _, _, _, _, _, _, rfl, l_law_spoilt, c_law_spoilt⟩⟩, PySem.W.mg_of X G a_law_spoilt, k_law_spoilt⟩
  have b_law_spoilt : Binds K _ ["pool", "code", "slots", "moves"] [] := C8.Fun.binds D_law_spoilt.fn rfl fun _ _ _ _ _ _ us hl => match us, hl with | [_, _, _, _], _ => rfl
  have F_law : C8.Fun K "law" "law" s_law _ _ := ⟨⟨_, _, _, _, _, _, _, _, _, _, rfl, l_law, c_law⟩⟩
  refine ⟨PySem.W.fnOf "law" "law" (fnArgs s_law) (fnBody s_law) (fnScope s_law) .none kV_law dc_law pm_law an_law cd_law ct_law, fun s v => .of_eq rfl, fun base _ _ => ?_⟩
  have c_law_pool := ok_law_pool (P := l.prog) (w := w) (base := base) D_law_pool b_law_pool T
  have c_law_draw := ok_law_draw (P := l.prog) (w := w) (base := base) D_law_draw b_law_draw T
  have c_law_spend := ok_law_spend (P := l.prog) (w := w) (base := base) D_law_spend b_law_spend T
  have c_law_few := ok_law_few D_law_few b_law_few T c_law_draw
  have c_law_number := ok_law_number D_law_number b_law_number T c_law_draw
  have c_law_same0 := ok_law_same0 (P := l.prog) (w := w) (base := base) D_law_same b_law_same
  have c_law_same1 := ok_law_same D_law_same b_law_same T c_law_same0
  have c_law_same := ok_law_same D_law_same b_law_same T c_law_same1
  have c_argument_fits := ok_fits (P := l.prog) (w := w) (base := base) D_argument_fits b_argument_fits T
  have c_targets_of := ok_tgts (P := l.prog) (w := w) (base := base) D_targets_of b_targets_of T
  have c_Checker := ok_chk_init (P := l.prog) (w := w) (base := base) M_Checker F_Checker___init b_Checker___init T
  have c_Checker_reaches := ok_reaches (P := l.prog) (w := w) (base := base) M_Checker_reaches F_Checker_reaches b_Checker_reaches T
  have c_Checker_returns := ok_returns (P := l.prog) (w := w) (base := base) M_Checker_returns F_Checker_returns b_Checker_returns T
  have hE : EffOk K w T_EFFECTS := effOk lT_EFFECTS kl_EFFECTS fun n hn => by
    have hn' : n = "push" ∨ n = "load" ∨ n = "store" ∨ n = "sign" ∨ n = "jump" ∨ n = "skip" ∨ n = "lot" ∨ n = "ask" ∨ n = "show" ∨ n = "pay" ∨ n = "take" ∨ n = "view" ∨ n = "long" ∨ n = "unit" ∨ n = "back" ∨ n = "end" := allNm_or n hn
    rcases hn' with rfl | rfl | rfl | rfl | rfl | rfl | rfl | rfl | rfl | rfl | rfl | rfl | rfl | rfl | rfl | rfl
    · exact ⟨_, gp_EFFECTS_0, _, _, _, _, lp_EFFECTS_0⟩
    · exact ⟨_, gp_EFFECTS_1, _, _, _, _, lp_EFFECTS_1⟩
    · exact ⟨_, gp_EFFECTS_2, _, _, _, _, lp_EFFECTS_2⟩
    · exact ⟨_, gp_EFFECTS_3, _, _, _, _, lp_EFFECTS_3⟩
    · exact ⟨_, gp_EFFECTS_4, _, _, _, _, lp_EFFECTS_4⟩
    · exact ⟨_, gp_EFFECTS_5, _, _, _, _, lp_EFFECTS_5⟩
    · exact ⟨_, gp_EFFECTS_6, _, _, _, _, lp_EFFECTS_6⟩
    · exact ⟨_, gp_EFFECTS_7, _, _, _, _, lp_EFFECTS_7⟩
    · exact ⟨_, gp_EFFECTS_8, _, _, _, _, lp_EFFECTS_8⟩
    · exact ⟨_, gp_EFFECTS_9, _, _, _, _, lp_EFFECTS_9⟩
    · exact ⟨_, gp_EFFECTS_10, _, _, _, _, lp_EFFECTS_10⟩
    · exact ⟨_, gp_EFFECTS_11, _, _, _, _, lp_EFFECTS_11⟩
    · exact ⟨_, gp_EFFECTS_12, _, _, _, _, lp_EFFECTS_12⟩
    · exact ⟨_, gp_EFFECTS_13, _, _, _, _, lp_EFFECTS_13⟩
    · exact ⟨_, gp_EFFECTS_14, _, _, _, _, lp_EFFECTS_14⟩
    · exact ⟨_, gp_EFFECTS_15, _, _, _, _, lp_EFFECTS_15⟩
  have c_Checker_good := ok_good (P := l.prog) (w := w) (base := base) M_Checker_good F_Checker_good b_Checker_good T hE c_argument_fits c_targets_of c_Checker_returns c_Checker_reaches
  have fn_check := ok_check D_check_code T X_BadCode c_Checker c_Checker_good
  have c_check_code := CalX.of (dvs := [.bl false]) D_check_code fn_check b1_check_code v1_check_code
  have c_check_code_thinking : CalXK l.prog w K mg base 3 "check_code" (sp_check C_BadCode) 3 ["thinking"] (fun vs zs => vs ++ zs) := ⟨_, _, _, _, fn_check, D_check_code.mgf, D_check_code.kp, kb_check_code⟩
  have c_law_names_of_code := ok_law_names (P := l.prog) (w := w) (base := base) D_law_names_of_code b_law_names_of_code T
  have c_law_takes := ok_law_takes (P := l.prog) (w := w) (base := base) D_law_takes b_law_takes T
  have c_law_argument := ok_law_argument (P := l.prog) (w := w) (base := base) D_law_argument b_law_argument T
  have c_law_targets := ok_law_targets (P := l.prog) (w := w) (base := base) D_law_targets b_law_targets T
  have c_law_checked := ok_law_checked D_law_checked b_law_checked T c_law_takes c_law_argument c_law_names_of_code c_law_targets
  have c_law_told := ok_law_told D_law_told b_law_told T c_check_code c_check_code_thinking
  have c_value0 := ok_value0 (P := l.prog) (w := w) (base := base) (k := 2) D_law_some_value b_law_some_value
  have c_value1 := ok_value D_law_some_value b_law_some_value T c_value0 (calUp c_law_draw (by decide)) (calUp c_law_spend (by decide)) (calUp c_law_number (by decide))
  have c_value2 := ok_value D_law_some_value b_law_some_value T c_value1 (calUp c_law_draw (by decide)) (calUp c_law_spend (by decide)) (calUp c_law_number (by decide))
  have c_value3 := ok_value D_law_some_value b_law_some_value T c_value2 (calUp c_law_draw (by decide)) (calUp c_law_spend (by decide)) (calUp c_law_number (by decide))
  have c_value4 := ok_value D_law_some_value b_law_some_value T c_value3 (calUp c_law_draw (by decide)) (calUp c_law_spend (by decide)) (calUp c_law_number (by decide))
  have c_law_some_value := ok_value D_law_some_value b_law_some_value T c_value4 (calUp c_law_draw (by decide)) (calUp c_law_spend (by decide)) (calUp c_law_number (by decide))
  have c_law_some_code := code_all D_law_some_code b_law_some_code T c_law_some_value c_law_draw c_law_spend c_law_few 41
  have c_law_whole_code := ok_whole D_law_whole_code b_law_whole_code T c_law_some_code c_law_some_value
  have c_law_any := ok_any D_law_any b_law_any T c_law_names_of_code c_law_draw c_law_few
  have c_law_spoilt := ok_spoilt D_law_spoilt b_law_spoilt T c_law_any c_law_draw
  exact ok_law F_law T c_law_pool c_law_draw c_law_whole_code c_law_spoilt c_law_checked c_law_told c_law_same
theorem walk {l : PySem.W.OpenLaw} {q : Program} {loose : List Str} {XP : (Str → Option Value) → Heap → Prop} {YP : World → Heap → Prop} {d : DefRec} {K : Params → PySem.W.Frag} (hn : l.most = some 63) (hdf : d.params.defaults = [])
    (hY : ∀ (w : World) (h : Heap), YP w h → (K w.params).In h)
    (F : ∀ (w : World) (mg : Str → Option Value) (fa : Addr) (h : Heap), (K w.params).In h → h.Ns mainGlobals mg → mg d.name = some (.ref fa) →
      ∃ fd : FuncData, (∀ (s : Shared) (u : Value), BindsTo s fd ⟨[u], []⟩ [("script", u)]) ∧ ∀ base : Heap, (K w.params).In base → base.Ns mainGlobals mg → FnOk l.prog w (K w.params) mg base C8.CX0 50 fa fd ["script"] (sp_law (K w.params))) :
    PySem.W.WalkO q loose XP YP l.row.toRowW d [] (fun f vs => PySem.call f vs) :=
  L2.walk_ofB (n := 63) (k := 50) (x := "script") (CX := fun _ => C8.CX0) (sp := fun w => sp_law (K w.params)) hn (by decide) hdf ⟨rfl, by decide, by decide⟩ hY F (fun _ _ a ns hl hb _ hS => ⟨a, ns, rfl, hS, fun _ => rfl⟩) fun _ _ _ _ _ z => z
end My
open PySem PySem.W PyProof.Rows
set_option maxRecDepth 100000 in
set_option maxHeartbeats 0 in
theorem PySem.Challenge.cw_bothgain_k72_codes_that_pass_the_check_holds : PySem.Challenge.rw_bothgain_k72_codes_that_pass_the_check.Holds := by
  w_on; o_law; k_head; (case hw => w_witness2)
  k_fill
  refine My.walk (l := PySem.Challenge.rw_bothgain_k72_codes_that_pass_the_check) rfl rfl (fun w h Y => PySem.W.kIn_of Y) ?F
  case F =>
    intro w mg fa h KX G hmg
    refine' My.all_mk KX G hmg ?a_law_pool ?l_law_pool ?c_law_pool ?k_law_pool ?a_law_draw ?l_law_draw ?c_law_draw ?k_law_draw ?a_law_spend ?l_law_spend ?c_law_spend ?k_law_spend ?a_law_few ?l_law_few ?c_law_few ?k_law_few ?a_law_number ?l_law_number ?c_law_number ?k_law_number ?a_law_same ?l_law_same ?c_law_same ?k_law_same ?a_argument_fits ?l_argument_fits ?c_argument_fits ?k_argument_fits ?a_targets_of ?l_targets_of ?c_targets_of ?k_targets_of ?a_check_code ?l_check_code ?c_check_code ?k_check_code ?kd_check_code ?a_law_names_of_code ?l_law_names_of_code ?c_law_names_of_code ?k_law_names_of_code ?a_law_takes ?l_law_takes ?c_law_takes ?k_law_takes ?a_law_argument ?l_law_argument ?c_law_argument ?k_law_argument ?a_law_targets ?l_law_targets ?c_law_targets ?k_law_targets ?a_law_checked ?l_law_checked ?c_law_checked ?k_law_checked ?a_law_told ?l_law_told ?c_law_told ?k_law_told ?a_law_some_value ?l_law_some_value ?c_law_some_value ?k_law_some_value ?a_law_some_code ?l_law_some_code ?c_law_some_code ?k_law_some_code ?a_law_whole_code ?l_law_whole_code ?c_law_whole_code ?k_law_whole_code ?a_law_any ?l_law_any ?c_law_any ?k_law_any ?a_law_spoilt ?l_law_spoilt ?c_law_spoilt ?k_law_spoilt ?a_law ?l_law ?c_law ?k_law ?mc_Checker ?pg_Checker ?hd_Checker ?po_Checker ?sa_Checker ?mk_Checker ?kc_Checker ?ha_Checker ?hn_Checker ?ht_Checker ?hm_Checker ?ncode_Checker ?nslots_Checker ?nmoves_Checker ?nthinking_Checker ?nheights_Checker ?nhighest_Checker ?a_Checker___init ?i_Checker___init ?l_Checker___init ?c_Checker___init ?k_Checker___init ?a_Checker_reaches ?i_Checker_reaches ?l_Checker_reaches ?c_Checker_reaches ?k_Checker_reaches ?a_Checker_returns ?i_Checker_returns ?l_Checker_returns ?c_Checker_returns ?k_Checker_returns ?a_Checker_good ?i_Checker_good ?l_Checker_good ?c_Checker_good ?k_Checker_good ?mc_GameError ?mc_BadText ?mc_TooLarge ?mc_BadMove ?mc_BadCode ?opq ?zsup ?ptop ?xsp ?xtk ?xL_BadCode ?al_BadCode ?ve_BadCode ?sa_BadCode ?ga_BadCode ?gg_BadCode ?nb_BadCode ?iC_BadCode ?tf_BadCode ?kC_BadCode ?eC_BadCode ?tC_BadCode ?hC_BadCode ?mo_BadCode ?ma_BadCode ?ca_BadCode ?ss_BadCode ?lf_BadCode ?cf_BadCode ?lc_BadCode ?ld_BadCode ?vf_BadCode ?fe_BadCode ?hkit1 ?hkit2 ?z_GREATEST ?z_SIGNS ?lT_SIGNS ?z_HIGHEST ?z_ROUND_NAMES ?lT_ROUND_NAMES ?z_BRAIN_NAMES ?lT_BRAIN_NAMES ?z_EFFECTS ?lT_EFFECTS ?kl_EFFECTS ?gp_EFFECTS_0 ?lp_EFFECTS_0 ?gp_EFFECTS_1 ?lp_EFFECTS_1 ?gp_EFFECTS_2 ?lp_EFFECTS_2 ?gp_EFFECTS_3 ?lp_EFFECTS_3 ?gp_EFFECTS_4 ?lp_EFFECTS_4 ?gp_EFFECTS_5 ?lp_EFFECTS_5 ?gp_EFFECTS_6 ?lp_EFFECTS_6 ?gp_EFFECTS_7 ?lp_EFFECTS_7 ?gp_EFFECTS_8 ?lp_EFFECTS_8 ?gp_EFFECTS_9 ?lp_EFFECTS_9 ?gp_EFFECTS_10 ?lp_EFFECTS_10 ?gp_EFFECTS_11 ?lp_EFFECTS_11 ?gp_EFFECTS_12 ?lp_EFFECTS_12 ?gp_EFFECTS_13 ?lp_EFFECTS_13 ?gp_EFFECTS_14 ?lp_EFFECTS_14 ?gp_EFFECTS_15 ?lp_EFFECTS_15 ?z_bool ?z_int ?z_isinstance ?z_len ?z_list ?z_max ?z_min ?z_ord ?z_range ?z_str ?z_tuple
    (case a_law_pool => k_is)
    (case l_law_pool => k_is)
    (case c_law_pool => k_is)
    (case k_law_pool => k_is)
    (case a_law_draw => k_is)
    (case l_law_draw => k_is)
    (case c_law_draw => k_is)
    (case k_law_draw => k_is)
    (case a_law_spend => k_is)
    (case l_law_spend => k_is)
    (case c_law_spend => k_is)
    (case k_law_spend => k_is)
    (case a_law_few => k_is)
    (case l_law_few => k_is)
    (case c_law_few => k_is)
    (case k_law_few => k_is)
    (case a_law_number => k_is)
    (case l_law_number => k_is)
    (case c_law_number => k_is)
    (case k_law_number => k_is)
    (case a_law_same => k_is)
    (case l_law_same => k_is)
    (case c_law_same => k_is)
    (case k_law_same => k_is)
    (case a_argument_fits => k_is)
    (case l_argument_fits => k_is)
    (case c_argument_fits => k_is)
    (case k_argument_fits => k_is)
    (case a_targets_of => k_is)
    (case l_targets_of => k_is)
    (case c_targets_of => k_is)
    (case k_targets_of => k_is)
    (case a_check_code => k_is)
    (case l_check_code => k_is)
    (case c_check_code => k_is)
    (case k_check_code => k_is)
    (case kd_check_code => k_is)
    (case a_law_names_of_code => k_is)
    (case l_law_names_of_code => k_is)
    (case c_law_names_of_code => k_is)
    (case k_law_names_of_code => k_is)
    (case a_law_takes => k_is)
    (case l_law_takes => k_is)
    (case c_law_takes => k_is)
    (case k_law_takes => k_is)
    (case a_law_argument => k_is)
    (case l_law_argument => k_is)
    (case c_law_argument => k_is)
    (case k_law_argument => k_is)
    (case a_law_targets => k_is)
    (case l_law_targets => k_is)
    (case c_law_targets => k_is)
    (case k_law_targets => k_is)
    (case a_law_checked => k_is)
    (case l_law_checked => k_is)
    (case c_law_checked => k_is)
    (case k_law_checked => k_is)
    (case a_law_told => k_is)
    (case l_law_told => k_is)
    (case c_law_told => k_is)
    (case k_law_told => k_is)
    (case a_law_some_value => k_is)
    (case l_law_some_value => k_is)
    (case c_law_some_value => k_is)
    (case k_law_some_value => k_is)
    (case a_law_some_code => k_is)
    (case l_law_some_code => k_is)
    (case c_law_some_code => k_is)
    (case k_law_some_code => k_is)
    (case a_law_whole_code => k_is)
    (case l_law_whole_code => k_is)
    (case c_law_whole_code => k_is)
    (case k_law_whole_code => k_is)
    (case a_law_any => k_is)
    (case l_law_any => k_is)
    (case c_law_any => k_is)
    (case k_law_any => k_is)
    (case a_law_spoilt => k_is)
    (case l_law_spoilt => k_is)
    (case c_law_spoilt => k_is)
    (case k_law_spoilt => k_is)
    (case a_law => k_is)
    (case l_law => k_is)
    (case c_law => k_is)
    (case k_law => k_is)
    (case mc_Checker => k_is)
    (case pg_Checker => k_is)
    (case hd_Checker => k_is)
    (case po_Checker => k_is)
    (case sa_Checker => k_is)
    (case mk_Checker => k_is)
    (case kc_Checker => k_is)
    (case ha_Checker => k_is)
    (case hn_Checker => k_is)
    (case ht_Checker => k_is)
    (case hm_Checker => k_is)
    (case ncode_Checker => k_is)
    (case nslots_Checker => k_is)
    (case nmoves_Checker => k_is)
    (case nthinking_Checker => k_is)
    (case nheights_Checker => k_is)
    (case nhighest_Checker => k_is)
    (case a_Checker___init => k_is)
    (case i_Checker___init => k_is)
    (case l_Checker___init => k_is)
    (case c_Checker___init => k_is)
    (case k_Checker___init => k_is)
    (case a_Checker_reaches => k_is)
    (case i_Checker_reaches => k_is)
    (case l_Checker_reaches => k_is)
    (case c_Checker_reaches => k_is)
    (case k_Checker_reaches => k_is)
    (case a_Checker_returns => k_is)
    (case i_Checker_returns => k_is)
    (case l_Checker_returns => k_is)
    (case c_Checker_returns => k_is)
    (case k_Checker_returns => k_is)
    (case a_Checker_good => k_is)
    (case i_Checker_good => k_is)
    (case l_Checker_good => k_is)
    (case c_Checker_good => k_is)
    (case k_Checker_good => k_is)
    (case mc_GameError => k_is)
    (case mc_BadText => k_is)
    (case mc_TooLarge => k_is)
    (case mc_BadMove => k_is)
    (case mc_BadCode => k_is)
    (case opq => first | k_is | rfl | decide +kernel)
    (case zsup => k_is)
    (case ptop => first | k_is | rfl | decide +kernel)
    (case xsp => k_is)
    (case xtk => k_is)
    (case xL_BadCode => k_is)
    (case al_BadCode => first | k_is | rfl | decide +kernel)
    (case ve_BadCode => k_is)
    (case sa_BadCode => k_is)
    (case ga_BadCode => k_is)
    (case gg_BadCode => k_is)
    (case nb_BadCode => k_is)
    (case iC_BadCode => k_is)
    (case tf_BadCode => k_is)
    (case kC_BadCode => k_is)
    (case eC_BadCode => k_is)
    (case tC_BadCode => k_is)
    (case hC_BadCode => k_is)
    (case mo_BadCode => k_is)
    (case ma_BadCode => k_is)
    (case ca_BadCode => k_is)
    (case ss_BadCode => first | k_is | rfl | decide +kernel)
    (case lf_BadCode => k_is)
    (case cf_BadCode => k_is)
    (case lc_BadCode => k_is)
    (case ld_BadCode => k_is)
    (case vf_BadCode => first | k_is | rfl | decide +kernel)
    (case fe_BadCode => first | k_is | rfl | decide +kernel)
    (case hkit1 => first | k_is | kit_is | rfl | decide +kernel)
    (case hkit2 => first | k_is | kit_is | rfl | decide +kernel)
    (case z_GREATEST => k_is)
    (case z_SIGNS => k_is)
    (case lT_SIGNS => k_is)
    (case z_HIGHEST => k_is)
    (case z_ROUND_NAMES => k_is)
    (case lT_ROUND_NAMES => k_is)
    (case z_BRAIN_NAMES => k_is)
    (case lT_BRAIN_NAMES => k_is)
    (case z_EFFECTS => k_is)
    (case lT_EFFECTS => k_is)
    (case kl_EFFECTS => exact ⟨⟨_, _, rfl, rfl⟩, ⟨_, _, rfl, rfl⟩, ⟨_, _, rfl, rfl⟩, ⟨_, _, rfl, rfl⟩, ⟨_, _, rfl, rfl⟩, ⟨_, _, rfl, rfl⟩, ⟨_, _, rfl, rfl⟩, ⟨_, _, rfl, rfl⟩, ⟨_, _, rfl, rfl⟩, ⟨_, _, rfl, rfl⟩, ⟨_, _, rfl, rfl⟩, ⟨_, _, rfl, rfl⟩, ⟨_, _, rfl, rfl⟩, ⟨_, _, rfl, rfl⟩, ⟨_, _, rfl, rfl⟩, ⟨_, _, rfl, rfl⟩, trivial⟩)
    (case gp_EFFECTS_0 => k_is)
    (case lp_EFFECTS_0 => k_is)
    (case gp_EFFECTS_1 => k_is)
    (case lp_EFFECTS_1 => k_is)
    (case gp_EFFECTS_2 => k_is)
    (case lp_EFFECTS_2 => k_is)
    (case gp_EFFECTS_3 => k_is)
    (case lp_EFFECTS_3 => k_is)
    (case gp_EFFECTS_4 => k_is)
    (case lp_EFFECTS_4 => k_is)
    (case gp_EFFECTS_5 => k_is)
    (case lp_EFFECTS_5 => k_is)
    (case gp_EFFECTS_6 => k_is)
    (case lp_EFFECTS_6 => k_is)
    (case gp_EFFECTS_7 => k_is)
    (case lp_EFFECTS_7 => k_is)
    (case gp_EFFECTS_8 => k_is)
    (case lp_EFFECTS_8 => k_is)
    (case gp_EFFECTS_9 => k_is)
    (case lp_EFFECTS_9 => k_is)
    (case gp_EFFECTS_10 => k_is)
    (case lp_EFFECTS_10 => k_is)
    (case gp_EFFECTS_11 => k_is)
    (case lp_EFFECTS_11 => k_is)
    (case gp_EFFECTS_12 => k_is)
    (case lp_EFFECTS_12 => k_is)
    (case gp_EFFECTS_13 => k_is)
    (case lp_EFFECTS_13 => k_is)
    (case gp_EFFECTS_14 => k_is)
    (case lp_EFFECTS_14 => k_is)
    (case gp_EFFECTS_15 => k_is)
    (case lp_EFFECTS_15 => k_is)
    (case z_bool => k_is)
    (case z_int => k_is)
    (case z_isinstance => k_is)
    (case z_len => k_is)
    (case z_list => k_is)
    (case z_max => k_is)
    (case z_min => k_is)
    (case z_ord => k_is)
    (case z_range => k_is)
    (case z_str => k_is)
    (case z_tuple => k_is)

