
import PyProof.Rows.All
import Wide.All
import OpenK.AllK
import Wide.FinOn
import HandS.ForMost
import HandS.Codes
import HandS.IsInst
import HandS.EndBits
import HandS.Walk
import HandS.DeepEq
import HandS.Gcd
import HandS.Wide
import HandS.Defaults
import HandS.OwnEq
import HandS.Dict
import HandS.WordsDict
import HandS.Star
import HandS.Strs
import HandS.RaiseMore
import HandS.More
import HandS.ForExc
import HandS.ExcIs
import HandS.ExcField
import KE.KExcSuper
import KE.KSuper
import HandS.TryMany
import HandS.ExcInit
import HandS.CallSlots
import HandS.WrittenGet
import HandS.Iter
import HandS.Property
import HandS.MakeKwOnly
import HandS.Style
import KE.RegKIsAll
import PySem.Challenge.RW_bothgain_k13_expressions_read_and_writte
set_option Elab.async false
set_option linter.all false
set_option maxRecDepth 100000
set_option maxHeartbeats 4000000
set_option pp.maxSteps 400

namespace My
open PySem L2 C8 SX
/-! own base: tests, heaps -/
theorem bo_len : bootBuiltins "len" = some (.builtin "len") := by decide +kernel
theorem bo_isinstance : bootBuiltins "isinstance" = some (.builtin "isinstance") := by decide +kernel
theorem bo_min : bootBuiltins "min" = some (.builtin "min") := by decide +kernel
theorem bo_max : bootBuiltins "max" = some (.builtin "max") := by decide +kernel
theorem bo_abs : bootBuiltins "abs" = some (.builtin "abs") := by decide +kernel
theorem bo_int : bootBuiltins "int" = some (.type "int") := by decide +kernel
theorem bo_str : bootBuiltins "str" = some (.type "str") := by decide +kernel
theorem bo_bool : bootBuiltins "bool" = some (.type "bool") := by decide +kernel
theorem bo_list : bootBuiltins "list" = some (.type "list") := by decide +kernel
theorem bo_ord : bootBuiltins "ord" = some (.builtin "ord") := by decide +kernel
theorem bo_chr : bootBuiltins "chr" = some (.builtin "chr") := by decide +kernel
theorem bo_sum : bootBuiltins "sum" = some (.builtin "sum") := by decide +kernel
theorem bo_all : bootBuiltins "all" = some (.builtin "all") := by decide +kernel
theorem bo_any : bootBuiltins "any" = some (.builtin "any") := by decide +kernel
theorem bo_sorted : bootBuiltins "sorted" = some (.builtin "sorted") := by decide +kernel
theorem bo_dict : bootBuiltins "dict" = some (.type "dict") := by decide +kernel
theorem bo_tuple : bootBuiltins "tuple" = some (.type "tuple") := by decide +kernel
theorem iteD {p A B : Prop} [Decidable p] (h1 : p → A) (h2 : ¬ p → B) : if decide p = true then A else B := by
  by_cases h : p
  · rw [decide_eq_true h]; exact iteT (h1 h)
  · rw [decide_eq_false h]; exact iteF (h2 h)
theorem iteN {p A B : Prop} [Decidable p] (h1 : ¬ p → A) (h2 : p → B) : if (!decide p) = true then A else B := by
  by_cases h : p
  · rw [decide_eq_true h]; exact iteF (h2 h)
  · rw [decide_eq_false h]; exact iteT (h1 h)
theorem iteDT {p A B : Prop} [Decidable p] (h : p) (k : A) : if decide p = true then A else B := iteD (fun _ => k) fun z => absurd h z
theorem iteDF {p A B : Prop} [Decidable p] (h : ¬ p) (k : B) : if decide p = true then A else B := iteD (fun z => absurd z h) fun _ => k
theorem iteNT {p A B : Prop} [Decidable p] (h : ¬ p) (k : A) : if (!decide p) = true then A else B := iteN (fun _ => k) fun z => absurd z h
theorem iteNF {p A B : Prop} [Decidable p] (h : p) (k : B) : if (!decide p) = true then A else B := iteN (fun z => absurd h z) fun _ => k
theorem iteB {b : Bool} {A B : Prop} (h1 : b = true → A) (h2 : b = false → B) : if b = true then A else B := by
  cases b with
  | true => exact iteT (h1 rfl)
  | false => exact iteF (h2 rfl)
/-- in a comprehension without a test -/
theorem yes_then {σ : St} {H : Hp} {F G : Hp → Prop} (h : F H) : tYes σ H (fun b H3 => if b = true then F H3 else G H3) := h
/-- all that was tracked stands, but at W -/
def Keep (W : List Addr) (H H' : Hp) : Prop := ∀ b o, H b = some o → b ∉ W → H' b = some o
theorem Keep.refl (W : List Addr) (H : Hp) : Keep W H H := fun _ _ h _ => h
theorem Keep.trans {W : List Addr} {H H1 H2 : Hp} (a : Keep W H H1) (b : Keep W H1 H2) : Keep W H H2 := fun c o h w => b c o (a c o h w) w
theorem Keep.mono {W W' : List Addr} {H H1 : Hp} (a : Keep W H H1) (h : ∀ b, b ∈ W → b ∈ W') : Keep W' H H1 := fun c o q w => a c o q fun z => w (h c z)
theorem Keep.new {W : List Addr} {H : Hp} {p : Addr} {o : HO} (h : H p = none) : Keep W H (upd H p o) := fun b u q _ => by
  rw [upd_ne (ne_of_none q h)]; exact q
theorem Keep.at_ {W : List Addr} {H : Hp} {p : Addr} {o : HO} (h : p ∈ W) : Keep W H (upd H p o) := fun b u q w => by
  rw [upd_ne (fun z => w (by rw [z]; exact h))]; exact q
theorem Keep.then_new {W : List Addr} {H H1 : Hp} {p : Addr} {o : HO} (a : Keep W H H1) (h : H1 p = none) : Keep W H (upd H1 p o) := a.trans (Keep.new h)
theorem Keep.then_at {W : List Addr} {H H1 : Hp} {p : Addr} {o : HO} (a : Keep W H H1) (h : p ∈ W) : Keep W H (upd H1 p o) := a.trans (Keep.at_ h)
/-- what was new since H is not among the kept -/
theorem Keep.then_own {W : List Addr} {H H1 : Hp} {p : Addr} {o : HO} (a : Keep W H H1) (h : H p = none) : Keep W H (upd H1 p o) := fun b u q w => by
  rw [upd_ne (ne_of_none q h)]; exact a b u q w
theorem Keep.free {H H' : Hp} (e : Keep [] H H') {l : Addr} (h : H' l = none) : H l = none := by
  cases q : H l with
  | none => rfl
  | some o => rw [e l o q (by simp)] at h; cases h
theorem Keep.free1 {H H' : Hp} {p : Addr} {o : HO} (e : Keep [p] H H') (hp : H' p = some o) {l : Addr} (h : H' l = none) : H l = none := by
  cases q : H l with
  | none => rfl
  | some u =>
    by_cases z : l = p
    · subst z; rw [hp] at h; cases h
    · rw [e l u q (by simpa using z)] at h; cases h
theorem Keep.seqL {W : List Addr} {K : PySem.W.Frag} {H H' : Hp} {a : Addr} {xs : List V} (e : Keep W H H') (h : SqL K H a xs) (w : a ∉ W) : SqL K H' a xs := by
  rcases h with (h | ⟨o, h⟩) | h
  · exact .inl (.inl (e _ _ h w))
  · exact .inl (.inr ⟨o, e _ _ h w⟩)
  · exact .inr h
theorem Keep.seqT {W : List Addr} {K : PySem.W.Frag} {H H' : Hp} {a : Addr} {xs : List V} (e : Keep W H H') (h : SqT K H a xs) (w : a ∉ W) : SqT K H' a xs := by
  rcases h with (h | ⟨o, h⟩) | h
  · exact .inl (.inl (e _ _ h w))
  · exact .inl (.inr ⟨o, e _ _ h w⟩)
  · exact .inr h
theorem Keep.same {H H' : Hp} (e : Keep [] H H') : Same H H' := fun b o h => e b o h (by simp)
theorem ints_get {ns : List Int} {i : Nat} {v : V} (h : (ns.map V.int)[i]? = some v) : ∃ z, ns[i]? = some z ∧ v = V.int z := by
  rw [List.getElem?_map] at h
  cases e : ns[i]? with
  | none => rw [e] at h; cases h
  | some z => rw [e] at h; exact ⟨z, rfl, (Option.some.inj h).symm⟩
theorem strs_get {ns : List Str} {i : Nat} {v : V} (h : (ns.map V.str)[i]? = some v) : ∃ z, ns[i]? = some z ∧ v = V.str z := by
  rw [List.getElem?_map] at h
  cases e : ns[i]? with
  | none => rw [e] at h; cases h
  | some z => rw [e] at h; exact ⟨z, rfl, (Option.some.inj h).symm⟩
theorem smallM {n : Nat} (h : n ≤ 1000000) : n ≤ sizeLine := Nat.le_trans h (by decide)
theorem smallL {n : Nat} (h : n ≤ 1000000) : n < sizeLine := Nat.lt_of_le_of_lt h (by decide)
/-- a promise that asks the impossible: any def at all keeps it -/
def spNo : Sp := fun _ _ _ _ => False
/-! the same rules with the written part named (within a comprehension) -/
section
variable {X : Cx} {K : PySem.W.Frag}
theorem pe_fldK {e : Expr} {f : Str} {pos : Pos} {ta : TE} (he : PE X e ta) (hb : attributeBase e f X.env (eval e X.env) = eval e X.env) (hK : X.K = K := by rfl) : PE X (.Attribute e f pos) (tFld K ta f) := hK ▸ pe_fld he hb
theorem ix_listK (hK : X.K = K := by rfl) : IxR X (rIxL K) := hK ▸ ix_list
theorem ix_tupK (hK : X.K = K := by rfl) : IxR X (rIxT K) := hK ▸ ix_tup
theorem sl_listK (hK : X.K = K := by rfl) : SlR X (rSlL K) := hK ▸ sl_list
theorem sl_tupK (hK : X.K = K := by rfl) : SlR X (rSlT K) := hK ▸ sl_tup
theorem call_len_seqK (hK : X.K = K := by rfl) : CallR X (.builtin "len") (fun xs H Q => ∃ p ys, xs = [.ref p] ∧ (SqL K H p ys ∨ SqT K H p ys) ∧ Q (.int ys.length) H) := hK ▸ call_len_seq
theorem call_list_ofK (hK : X.K = K := by rfl) : CallR X (.type "list") (fun xs H Q => ∃ p ys, xs = [.ref p] ∧ (SqL K H p ys ∨ SqT K H p ys) ∧ ∀ l, H l = none → Q (.ref l) (upd H l (.lst ys))) := hK ▸ call_list_of
theorem call_isiK2 (hK : X.K = K := by rfl) : CallR X (.builtin "isinstance") (rIsi K) := hK ▸ call_isi
end
/-- behind the making of an instance -/
theorem keep_made {H H2 : Hp} {x dx : Addr} {o : HO} (hx : H x = none) (hd : H dx = none) (k : Keep [x] (upd (upd H dx (.own x)) x o) H2) : Keep [] H H2 := fun b u e _ =>
  k b u (by rw [upd_ne (ne_of_none e hx), upd_ne (ne_of_none e hd)]; exact e) (by simpa using ne_of_none e hx)
theorem kitSelf {K : PySem.W.Frag} {C : Addr} : PySem.W.kitOne K (.ref C) (.ref C) = some true := by
  unfold PySem.W.kitOne
  simp
/-- a call without arguments -/
theorem pe_c0 {X : Cx} {x : Str} {p pos : Pos} {k j : Nat} {sp : Sp} {dvs : List V} (c : C8.Cal X.prog X.w X.K X.mg X.base k x sp dvs) (hr : Room j X.A) (hk : k ≤ j) (hg : Gl X x) (hdb : (x == ("__debug__" : Str)) = false := by decide) :
    PE X (.Call (.Name x p) [] [] pos) (tCall sp dvs C8.E0 tNil) := by
  obtain ⟨f, fd, ps, ds, F, hm, kp, b, d⟩ := c.ex
  exact pe_call0 F (hr.mono hk) hg hm kp b d C8.pass0 hdb

/-! the text by places -/
def top (i : Nat) : Stmt := PySem.Challenge.pw_bothgain_k13_expressions_read_and_writte.main.body.getD i (.Pass ⟨0, 0, 0, 0⟩)
abbrev s_law_pool : Stmt := top 15
theorem sc_law_pool : FnScope ["script", "budget"] ["script", "budget"] (fnScope s_law_pool) := fnScope_by (by decide +kernel)
abbrev s_law_draw : Stmt := top 16
theorem sc_law_draw : FnScope ["pool", "size", "cell", "value"] ["pool", "size"] (fnScope s_law_draw) := fnScope_by (by decide +kernel)
abbrev s_law_spend : Stmt := top 17
theorem sc_law_spend : FnScope ["pool"] ["pool"] (fnScope s_law_spend) := fnScope_by (by decide +kernel)
abbrev s_law_few : Stmt := top 18
theorem sc_law_few : FnScope ["pool", "most", "few"] ["pool", "most"] (fnScope s_law_few) := fnScope_by (by decide +kernel)
abbrev s_law_number : Stmt := top 19
theorem sc_law_number : FnScope ["pool"] ["pool"] (fnScope s_law_number) := fnScope_by (by decide +kernel)
abbrev s_law_same : Stmt := top 20
theorem sc_law_same : FnScope ["actual", "due", "k"] ["actual", "due"] (fnScope s_law_same) := fnScope_by (by decide +kernel)
abbrev s_law_keys : Stmt := top 21
theorem sc_law_keys : FnScope ["text"] [] (fnScope s_law_keys) := fnScope_by (by decide +kernel)
abbrev s_law_name : Stmt := top 22
theorem sc_law_name : FnScope ["pool", "taken", "signs", "name", "k"] ["pool", "taken"] (fnScope s_law_name) := fnScope_by (by decide +kernel)
abbrev s_law_names : Stmt := top 23
theorem sc_law_names : FnScope ["pool", "most", "names", "k"] ["pool", "most"] (fnScope s_law_names) := fnScope_by (by decide +kernel)
abbrev s_BadText___init : Stmt := L2.inClass (top 3) 0
abbrev s_number_of : Stmt := top 7
theorem sc_number_of : FnScope ["word", "char", "number"] ["word"] (fnScope s_number_of) := fnScope_by (by decide +kernel)
abbrev s_Cursor___init : Stmt := L2.inClass (top 8) 0
theorem sc_Cursor___init : FnScope ["self", "words", "options", "variables", "sees"] ["self", "words", "options", "variables", "sees"] (fnScope s_Cursor___init) := fnScope_by (by decide +kernel)
abbrev s_Cursor_word : Stmt := L2.inClass (top 8) 1
theorem sc_Cursor_word : FnScope ["self"] ["self"] (fnScope s_Cursor_word) := fnScope_by (by decide +kernel)
abbrev s_Cursor_take_word : Stmt := L2.inClass (top 8) 2
theorem sc_Cursor_take_word : FnScope ["self", "word"] ["self", "word"] (fnScope s_Cursor_take_word) := fnScope_by (by decide +kernel)
abbrev s_Cursor_take_number : Stmt := L2.inClass (top 8) 3
theorem sc_Cursor_take_number : FnScope ["self", "least", "most", "word", "number"] ["self", "least", "most"] (fnScope s_Cursor_take_number) := fnScope_by (by decide +kernel)
abbrev s_Cursor_take_name : Stmt := L2.inClass (top 8) 4
theorem sc_Cursor_take_name : FnScope ["self", "names", "word"] ["self", "names"] (fnScope s_Cursor_take_name) := fnScope_by (by decide +kernel)
abbrev s_read_expression : Stmt := top 12
theorem sc_read_expression : FnScope ["cursor", "room", "word", "left", "right", "option"] ["cursor", "room"] (fnScope s_read_expression) := fnScope_by (by decide +kernel)
abbrev s_expression_words : Stmt := top 13
theorem sc_expression_words : FnScope ["expression", "kind", "words"] ["expression"] (fnScope s_expression_words) := fnScope_by (by decide +kernel)
abbrev s_law_expression : Stmt := top 24
theorem sc_law_expression : FnScope ["pool", "names", "picks", "brain", "deep", "kind", "pick", "left", "sign"] ["pool", "names", "picks", "brain", "deep"] (fnScope s_law_expression) := fnScope_by (by decide +kernel)
abbrev s_law_rows : Stmt := top 25
theorem sc_law_rows : FnScope ["due", "level", "rows"] ["due", "level"] (fnScope s_law_rows) := fnScope_by (by decide +kernel)
abbrev s_law_wrong : Stmt := top 26
theorem sc_law_wrong : FnScope ["row", "bound", "picks", "names", "sees", "word", "level", "kind"] ["row", "bound", "picks", "names", "sees"] (fnScope s_law_wrong) := fnScope_by (by decide +kernel)
abbrev s_law_read : Stmt := top 27
theorem sc_law_read : FnScope ["cursor", "bound", "e"] ["cursor", "bound"] (fnScope s_law_read) := fnScope_by (by decide +kernel)
abbrev s_law_stranger : Stmt := top 28
theorem sc_law_stranger : FnScope ["known", "passed", "more", "k", "cursor", "other", "where", "row"] ["known", "passed"] (fnScope s_law_stranger) := fnScope_by (by decide +kernel)
abbrev s_law_some : Stmt := top 29
theorem sc_law_some : FnScope ["pool", "names", "name"] ["pool", "names"] (fnScope s_law_some) := fnScope_by (by decide +kernel)
abbrev s_law_spine : Stmt := top 30
theorem sc_law_spine : FnScope ["pool", "names", "picks", "brain", "deep", "value", "k", "sign", "leaf"] ["pool", "names", "picks", "brain", "deep"] (fnScope s_law_spine) := fnScope_by (by decide +kernel)
abbrev s_law : Stmt := top 31
theorem sc_law : FnScope ["script", "pool", "brain", "names", "picks", "due", "rows", "words", "before", "behind", "bound", "most", "sees", "cut", "strange", "menu", "passed", "cursor", "word", "actual", "k", "row"] ["script"] (fnScope s_law) := fnScope_by (by decide +kernel)
end My
/-! an own exception class over ValueError (by way of GameError) whose __init__ says super().__init__('..') and keeps its one argument -/
namespace SupX_BadText
open My PySem L2 C8 PySem.W PySem.Calls PyProof.Rows PySem.HandSPX
/-- what the written part says of the class at C, and of its __init__ at fI -/
structure Txt (P : Program) (K : Frag) (mg : Str → Option Value) (nm : Str) (C fI : Addr) : Prop where
  gC : mg nm = some (.ref C)
  cls : ∃ nm q N bs bm sn sub ab col dd k0 k1 k2 k3 k5, K.lookup C = some (excClassObj nm q C N bs bm true sn sub ab col dd k0 k1 k2 k3 k5 "ValueError.__new__") ∧ refsVE bm = true
  along : ks_superIn K C C "__init__" = some (some (.builtin "ValueError.__init__"))
  veC : subIn K (.ref C) (.type "ValueError") = some true
  sa : findIn K (.ref C) "__setattr__" = some (some (.builtin "object.__setattr__"))
  ga : findIn K (.ref C) "__getattribute__" = some (some (.builtin "BaseException.__getattribute__"))
  gg : findIn K (.ref C) "__getattr__" = some none
  noN : findIn K (.ref C) "at" = some none
  iC : findIn K (.ref C) "__init__" = some (some (.ref fI))
  tC : typeIn K (.ref fI) = some (.type "function")
  kC : keepIn K (.ref C) = true
  exC : subIn K (.ref C) (.type "BaseException") = some true
  tyC : typeIn K (.ref C) = some (.type "type")
  hdC : hasDictIn K C = true
  opq : nsIn K cStatics "thirdparty.any" = some none
  noS : mg "super" = none
  mroC : mroIn K C (.ref C) = some true
  top : (P.main.scope.names.lookup ("super" : Str)).isSome = false
  fn : ∃ (oc : Value) (od : Option Addr) (doc pm : Value) (an : Option Addr) (cda : Addr) (ct : Value) (osl : Array (Option Value)) (cc : Addr) (cl : Value) (cld : Option Addr) (csl : Array (Option Value)) (ccl : Value) (cdd : Option Addr) (vs : Array Value) (ccs : Array (Option Value)) (file : Str) (tf : Tok),
    K.lookup fI = some ⟨oc, od, .func (fnX "__init__" "BadText.__init__" (fnArgs s_BadText___init) (fnBody s_BadText___init) (fnScope s_BadText___init) [("__class__", cc)] .none .none doc pm an (.ref cda) ct), osl⟩ ∧ codeIn K (.ref cda) "BadText.__init__" = true ∧
    K.lookup cc = some ⟨cl, cld, .cell (some (.ref C)), csl⟩ ∧ K.lookup cda = some ⟨ccl, cdd, .fields vs, ccs⟩ ∧ vs[2]? = some (.str file tf) ∧ ((P.main.file : Str) == file) = true
/-- what __init__ leaves of a fresh exception at x -/
structure Left (h h' : Heap) (x C dx t1 : Addr) (v : Value) : Prop where
  keep : ∀ b o, b ≠ x → h.get? b = some o → h'.get? b = some o
  obj : h'.get? x = some { cls := .ref C, dict := some dx, data := .fields #[.ref t1, .none, .none, .none, .bool false, .none] }
  dbig : h.objs.size ≤ dx
  dne : dx ≠ x
  ns : h'.Ns1 dx (fun y => if y = "at" then some v else none)
section
variable {prog : Program} {w : World} {A : Around} {E : Value → Shared → Prop} {R : Result → Shared → Prop} {s : Shared} {K : Frag} {mg mb : Str → Option Value} {C fI : Addr} {nm : Str}
/-- such an __init__, run on a fresh exception -/
theorem init (T : Txt prog K mg nm C fI) {x t0 : Addr} {v : Value} (X : K.In s.heap) (hlim : s.heap.NoLimit) (hmg : s.heap.Ns mainGlobals mg) (hmb : s.heap.Ns builtinsNs mb) (hsu : mb "super" = some (.type "super"))
    (hx : s.heap.get? x = some (excO C t0)) (hnx : K.lookup x = none) (hroom : A.depth < recursionLimit)
    (hq : ∀ h' tk dx t1, Left s.heap h' x C dx t1 v → R (.ok (.ret .none)) { s with heap := h', toks := tk }) :
    codeAny (model prog w) A (.call (.ref fI) ⟨[.ref x, v], []⟩) R s := by
  obtain ⟨oc, od, doc, pm, an, cda, ct, osl, cc, cl, cld, csl, ccl, cdd, vs, ccs, file, tf, ho, hcd, hcc, hcda, hvs, hfile⟩ := T.fn
  obtain ⟨nmC, q, N, bs, bm, sn, sub, ab, col, dd, k0, k1, k2, k3, k5, hC, hbm⟩ := T.cls
  have hcl : clsIn K C = some { name := nmC, bases := bs, mro := .ref C :: bm, ns := N, qualname := q, hasDict := true, slotNames := sn, subclasses := sub, abstract := ab, collection := col, hasDel := false } := by unfold clsIn; rw [hC] <;> rfl
  have hal := T.along
  unfold ks_superIn at hal
  rw [hcl] at hal
  have hxC : x ≠ C := fun z => by rw [z, hC] at hnx; cases hnx
  refine ks_codeAny_call_defAt (fd := fnX "__init__" "BadText.__init__" (fnArgs s_BadText___init) (fnBody s_BadText___init) (fnScope s_BadText___init) [("__class__", cc)] .none .none doc pm an (.ref cda) ct) (binds := [("self", .ref x), ("at", v)]) hroom (X _ _ ho) rfl hlim
    (codeRec_of X hcd) rfl ?hb ?hcell ?hloc (fun h₁ hns k => ?_) rfl rfl rfl
  case hb => exact BindsTo.of_eq (by first | rfl | with_unfolding_all rfl)
  case hcell =>
    show ∀ x ∈ (fnScope s_BadText___init).names, x.2 ≠ .cell
    decide +kernel
  case hloc =>
    intro y hy
    rcases List.mem_cons.mp hy with rfl | hy
    · first | rfl | kernel_rfl
    · rw [List.mem_singleton.mp hy]
      first | rfl | kernel_rfl
  have X1 : K.In h₁ := X.keeps k
  have hx1 := k _ _ hx
  have hxL : s.heap.objs.size ≠ x := Nat.ne_of_gt (Heap.lt_size hx)
  show PySem.wpAt _ (A.deeper (ksEnv "BadText.__init__" (fnScope s_BadText___init) s.heap.objs.size fI (.ref cda) cc)) (.func (fnBody s_BadText___init) (ksEnv "BadText.__init__" (fnScope s_BadText___init) s.heap.objs.size fI (.ref cda) cc)) (execs (fnBody s_BadText___init) (ksEnv "BadText.__init__" (fnScope s_BadText___init) s.heap.objs.size fI (.ref cda) cc)) _ _ _
  refine ks_wpAt_execs_cons (ks_wpAt_Expr_any (ks_wpAt_MethodCall ?_))
  obtain ⟨arS, har, hars⟩ : ∃ ar, ((fnArgs s_BadText___init).posonlyargs ++ (fnArgs s_BadText___init).args).head? = some ar ∧ ar.arg = "self" := ⟨_, rfl, rfl⟩
  refine ks_wpAt_super_base (f := fI) (cc := cda) (file := file) (tf := tf) (vs := vs) (ar := arS) rfl rfl (by decide) rfl (X1 _ _ ho) rfl har rfl (X1 _ _ hcda) rfl hvs hfile T.top ?_
  refine ks_loadName_global rfl rfl (loadGlobal_builtin (hmg.keeps k) T.noS (hmb.keeps k) hsu ⟨rfl, ?_⟩)
  refine wpAny_loadName_free rfl rfl (c := cc) rfl ⟨_, X1 _ _ hcc, rfl⟩ ?_
  rw [hars]
  refine wpAny_loadName_local rfl rfl hns (v := .ref x) ?_ ?_
  · first | rfl | with_unfolding_all rfl | kernel_rfl
  refine ks_wpAny_isType_cls (X1 _ _ hC) rfl ⟨rfl, ?_⟩
  refine ks_wpAny_call_super (X1 _ _ hC) rfl hx1 rfl (fun c e => by cases e) (looks_mroIn X1 T.mroC) (fun h2 e2 g2 => ?_)
  have X2 : K.In h2 := X1.keeps g2
  have hx2 := g2 _ _ hx1
  have hI : InstAt h2 x (excO C t0) C none := ⟨hx2, rfl, rfl, trivial⟩
  refine kxs_getMethod kxs_ValueError e2 (looks_opaque X2 T.opq) (l₀ := .ref C :: bm) ((looks_clsIn X2 hcl).andThen .now) rfl X2 hal (hI.type.andThen (looks_subIn X2 T.veC)) hxC (by decide) ?_
  have up3 : ∀ b o, h2.get? b = some o → (h2.push (kxs_mw "ValueError.__init__" x)).get? b = some o := fun b o e => Heap.get?_push_of_some _ e
  have hw3 : (h2.push (kxs_mw "ValueError.__init__" x)).get? h2.objs.size = some (kxs_mw "ValueError.__init__" x) := Heap.get?_push_at rfl rfl
  generalize h2.push (kxs_mw "ValueError.__init__" x) = h3 at *
  refine kxs_callWith1 (u := h2.objs.size) (i := "ValueError.__init__") (x := x) (h₀ := h2) (L := x) (news := [(h2.objs.size, kxs_mw "ValueError.__init__" x)]) (fun p hp => ?_) (by simp) ?_
  · rw [List.mem_singleton] at hp
    subst hp
    exact ⟨hw3, fun z => absurd (Heap.lt_size hx2) (by rw [← show h2.objs.size = x from z]; exact Nat.lt_irrefl _), by
      cases e : h2.get? h2.objs.size with
      | none => rfl
      | some o => exact absurd (Heap.lt_size e) (Nat.lt_irrefl _)⟩
  refine PyProof.Rows.spliced_more (wpAny_Constant_str (PyProof.Rows.spliced_none ⟨hw3, ?_⟩))
  refine wpAny_call (codeAny_of_tree ?_)
  show wpAny _ _ (callAny (.ref h2.objs.size) ⟨[_], []⟩) _ _ _
  have hmwT : (Value.type "method-wrapper" == Value.type "method" || Value.type "method-wrapper" == Value.type "builtin_function_or_method" || Value.type "method-wrapper" == Value.type "method-wrapper") = true := by decide
  simp only [callAny]
  refine wpAny_bind (wpAny_load hw3 ?_)
  simp only [kxs_mw, hmwT, if_true]
  have X3 : K.In h3 := X2.keeps up3
  have hx3 := up3 _ _ hx2
  refine KFB.if_so (by decide) (wpAny_bind (check_bound_init F.excBase_ValueError.toExcCallFacts (X3 _ _ hC) hx3 rfl (wpAny_bind (wpAny_pure (wpAny_pure ⟨plainId_quiet F.excBase_ValueError.init.plain _, codeAny_builtin F.excBase_ValueError.initEntry ?_⟩)))))
  refine exc_init_tree (cls := .ref C) (t0 := t0) (dv := none) (c2 := .none) (c3 := .none) (b4 := .bool false) hx3 (by show 1 ≤ sizeLine; decide) (fun h4 k4 hx4 _ => ?_)
  have X4 : K.In h4 := fun a o e => k4 a o (fun z => by rw [z, hnx] at e; cases e) (X3 a o e)
  have old : ∀ b o, b ≠ x → h₁.get? b = some o → h4.get? b = some o := fun b o hb e => k4 b o hb (up3 b o (g2 b o e))
  have hns4 := hns.at (h' := h4) fun o e => old _ o hxL e
  refine wpAt_of_wpAny (wpAny_execs_cons (plainObj_wpAny_Assign_Attribute (wpAny_Name (wpAny_loadName_local rfl rfl hns4 (v := v) ?_ (wpAny_Name (wpAny_loadName_local rfl rfl hns4 (v := .ref x) ?_ ?_))))))
  · first | rfl | with_unfolding_all rfl | kernel_rfl
  · first | rfl | with_unfolding_all rfl | kernel_rfl
  refine set_plain X4 (ox := excO C h3.objs.size) (od := none) ⟨hx4, rfl, rfl, trivial⟩ T.sa ?_
  refine exc_osa X4 hx4 hcl (show refsVE (.ref C :: bm) = true from hbm) rfl T.noN (fun h5 tk5 dx k5 dn dne hx5 hn5 => wpAny_execs_nil (hq h5 tk5 dx _ ⟨fun b o hb e => k5 b o hb (old b o hb (k b o e)), hx5, ?_, dne, hn5⟩))
  exact Nat.le_of_lt (Nat.lt_of_lt_of_le hns4.lt dn)
/-- a made one -/
structure Made (h h' : Heap) (e C d : Addr) (v : Value) : Prop where
  keep : ∀ b o, h.get? b = some o → h'.get? b = some o
  new : h.objs.size ≤ e
  obj : ∃ oe vs, h'.get? e = some oe ∧ oe.cls = .ref C ∧ oe.dict = some d ∧ oe.data = .fields vs ∧ vs[1]? = some .none
  dbig : h.objs.size ≤ d
  dne : d ≠ e
  ns : h'.Ns1 d (fun y => if y = "at" then some v else none)
theorem made (T : Txt prog K mg nm C fI) {v : Value} (X : K.In s.heap) (hlim : s.heap.NoLimit) (hmg : s.heap.Ns mainGlobals mg) (hmb : s.heap.Ns builtinsNs mb) (hsu : mb "super" = some (.type "super")) (hroom : A.depth + 1 < recursionLimit)
    (hq : ∀ h' tk e d, Made s.heap h' e C d v → R (.ok (.ret (.ref e))) { s with heap := h', toks := tk }) : codeAny (model prog w) A (.call (.ref C) ⟨[v], []⟩) R s := by
  obtain ⟨nmC, q, N, bs, bm, sn, sub, ab, col, dd, k0, k1, k2, k3, k5, hC, hbm⟩ := T.cls
  obtain ⟨hp, g, dr, tk, os⟩ := s
  have up : ∀ b o, hp.get? b = some o → ((hp.push (kdv_tup [v])).push (excO C hp.objs.size)).get? b = some o := fun b o e => Heap.get?_push_of_some _ (Heap.get?_push_of_some _ e)
  have at2 : ((hp.push (kdv_tup [v])).push (excO C hp.objs.size)).get? (hp.objs.size + 1) = some (excO C hp.objs.size) := by heap_get
  have none2 : K.lookup (hp.objs.size + 1) = none := by
    cases e : K.lookup (hp.objs.size + 1) with
    | none => rfl
    | some o => exact absurd (Nat.lt_of_succ_lt (Heap.lt_size (show hp.get? (hp.objs.size + 1) = some o from X _ _ e))) (Nat.lt_irrefl _)
  refine call_own F.excBase_ValueError (fun Y => refsVE_contains Y bm hbm) (X _ _ hC) (looks_findIn X T.iC) (fun self => bind_fn X self T.tC) (by show 1 ≤ sizeLine; decide) ?_
  refine init (s := ⟨(hp.push (kdv_tup [v])).push (excO C hp.objs.size), g, dr, tk, os⟩) T (X.keeps up) (hlim.keeps up) (hmg.keeps up) (hmb.keeps up) hsu at2 none2 ?_ fun h' tk' dx t1 L => ⟨rfl, ?_⟩
  · show A.depth + 1 < recursionLimit
    exact hroom
  · have big : hp.objs.size + 1 + 1 ≤ dx := by
      have z := L.dbig
      rw [Heap.size_push, Heap.size_push] at z
      exact z
    exact hq h' tk' (hp.objs.size + 1) dx ⟨fun b o e => L.keep b o (Nat.ne_of_lt (Nat.lt_succ_of_lt (Heap.lt_size e))) (up b o e), Nat.le_succ _, ⟨_, _, L.obj, rfl, rfl, rfl, rfl⟩, Nat.le_trans (Nat.le_trans (Nat.le_succ _) (Nat.le_succ _)) big, L.dne, L.ns⟩
end
/-! the rules -/
theorem relO_fld {v : V} {u : Value} (r : RelV v u) (f : Str) : RelO (List.lookup f [(("at" : Str), v)]) (if f = "at" then some u else none) := by
  by_cases h : f = "at"
  · subst h
    have q : List.lookup ("at" : Str) [(("at" : Str), v)] = some v := by simp [List.lookup]
    rw [q, if_pos rfl]
    exact r
  · have e : (f == ("at" : Str)) = false := by simpa using h
    rw [if_neg h]
    simp [List.lookup, e]
    trivial
/-- BadText(e), raised -/
def tMkE (C : Addr) (ta : TA) : L2.St → Hp → XK → Prop := fun σ H Q => ta σ H fun vs H1 => ∃ v, vs = [v] ∧ ∀ d, H1 d = none → Q (.ref C) (some d) (upd H1 d (.xd [(("at" : Str), v)]))
section
variable {X : Cx} {C fI : Addr} {nm : Str}
theorem pmk {a : Expr} {ta : TA} {p pos : Pos} {k : Nat} (T : Txt X.prog X.K X.mg nm C fI) (hr : Room k X.A) (ha : PA X [a] ta) (hg : Gl X nm := by rfl) (hdb : (nm == ("__debug__" : Str)) = false := by decide)
    (he : starEach (a :: []) X.env = (false, eval a X.env) :: starEach [] X.env := by rfl) (hpl : (backTo pos (starEach [] X.env)).any (·.1) = false := by rfl) :
    PMk X (.Call (.Name nm p) [a] [] pos) (tMkE C ta) := by
  intro pins s σ H Q I h
  refine wpAny_Call_Name_kw (ld_glob I hg T.gC ?_ hdb)
  refine PySem.W.callWith_K (h₀ := X.base) I.ok.mod.kin T.kC (thn (ha.run pos pins s σ H _ I h) fun us s1 hh => ?_) he hpl
  obtain ⟨vs, H1, I1, r1, v, ev, q1⟩ := hh
  subst ev
  refine ⟨I1.kIn, ?_⟩
  cases r1 with
  | cons rv rn =>
    rename_i u us'
    cases rn
    show wpAny _ _ (call (.ref C) [u]) _ _ _
    have lim := I1.nolimit
    obtain ⟨mb, hmb1, hmb2⟩ := I1.mod.blt
    have hg1 := I1.mod.glob.keeps I1.bk
    have hb1 := hmb1.keeps I1.bk
    have hsu : mb "super" = some (.type "super") := (hmb2 _ (by decide)).trans (by decide +kernel)
    obtain ⟨hp, g, dr, tk, os⟩ := s1
    refine wpAny_call (made (mb := mb) T I1.kIn lim hg1 hb1 hsu (by have := hr.dp; omega) fun h' tk' e d M => ?_)
    show MkP X pins σ Q (.ref e) ⟨h', g, dr, tk', os⟩
    obtain ⟨oe, fv, hoe, hc, hd, hdat, h1⟩ := M.obj
    obtain ⟨G', g1, g2⟩ := restrict h' fun b => decide (b ≠ e)
    have there : ∀ b, b ≠ e → G'.get? b = h'.get? b := fun b hb => g1 b (decide_eq_true hb)
    have gone : G'.get? e = none := g2 e (by simp)
    have J : Inv X pins σ (upd H1 d (.xd [(("at" : Str), v)])) ⟨G', g, dr, tk', os⟩ := I1.laid (t' := tk') (fun b o q => (there b (Nat.ne_of_lt (Nat.lt_of_lt_of_le (Heap.lt_size q) M.new))).trans (M.keep b o q)) M.dbig
      ⟨_, M.ns.at (fun o q => (there d M.dne).trans q), fun f => relO_fld rv f⟩
    refine ⟨e, oe, fv, ⟨G', g, dr, tk', os⟩, _, .ref C, some d, rfl, J, fun b o q => ?_, gone, hoe, ⟨hc, hd⟩, hdat, h1, ?_, rfl, I1.bare, raises_own T.exC T.tyC, q1 d (I1.hok.fresh M.dbig)⟩
    · by_cases hb : b = e
      · have q' : G'.get? b = some o := q
        rw [hb, gone] at q'; cases q'
      · exact (there b hb).symm.trans q
    · rw [upd_ne (Ne.symm M.dne)]
      exact I1.hok.fresh M.new
/-- raise BadText(e) -/
def tRaiseE (C : Addr) (W : WX) (ta : TA) : TS := fun _ σ H => tMkE C ta σ H fun cls d H' => W cls d σ H'
theorem ps_raiseE {a : Expr} {ta : TA} {W : WX} {p pos pos2 : Pos} {k : Nat} (hc : X.calm = true) (T : Txt X.prog X.K X.mg nm C fI) (hr : Room k X.A) (tk : Takes X W) (ha : PA X [a] ta) (hg : Gl X nm := by rfl) (hdb : (nm == ("__debug__" : Str)) = false := by decide)
    (he : starEach (a :: []) X.env = (false, eval a X.env) :: starEach [] X.env := by rfl) (hpl : (backTo pos (starEach [] X.env)).any (·.1) = false := by rfl) :
    PS X (.Raise (some (.Call (.Name nm p) [a] [] pos)) none pos2) (tRaiseE C W ta) := ps_raise hc tk (pmk T hr ha hg hdb he hpl)
end
end SupX_BadText

namespace My
open PySem L2 C8 SX
end My
/-! isinstance(e, ..) of a caught error of an own class that has its dict -/
namespace ExIs
open PySem PySem.W PySem.Spec PySem.Calls PyProof.Rows
/-- what the class at D must say -/
structure ErrC (K : Frag) (D : Addr) : Prop where
  ga : findIn K (.ref D) "__getattribute__" = some (some (.builtin "BaseException.__getattribute__"))
  gg : findIn K (.ref D) "__getattr__" = some none
  exC : subIn K (.ref D) (.type "BaseException") = some true
  hdC : hasDictIn K D = true
  ca : findIn K (.ref D) "__class__" = some (some (.builtin "object.__class__"))
  sp : specialIn K (.builtin "object.__class__") "__get__" = some (some (.builtin "getset_descriptor.__get__"))
  tk : takesIn K (.builtin "object.__class__") = some true
  mo : mroIn K D (.type "object") = some true
theorem ErrC.clsThere {K : Frag} {D : Addr} (T : ErrC K D) : ∃ cd, clsIn K D = some cd := by
  obtain ⟨cd, hc, _⟩ := any_some T.hdC
  exact ⟨cd, hc⟩
theorem ErrC.binds {K : Frag} {D : Addr} (T : ErrC K D) (od : Option Obj) : findObj K D od "__class__" = some (.bind (.builtin "getset_descriptor.__get__") (.builtin "object.__class__")) := by
  obtain ⟨cd, hcd⟩ := T.clsThere
  have e1 := T.ca
  have e2 := T.sp
  have e3 := T.tk
  unfold findObj
  rw [hcd, Option.bind_some, e1, Option.bind_some]
  simp [e2, e3]
section
variable {prog : Program} {w : World} {A : Around} {E : Value → Shared → Prop} {s : Shared} {K : Frag} {x D : Addr} {ox : Obj} {od : Option Obj}
theorem askClass {Q : Option Value → Shared → Prop} (T : ErrC K D) (X : K.In s.heap) (I : InstAt s.heap x ox D od) (h : Q (some (.ref D)) { s with toks := s.toks + 1 }) : wpAny (model prog w) A (getAttr? (.ref x) "__class__") Q E s := by
  obtain ⟨hp, gs, dr, tok, os⟩ := s
  have ty := I.type (M := model prog w)
  have lga := looks_findIn (M := model prog w) X T.ga
  have lgg := looks_findIn (M := model prog w) X T.gg
  have lcl := looks_find (M := model prog w) X I (T.binds od)
  have isB : Looks (model prog w) hp (isInstance (.ref x) (.type "BaseException")) true := ty.andThen (looks_subIn X T.exC)
  have nq : (Value.builtin "BaseException.__getattribute__" == Value.builtin "object.__getattribute__") = false := by decide +kernel
  unfold getAttr? getAttrBy? getAttrBy
  refine wpAny_bind (wpAny_mkText (wpAny_bind (wpAny_attempt (wpAny_holding (wpAny_bind (ty.at (wpAny_bind (lga.at (?goal : _))))))))) 
  show wpAny _ _ (ite ((onTheHeap (Value.ref D) && Value.builtin "BaseException.__getattribute__" == Value.builtin "object.__getattribute__") = true) _ _) _ _ _
  rw [if_neg (by rw [nq]; simp)]
  unfold getAttrByItsOwn hookBefore
  refine wpAny_bind (?g2 : _)
  have onH : onTheHeap (Value.ref D) = true := rfl
  rw [if_pos onH]
  refine lgg.at (wpAny_bind (wpAny_attempt (wpAny_holding (?g3 : _))))
  unfold callGetattribute
  rw [if_neg (by simp)]
  unfold boundAndCalled
  rw [PySem.F.excAttr_ValueError.ga.bind (.ref x)]
  refine wpAny_bind (wpAny_pure (?g4 : _))
  show wpAny _ _ (call (.builtin "BaseException.__getattribute__") [.ref x, .str "__class__" tok]) _ _ _
  refine wpAny_call (codeAny_call_builtin PySem.F.excAttr_ValueError.ga.plain PySem.F.entry_bexc_ga (@check_slot (model prog w) _ _ ⟨hp, gs, dr, tok + 1, os⟩ "BaseException.__getattribute__" "BaseException" "__getattribute__" (.ref x) [.str "__class__" tok] [] _ (by decide +kernel) (by decide +kernel) isB
    (PySem.F.args_bexc_ga (.ref x) (.str "__class__" tok)) (?g5 : _)))
  unfold Builtin.«object.__getattribute__»
  refine wpAny_bind (wpAny_of_eq (a := ((Value.ref x : Value), [Value.str "__class__" tok])) (by first | rfl | (simp only [slotArgs]; rfl)) (wpAny_bind (wpAny_pure (wpAny_bind (ty.at (wpAny_bind (lcl.at (?g6 : _))))))))
  show wpAny _ _ (holding [Value.builtin "object.__class__"] (call (.builtin "getset_descriptor.__get__") [.builtin "object.__class__", .ref x, .ref D]) >>= ret) _ _ _
  refine wpAny_bind (wpAny_holding (wpAny_call (class_get (s := ⟨hp, gs, dr, tok + 1, os⟩) (ox := ox) (od := od) X I T.mo (wpAny_pure (?g7 : _)))))
  show wpAny _ _ (handedOut (.ref D)) _ _ _
  rw [handedOut_of (v := .ref D) rfl]
  first | exact wpAny_pure (wpAny_pure h) | exact wpAny_pure h | exact wpAny_pure (wpAny_bind (wpAny_pure (wpAny_pure h)))
theorem kit (T : ErrC K D) : KitX K (.ref x) (.ref D) (fun h => InstAt h x ox D od) where
  ty := fun _ _ _ I => I.type
  it := fun _ _ X _ => by
    obtain ⟨cd, hcd⟩ := T.clsThere
    unfold clsIn at hcd
    split at hcd
    · rename_i c' d' cd' sl' ho
      intro A' Q' E' s' k q
      unfold isType loadHead
      exact wpAny_bind (wpAny_loadPart (k _ _ (X _ _ ho)) (wpAny_pure q))
    · cases hcd
  ne := fun h tp dd its n sl X htp => Bool.eq_false_iff.mpr fun q => by
    obtain ⟨cd, hcd⟩ := T.clsThere
    have e : D = tp := Value.ref.inj (beq_iff_eq.mp q)
    subst e
    unfold clsIn at hcd
    split at hcd
    · rename_i c' d' cd' sl' ho
      cases (X _ _ ho).symm.trans htp
    · cases hcd
  ca := fun X I k => askClass T X I k
end
end ExIs
namespace L2
open PySem PySem.Spec PyProof.Rows
theorem inst_of {X : Cx} {pins : List (Addr × Obj)} {σ : L2.St} {H : Hp} {s : Shared} {a D dd : Addr} {oe : Obj} {pn : List (Addr × Obj)} {fs : List (Str × V)} (I : Inv (X.suite a ((a, oe) :: pn)) pins σ H s) (hz : Zc (.ref D) (some dd) oe) (hf : ∃ vs, oe.data = .fields vs) (he : H dd = some (.xd fs)) :
    ∃ od, PySem.W.InstAt s.heap a oe D (some od) := by
  obtain ⟨ha, _⟩ := I.pin (a, oe) (List.mem_append_left _ List.mem_cons_self)
  obtain ⟨vs, hd⟩ := hf
  have hx : ObjOk X.prog X.w H s.heap dd (.xd fs) := I.hok dd _ he
  obtain ⟨mA, hns, _⟩ := hx
  obtain ⟨od, ho, _⟩ := lookIn_ns hns
  exact ⟨od, ha, hz.1, by unfold PySem.W.notCls; rw [hd] <;> rfl, by rw [hz.2]; exact ho⟩
/-- isinstance(e, C), e the caught exception -/
def rIsX (K : PySem.W.Frag) (a : Addr) (cls : Value) (d : Option Addr) : List V → Hp → VK → Prop := fun xs H Q => ∃ (D C dd : Addr) (fs : List (Str × V)) (b : Bool), xs = [.ref a, .ref C] ∧ cls = .ref D ∧ d = some dd ∧ ExIs.ErrC K D ∧ H dd = some (.xd fs) ∧ PySem.W.kitOne K (.ref D) (.ref C) = some b ∧ Q (.bl b) H
theorem call_isX {X : Cx} {a : Addr} {cls : Value} {d : Option Addr} {oe : Obj} {pn : List (Addr × Obj)} (hz : Zc cls d oe) (hf : ∃ vs, oe.data = .fields vs) : CallR (X.suite a ((a, oe) :: pn)) (.builtin "isinstance") (rIsX X.K a cls d) := by
  intro pins s σ H xs us Q I r h
  obtain ⟨D, C, dd, fs, b, rfl, rfl, rfl, T, hx, e, q⟩ := h
  obtain ⟨u1, u2, rfl, r1, r2⟩ := vals2 r
  cases (show u1 = Value.ref a from r1)
  cases (show u2 = Value.ref C from r2)
  obtain ⟨od, J⟩ := inst_of I hz hf hx
  exact PySem.W.kia_one (ExIs.kit T) I.kIn J e (fun z => nomatch z) fun tk => ⟨.bl b, H, I.tok tk, rfl, q⟩
theorem crefs_of {cs : List Addr} {its : List Value} (h : Vals (cs.map V.ref) its) : its = cs.map Value.ref := by
  induction cs generalizing its with
  | nil => cases h; rfl
  | cons c cs ih =>
    cases h with
    | cons h1 h2 => rw [ih h2]; cases (show _ = Value.ref c from h1); rfl
/-- isinstance(e, (C1, ..)) -/
def rIsXT (K : PySem.W.Frag) (a : Addr) (cls : Value) (d : Option Addr) : List V → Hp → VK → Prop := fun xs H Q => ∃ (D tp dd : Addr) (cs : List Addr) (fs : List (Str × V)) (b : Bool), xs = [.ref a, .ref tp] ∧ cls = .ref D ∧ d = some dd ∧ ExIs.ErrC K D ∧ H dd = some (.xd fs) ∧ H tp = some (.tup (cs.map V.ref)) ∧
  PySem.W.kitAny K (.ref D) (cs.map Value.ref) = some b ∧ Q (.bl b) H
theorem call_isXT {X : Cx} {a : Addr} {cls : Value} {d : Option Addr} {oe : Obj} {pn : List (Addr × Obj)} (hz : Zc cls d oe) (hf : ∃ vs, oe.data = .fields vs) : CallR (X.suite a ((a, oe) :: pn)) (.builtin "isinstance") (rIsXT X.K a cls d) := by
  intro pins s σ H xs us Q I r h
  obtain ⟨D, tp, dd, cs, fs, b, rfl, rfl, rfl, T, hx, hT, e, q⟩ := h
  obtain ⟨u1, u2, rfl, r1, r2⟩ := vals2 r
  cases (show u1 = Value.ref a from r1)
  cases (show u2 = Value.ref tp from r2)
  obtain ⟨od, J⟩ := inst_of I hz hf hx
  obtain ⟨_, its, rv, o, h1, h2, n, h3⟩ := (show ObjOk X.prog X.w H s.heap tp (.tup (cs.map V.ref)) from I.hok tp _ hT)
  have e3 := crefs_of rv
  subst e3
  obtain ⟨oc, od2, dt, sl⟩ := o
  simp only at h2 h3
  subst h2 h3
  exact PySem.W.kia_tup (ExIs.kit T) I.kIn J h1 e (fun z => nomatch z) fun tk => ⟨.bl b, H, I.tok tk, rfl, q⟩
end L2
namespace My
open PySem L2 C8 SX

/-- what the walk asks of the module -/
structure Txt (K : PySem.W.Frag) (mg : Str → Option Value) (C_Cursor : Addr) (C_GameError : Addr) (C_BadText : Addr) (T_SIGNS : Addr) : Prop where
  n_bool : mg "bool" = none
  n_int : mg "int" = none
  n_isinstance : mg "isinstance" = none
  n_len : mg "len" = none
  n_list : mg "list" = none
  n_max : mg "max" = none
  n_min : mg "min" = none
  n_range : mg "range" = none
  n_str : mg "str" = none
  n_tuple : mg "tuple" = none
  cl_Cursor : Cls K C_Cursor
  m_Cursor : mg "Cursor" = some (.ref C_Cursor)
  i_Cursor : InsC K C_Cursor
  a_Cursor_words : NoAttr K C_Cursor "words"
  a_Cursor_options : NoAttr K C_Cursor "options"
  a_Cursor_variables : NoAttr K C_Cursor "variables"
  a_Cursor_sees : NoAttr K C_Cursor "sees"
  a_Cursor_at : NoAttr K C_Cursor "at"
  a_Cursor_moves : NoAttr K C_Cursor "moves"
  a_Cursor_branchings : NoAttr K C_Cursor "branchings"
  v_GREATEST : ∃ u, mg "GREATEST" = some u ∧ RelV (.int 65535) u
  v_DEEPEST_EXPRESSION : ∃ u, mg "DEEPEST_EXPRESSION" = some u ∧ RelV (.int 12) u
  v_DIGITS : ∃ u, mg "DIGITS" = some u ∧ RelV (.str "0123456789") u
  v_SIGNS : ∃ u, mg "SIGNS" = some u ∧ RelV (.ref T_SIGNS) u
  q_SIGNS : ∀ H : Hp, SqT K H T_SIGNS ((["+", "-", "*", "/", "mod", "<", "="] : List Str).map V.str)
  d_SIGNS : ∃ o, K.lookup T_SIGNS = some o ∧ o.cls = .type "tuple" ∧ o.dict = none
  m_GameError : mg "GameError" = some (.ref C_GameError)
  m_BadText : mg "BadText" = some (.ref C_BadText)
  e_BadText : ExIs.ErrC K C_BadText
  f_BadText : XfC K C_BadText
  no_BadText : PySem.W.findIn K (.ref C_BadText) "at" = some none
  x_BadText : PySem.W.exmOne K (.ref C_BadText) (.ref C_BadText) = some true
  kit1 : PySem.W.kitOne K (.ref C_BadText) (.ref C_GameError) = some true
  ok : True
/-! defs that raise: their promise, their calls (in a def that raises, in a try) -/
structure CalX (P : Program) (w : World) (K : PySem.W.Frag) (mg : Str → Option Value) (base : Heap) (k : Nat) (x : Str) (sp : Sp) (dvs : List V) : Prop where
  ex : ∃ (f : Addr) (fd : FuncData) (ps : List Str) (ds : List Value), FnOk P w K mg base (L2.CX P w) k f fd ps sp ∧ mg x = some (.ref f) ∧ PySem.W.keepIn K (.ref f) = true ∧ Binds K fd ps ds ∧ Vals dvs ds
/-- .. called with keywords -/
structure CalXK (P : Program) (w : World) (K : PySem.W.Frag) (mg : Str → Option Value) (base : Heap) (k : Nat) (x : Str) (sp : Sp) (n : Nat) (ks : List Str) (gV : List V → List V → List V) : Prop where
  ex : ∃ (f : Addr) (fd : FuncData) (ps : List Str) (g : List Value → List Value → List Value), FnOk P w K mg base (L2.CX P w) k f fd ps sp ∧ mg x = some (.ref f) ∧ PySem.W.keepIn K (.ref f) = true ∧ KBn K fd ps n ks g gV
structure MetX (P : Program) (w : World) (K : PySem.W.Frag) (mg : Str → Option Value) (base : Heap) (k : Nat) (C : Addr) (m : Str) (sp : Sp) (dvs : List V) : Prop where
  ex : ∃ (f : Addr) (fd : FuncData) (ps : List Str) (ds : List Value), Cls K C ∧ Meth K C m f ∧ FnOk P w K mg base (L2.CX P w) k f fd ps sp ∧ Binds K fd ps ds ∧ Vals dvs ds
section
variable {P : Program} {w : World} {K : PySem.W.Frag} {mg : Str → Option Value} {base : Heap}
theorem fnx {x qual : Str} {st : Stmt} {f : Addr} {fd : FuncData} {N ps : List Str} {k : Nat} {sp : Sp} (F : C8.Fun K x qual st f fd) (S : FnScope N ps (fnScope st)) (len : ∀ vs H Q E, sp vs H Q E → vs.length = ps.length)
    (hbody : ∀ (cdv : Value) (A : Around) (outer : List Env) (s : Shared) (H : Hp) (vs : List V) (Q : VK) (E : XK), Room k (A.deeper (PyProof.Rows.envOfC qual (fnScope st) s.heap.objs.size f cdv)) → sp vs H Q E →
      ∃ t, PSs (cxOf (L2.CX P w) P w K mg base N qual (fnScope st) f cdv A outer s H E) (fnBody st) t ∧ t { nx := fun _ H' => Q .non H', rt := Q } (start N vs) H) : FnOk P w K mg base (L2.CX P w) (k + 1) f fd ps sp := by
  obtain ⟨oc, od, dV, kV, doc, pm, an, cdv, ct, osl, rfl, lk, hcd⟩ := F.ex
  exact fn_of lk hcd S len fun A outer s H vs Q E hr hsp => hbody cdv A outer s H vs Q E hr hsp
theorem CalX.of {x : Str} {st : Stmt} {f : Addr} {fd : FuncData} {ps : List Str} {ds : List Value} {dvs : List V} {k : Nat} {sp : Sp} (F : C8.Def K mg x st f fd) (ok : FnOk P w K mg base (L2.CX P w) k f fd ps sp) (b : Binds K fd ps ds) (d : Vals dvs ds) : CalX P w K mg base k x sp dvs :=
  ⟨f, fd, ps, ds, ok, F.mgf, F.kp, b, d⟩
end
section
variable {X : Cx} {k j n : Nat} {C : Addr} {x m : Str} {sp : Sp} {dvs : List V} {p pos apos : Pos} {e o : Expr} {es : List Expr} {ta : TE} {t tk : TA} {E : XK} {W : WX} {ks : List Str} {gV : List V → List V → List V} {kws : List Keyword}
/-- called in a def that lets out what E says -/
theorem pe_cX (c : CalX X.prog X.w X.K X.mg X.base k x sp dvs) (hr : Room j X.A) (hk : k ≤ j) (hg : Gl X x) (hx : Passes (L2.CX X.prog X.w) X E) (ha : PA X (e :: es) t)
    (hdb : (x == ("__debug__" : Str)) = false := by decide) (he : starEach (e :: es) X.env = (false, eval e X.env) :: starEach es X.env := by rfl) (hpl : (backTo pos (starEach es X.env)).any (·.1) = false := by rfl) :
    PE X (.Call (.Name x p) (e :: es) [] pos) (tCall sp dvs E t) := by
  obtain ⟨f, fd, ps, ds, F, hm, kp, b, d⟩ := c.ex
  exact pe_call F (hr.mono hk) hg hm kp b d hx ha hdb he hpl
/-- called in a try -/
theorem pe_cS (c : CalX X.prog X.w X.K X.mg X.base k x sp dvs) (hr : Room j X.A) (hk : k ≤ j) (hg : Gl X x) (tk : Takes X W) (ha : PA X (e :: es) t)
    (hdb : (x == ("__debug__" : Str)) = false := by decide) (he : starEach (e :: es) X.env = (false, eval e X.env) :: starEach es X.env := by rfl) (hpl : (backTo pos (starEach es X.env)).any (·.1) = false := by rfl) :
    PE X (.Call (.Name x p) (e :: es) [] pos) (tCallSD sp dvs (WE W) t) := by
  obtain ⟨f, fd, ps, ds, F, hm, kp, b, d⟩ := c.ex
  exact pe_callSD F (hr.mono hk) hg hm kp b d (fun σ => passAt tk σ) ha hdb he hpl
def tCallSK (sp : Sp) (n : Nat) (ks : List Str) (gV : List V → List V → List V) (E : L2.St → XK) (t tk : TA) : TE := fun σ H Q => t σ H fun vs H1 => tk σ H1 fun zs H2 => vs.length = n ∧ zs.length = ks.length ∧ sp (gV vs zs) H2 Q (E σ)
/-- called in a try, with keywords -/
theorem pe_cKS (c : CalXK X.prog X.w X.K X.mg X.base k x sp n ks gV) (hr : Room j X.A) (hk : k ≤ j) (hg : Gl X x) (tw : Takes X W) (ha : PA X (e :: es) t) (hkw : PK X kws tk)
    (hall : (backToKw pos (keywordEach kws X.env)).all (·.1.isSome) = true := by rfl) (hks : (backToKw pos (keywordEach kws X.env)).filterMap (·.1) = ks := by rfl)
    (hdb : (x == ("__debug__" : Str)) = false := by decide) (he : starEach (e :: es) X.env = (false, eval e X.env) :: starEach es X.env := by rfl)
    (hpl : ((backTo pos (starEach (e :: es) X.env)).any (·.1) || (backToKw pos (keywordEach kws X.env)).any (·.1.isNone)) = false := by rfl) :
    PE X (.Call (.Name x p) (e :: es) kws pos) (tCallSK sp n ks gV (WE W) t tk) := by
  obtain ⟨f, fd, ps, g, F, hm, kp, b⟩ := c.ex
  refine ⟨fun pins s σ H Q I h => wpAny_Call_Name_kw (ld_glob I hg hm (PySem.W.callWith_KW (h₀ := X.base) I.ok.mod.kin kp hall (thn (ha.run pos pins s σ H _ I h) fun us s1 ⟨vs, H1, I1, r, q⟩ => ?_) hpl he) hdb)⟩
  refine thn (hkw.run pos pins s1 σ H1 _ I1 q) fun ws s2 ⟨zs, H2, I2, rz, l1, l2, q2⟩ => ⟨I2.kIn, ?_⟩
  rw [hks]
  have r2 := b.rel r rz
  refine wpAny_call (codeAny_mono (F.run X.A X.stack s2 H2 ⟨us, ks.zip ws⟩ (g us ws) (gV vs zs) Q (WE W σ) (hr.mono hk) I2.env0 (b.to s2 us ws I2.kIn (r.length.symm.trans l1) (rz.length.symm.trans l2)) r2 q2) fun r s' hq => ?_)
  cases r with
  | error er => exact passAt tw σ pins H2 s2 er s' I2 hq
  | ok fl =>
    cases fl with
    | ret u => exact I2.after hq
    | next => exact hq.elim
    | brk => exact hq.elim
    | cont => exact hq.elim
end

/-! properties, raising methods, calls with keywords -/
structure Prp (P : Program) (w : World) (K : PySem.W.Frag) (mg : Str → Option Value) (base : Heap) (k : Nat) (C : Addr) (f : Str) (sp : Sp) : Prop where
  ex : ∃ (p g : Addr) (fd : FuncData) (ps : List Str), Cls K C ∧ PropOf K C f p g ∧ FnOk P w K mg base C8.CX0 k g fd ps sp ∧ Binds K fd ps []
structure MakK (P : Program) (w : World) (K : PySem.W.Frag) (mg : Str → Option Value) (base : Heap) (k : Nat) (x : Str) (C : Addr) (sp : Sp) (n : Nat) (ks : List Str) (gV : List V → List V → List V) : Prop where
  ex : ∃ (f : Addr) (fd : FuncData) (ps : List Str) (g : List Value → List Value → List Value), Mk K C f ∧ FnOk P w K mg base C8.CX0 k f fd ps sp ∧ mg x = some (.ref C) ∧ KBn K fd ps (n + 1) ks g gV
section
variable {X : Cx} {k j n : Nat} {C : Addr} {x m f : Str} {sp : Sp} {dvs : List V} {p pos apos : Pos} {e o : Expr} {es : List Expr} {ta : TE} {t tk : TA} {E : XK} {W : WX} {ks : List Str} {gV : List V → List V → List V} {kws : List Keyword}
theorem pe_pr (c : Prp X.prog X.w X.K X.mg X.base k C f sp) (hr : Room j X.A) (hk : k + 1 ≤ j) (he : PE X e ta) (hab : attributeBase e f X.env (eval e X.env) = eval e X.env) : PE X (.Attribute e f pos) (tProp C sp [] C8.E0 ta) := by
  obtain ⟨p, g, fd, ps, hc, hp, F, b⟩ := c.ex
  exact pe_prop he hc hp F (hr.mono hk) b .nil C8.pass0 hab
theorem pe_mX {pl : Sem Bool} (c : MetX X.prog X.w X.K X.mg X.base k C m sp dvs) (hr : Room j X.A) (hk : k ≤ j) (hx : Passes (L2.CX X.prog X.w) X E) (he : PE X o ta) (ha : PA X (e :: es) t)
    (hst : starEach (e :: es) X.env = (false, eval e X.env) :: starEach es X.env := by rfl) (hpl : (backTo pos (starEach es X.env)).any (·.1) = false := by rfl)
    (ht : eval (.Call (.Attribute o m apos) (e :: es) [] pos) X.env = (do
      let ov ← eval o X.env
      standAt apos.atName
      let (f, first) ← holding [ov] (getMethod ov m pl)
      callWith pos f first (backTo pos (starEach (e :: es) X.env)) (backToKw pos (keywordEach [] X.env))) := by rfl) :
    PE X (.Call (.Attribute o m apos) (e :: es) [] pos) (tMeth C m sp dvs E ta t) := by
  obtain ⟨f, fd, ps, ds, hc, hm, F, b, d⟩ := c.ex
  exact pe_meth (pl := pl) he hc hm F (hr.mono hk) b d hx ha hst hpl ht
def tCallKX (sp : Sp) (n : Nat) (ks : List Str) (gV : List V → List V → List V) (E : XK) (t tk : TA) : TE := fun σ H Q => t σ H fun vs H1 => tk σ H1 fun zs H2 => vs.length = n ∧ zs.length = ks.length ∧ sp (gV vs zs) H2 Q E
/-- called with keywords, in a def that lets out what E says -/
theorem pe_cKX (c : CalXK X.prog X.w X.K X.mg X.base k x sp n ks gV) (hr : Room j X.A) (hk : k ≤ j) (hg : Gl X x) (hx : Passes (L2.CX X.prog X.w) X E) (ha : PA X (e :: es) t) (hkw : PK X kws tk)
    (hall : (backToKw pos (keywordEach kws X.env)).all (·.1.isSome) = true := by rfl) (hks : (backToKw pos (keywordEach kws X.env)).filterMap (·.1) = ks := by rfl)
    (hdb : (x == ("__debug__" : Str)) = false := by decide) (he : starEach (e :: es) X.env = (false, eval e X.env) :: starEach es X.env := by rfl)
    (hpl : ((backTo pos (starEach (e :: es) X.env)).any (·.1) || (backToKw pos (keywordEach kws X.env)).any (·.1.isNone)) = false := by rfl) :
    PE X (.Call (.Name x p) (e :: es) kws pos) (tCallKX sp n ks gV E t tk) := by
  obtain ⟨f, fd, ps, g, F, hm, kp, b⟩ := c.ex
  refine ⟨fun pins s σ H Q I h => wpAny_Call_Name_kw (ld_glob I hg hm (PySem.W.callWith_KW (h₀ := X.base) I.ok.mod.kin kp hall (thn (ha.run pos pins s σ H _ I h) fun us s1 ⟨vs, H1, I1, r, q⟩ => ?_) hpl he) hdb)⟩
  refine thn (hkw.run pos pins s1 σ H1 _ I1 q) fun ws s2 ⟨zs, H2, I2, rz, l1, l2, q2⟩ => ⟨I2.kIn, ?_⟩
  rw [hks]
  have r2 := b.rel r rz
  refine wpAny_call (codeAny_mono (F.run X.A X.stack s2 H2 ⟨us, ks.zip ws⟩ (g us ws) (gV vs zs) Q E (hr.mono hk) I2.env0 (b.to s2 us ws I2.kIn (r.length.symm.trans l1) (rz.length.symm.trans l2)) r2 q2) fun r s' hq => ?_)
  cases r with
  | error er => exact hx pins σ H2 s2 er s' I2 hq
  | ok fl =>
    cases fl with
    | ret u => exact I2.after hq
    | next => exact hq.elim
    | brk => exact hq.elim
    | cont => exact hq.elim
theorem pe_mkK (c : MakK X.prog X.w X.K X.mg X.base k x C sp n ks gV) (hr : Room j X.A) (hk : k + 1 ≤ j) (hg : Gl X x) (ha : PA X (e :: es) t) (hkw : PK X kws tk)
    (hall : (backToKw pos (keywordEach kws X.env)).all (·.1.isSome) = true := by rfl) (hks : (backToKw pos (keywordEach kws X.env)).filterMap (·.1) = ks := by rfl) (hdb : (x == ("__debug__" : Str)) = false := by decide)
    (he : starEach (e :: es) X.env = (false, eval e X.env) :: starEach es X.env := by rfl) (hpl : ((backTo pos (starEach (e :: es) X.env)).any (·.1) || (backToKw pos (keywordEach kws X.env)).any (·.1.isNone)) = false := by rfl) :
    PE X (.Call (.Name x p) (e :: es) kws pos) (tMakeK C n ks.length sp gV C8.E0 t tk) := by
  obtain ⟨f, fd, ps, g, M, F, hm, b⟩ := c.ex
  exact pe_makeK M F (hr.mono hk) hg hm b C8.pass0 ha hkw hall hks hdb he hpl
end

/-! ratios: an own object of two ints -/
theorem kND : ¬ (("num" : Str) = "den") := by decide +kernel
theorem kDN : ¬ (("den" : Str) = "num") := by decide +kernel
def rf (n d : Int) : List (Str × V) := putF "den" (.int d) (putF "num" (.int n) [])
theorem rf_num (n d : Int) : (rf n d).lookup ("num" : Str) = some (.int n) := by
  unfold rf
  rw [lookup_putF, if_neg kND, lookup_putF, if_pos rfl]
theorem rf_den (n d : Int) : (rf n d).lookup ("den" : Str) = some (.int d) := by
  unfold rf
  rw [lookup_putF, if_pos rfl]
theorem rf_no (n d : Int) {m : Str} (h1 : ¬ m = "num") (h2 : ¬ m = "den") : (rf n d).lookup m = none := by
  unfold rf
  rw [lookup_putF, if_neg h2, lookup_putF, if_neg h1]; rfl
/-- a Ratio stands at p -/
def RatAt (C : Addr) (H : Hp) (p : Addr) (n d : Int) : Prop := ∃ dx, H p = some (.ins C dx (rf n d))
theorem RatAt.keep {C p : Addr} {H H' : Hp} {W : List Addr} {n d : Int} (h : RatAt C H p n d) (k : Keep W H H') (w : p ∉ W) : RatAt C H' p n d := by
  obtain ⟨dx, h⟩ := h
  exact ⟨dx, k _ _ h w⟩
theorem RatAt.keep0 {C p : Addr} {H H' : Hp} {n d : Int} (h : RatAt C H p n d) (k : Keep [] H H') : RatAt C H' p n d := h.keep k (by simp)
/-- the sign of the divisor stands with the common part -/
def sg (n d : Int) : Int := if d < 0 then -((Nat.gcd n.natAbs d.natAbs : Nat) : Int) else ((Nat.gcd n.natAbs d.natAbs : Nat) : Int)
def redN (n d : Int) : Int := n.fdiv (sg n d)
def redD (n d : Int) : Int := d.fdiv (sg n d)
theorem gcd_pos_of {n d : Int} (h : d ≠ 0) : 0 < Nat.gcd n.natAbs d.natAbs := Nat.gcd_pos_of_pos_right _ (by omega)
theorem sg_ne {n d : Int} (h : d ≠ 0) : sg n d ≠ 0 := by
  have := gcd_pos_of (n := n) h
  unfold sg
  split <;> omega
theorem sg_dvd_n (n d : Int) : sg n d ∣ n := by
  have h : ((Nat.gcd n.natAbs d.natAbs : Nat) : Int) ∣ n := Int.ofNat_dvd_left.mpr (Nat.gcd_dvd_left _ _)
  unfold sg
  split
  · exact Int.neg_dvd.mpr h
  · exact h
theorem sg_dvd_d (n d : Int) : sg n d ∣ d := by
  have h : ((Nat.gcd n.natAbs d.natAbs : Nat) : Int) ∣ d := Int.ofNat_dvd_left.mpr (Nat.gcd_dvd_right _ _)
  unfold sg
  split
  · exact Int.neg_dvd.mpr h
  · exact h
theorem fdiv_of_mul {m c s : Int} (hs : s ≠ 0) (h : m = s * c) : m.fdiv s = c := by
  subst h; exact Int.mul_fdiv_cancel_left c hs
theorem red_n {n d : Int} (h : d ≠ 0) : redN n d * sg n d = n := by
  obtain ⟨c, hc⟩ := sg_dvd_n n d
  unfold redN
  rw [fdiv_of_mul (sg_ne h) hc, Int.mul_comm]; exact hc.symm
theorem red_d {n d : Int} (h : d ≠ 0) : redD n d * sg n d = d := by
  obtain ⟨c, hc⟩ := sg_dvd_d n d
  unfold redD
  rw [fdiv_of_mul (sg_ne h) hc, Int.mul_comm]; exact hc.symm
theorem redD_pos {n d : Int} (h : d ≠ 0) : 0 < redD n d := by
  have e := red_d (n := n) h
  have g := gcd_pos_of (n := n) h
  have hne : redD n d ≠ 0 := fun z => by rw [z, Int.zero_mul] at e; exact h e.symm
  rcases Int.lt_or_gt_of_ne hne with hl | hl
  · exfalso
    unfold sg at e
    split at e
    · rename_i hd
      have : 0 ≤ redD n d * -((Nat.gcd n.natAbs d.natAbs : Nat) : Int) := Int.mul_nonneg_of_nonpos_of_nonpos (by omega) (by omega)
      omega
    · rename_i hd
      have : redD n d * ((Nat.gcd n.natAbs d.natAbs : Nat) : Int) < 0 := Int.mul_neg_of_neg_of_pos hl (by omega)
      omega
  · exact hl
/-- the same ratio -/
theorem red_cross {n d : Int} (h : d ≠ 0) : redN n d * d = n * redD n d := by
  have e1 := red_n (n := n) h
  have e2 := red_d (n := n) h
  calc redN n d * d = redN n d * (redD n d * sg n d) := by rw [e2]
    _ = redN n d * sg n d * redD n d := by rw [Int.mul_comm (redD n d), Int.mul_assoc]
    _ = n * redD n d := by rw [e1]
theorem red_gcd {n d : Int} (h : d ≠ 0) : Nat.gcd (redN n d).natAbs (redD n d).natAbs = 1 := by
  have e1 : (redN n d).natAbs * (sg n d).natAbs = n.natAbs := by rw [← Int.natAbs_mul, red_n h]
  have e2 : (redD n d).natAbs * (sg n d).natAbs = d.natAbs := by rw [← Int.natAbs_mul, red_d h]
  have e3 : (sg n d).natAbs = Nat.gcd n.natAbs d.natAbs := by unfold sg; split <;> omega
  have e4 := Nat.gcd_mul_right (redN n d).natAbs (sg n d).natAbs (redD n d).natAbs
  rw [e1, e2, e3] at e4
  have g := gcd_pos_of (n := n) h
  exact Nat.eq_of_mul_eq_mul_right g (by omega)
theorem red_abs_n {n d : Int} (h : d ≠ 0) : (redN n d).natAbs ≤ n.natAbs := by
  have e1 : (redN n d).natAbs * (sg n d).natAbs = n.natAbs := by rw [← Int.natAbs_mul, red_n h]
  have : 0 < (sg n d).natAbs := by have := sg_ne (n := n) h; omega
  rw [← e1]
  exact Nat.le_mul_of_pos_right _ this
theorem red_dvd {n d : Int} (h : d ≠ 0) : redD n d ∣ d := ⟨sg n d, (red_d h).symm⟩
/-- what the rules ask of numbers below a power of two -/
theorem log2_lt9 {i : Int} {b : Nat} (h : i.natAbs < 2 ^ b) (h0 : 0 < b) : i.natAbs.log2 < b := PySem.Flt.log2_lt_of h0 h
section
variable {X : Cx}
def CDivG (_ j : Int) : Prop := j ≠ 0 ∧ j.natAbs.log2 < 9000
theorem op_fdivG : OpR X (binaryOp .FloorDiv) (rI CDivG fun i j => .int (i.fdiv j)) := opI fun i j _ _ _ _ _ hc q =>
  PyProof.Rows.floordiv_int hc.1 q (.inl (PyProof.noPylong_of_log2 hc.2))
def CPowB (i j : Int) : Prop := 2 ≤ i.natAbs ∧ 1 ≤ j ∧ (Builtin.Int.intBits i : Int) * j ≤ 100000000
theorem op_mulO : OpR X (binaryOp .Mult) (rI IntMulOk fun i j => .int (i * j)) := opI fun _ _ _ _ _ _ _ hc q => PyProof.Rows.mul_int q hc
end
def sp_rat (C : Addr) : Sp := fun vs H Q _ => ∃ (x dx : Addr) (n d : Int), vs = [.ref x, .int n, .int d] ∧ d ≠ 0 ∧ d.natAbs < 2 ^ 8000 ∧ H x = some (.ins C dx []) ∧
  ∀ H', Keep [x] H H' → H' x = some (.ins C dx (rf (redN n d) (redD n d))) → Q .non H'

/-! the law's draws -/
def Pool (H : Hp) (p q : Addr) (ns : List Int) : Prop := ∃ (i1 i2 i3 i4 i5 : Int), H p = some (.lst [.ref q, .int i1, .int i2, .int i3, .int i4, .int i5]) ∧ H q = some (.lst (ns.map V.int)) ∧ q ≠ p ∧ 0 ≤ i1
theorem Pool.some {H : Hp} {p q : Addr} {ns : List Int} (h : Pool H p q ns) : ∃ o, H p = Option.some o := by
  obtain ⟨i1, i2, i3, i4, i5, h, _⟩ := h
  exact ⟨_, h⟩
theorem Pool.some2 {H : Hp} {p q : Addr} {ns : List Int} (h : Pool H p q ns) : ∃ o, H q = Option.some o := by
  obtain ⟨i1, i2, i3, i4, i5, _, h, _⟩ := h
  exact ⟨_, h⟩
theorem Pool.keep {H H' : Hp} {p q : Addr} {ns : List Int} {W : List Addr} (h : Pool H p q ns) (k : Keep W H H') (w : ∀ b, b ∈ W → H b = none) : Pool H' p q ns := by
  obtain ⟨i1, i2, i3, i4, i5, h1, h2, h3, h4⟩ := h
  have no : ∀ b o, H b = Option.some o → b ∉ W := fun b o e z => by rw [w b z] at e; cases e
  exact ⟨i1, i2, i3, i4, i5, k _ _ h1 (no _ _ h1), k _ _ h2 (no _ _ h2), h3, h4⟩
theorem Pool.keep0 {H H' : Hp} {p q : Addr} {ns : List Int} (h : Pool H p q ns) (k : Keep [] H H') : Pool H' p q ns := h.keep k fun _ z => by cases z
theorem Pool.new {H : Hp} {p q a : Addr} {ns : List Int} {o : HO} (h : Pool H p q ns) (n : H a = none) : Pool (upd H a o) p q ns := h.keep0 (Keep.new n)
theorem Pool.own {H : Hp} {p q a : Addr} {ns : List Int} {o : HO} (h : Pool H p q ns) (h1 : a ≠ p) (h2 : a ≠ q) : Pool (upd H a o) p q ns := by
  obtain ⟨i1, i2, i3, i4, i5, g1, g2, g3, g4⟩ := h
  exact ⟨i1, i2, i3, i4, i5, by rw [upd_ne h1.symm]; exact g1, by rw [upd_ne h2.symm]; exact g2, g3, g4⟩
theorem Pool.free {H H' : Hp} {p q l : Addr} {ns : List Int} (P : Pool H' p q ns) (e : Keep [p] H H') (h : H' l = none) : H l = none := by
  obtain ⟨o, ho⟩ := P.some
  exact e.free1 ho h
theorem Pool.nep {H : Hp} {p q l : Addr} {ns : List Int} (P : Pool H p q ns) (h : H l = none) : l ≠ p := by
  obtain ⟨o, ho⟩ := P.some
  exact (ne_of_none ho h).symm
theorem Pool.neq {H : Hp} {p q l : Addr} {ns : List Int} (P : Pool H p q ns) (h : H l = none) : l ≠ q := by
  obtain ⟨o, ho⟩ := P.some2
  exact (ne_of_none ho h).symm
def sp_law_pool (K : PySem.W.Frag) : Sp := fun vs H Q _ => ∃ (a : Addr) (ns : List Int) (b : Int), vs = [.ref a, .int b] ∧ SqL K H a (ns.map V.int) ∧
  ∀ p q H', H p = none → Pool H' p q ns → Keep [] H H' → Q (.ref p) H'
def sp_law_draw : Sp := fun vs H Q _ => ∃ (p q : Addr) (ns : List Int) (size : Int), vs = [.ref p, .int size] ∧ 0 < size ∧ size < 2 ^ 60 ∧ Pool H p q ns ∧
  ∀ r H', 0 ≤ r → r < size → Pool H' p q ns → Keep [p] H H' → Q (.int r) H'
section
variable {P : Program} {w : World} {K : PySem.W.Frag} {mg : Str → Option Value} {base : Heap} {C_Cursor : Addr} {C_GameError : Addr} {C_BadText : Addr} {f_BadText___init : Addr} {T_SIGNS : Addr}
theorem ok_law_pool {f : Addr} {fd : FuncData} (D : C8.Def K mg "_law_pool" s_law_pool f fd) (b : Binds K fd ["script", "budget"] []) (T : Txt K mg C_Cursor C_GameError C_BadText T_SIGNS) : C8.Cal P w K mg base 1 "_law_pool" (sp_law_pool K) [] := by
  refine cal0 D b .nil sc_law_pool (fun vs H Q E h => ?_) (fun cdv A outer s H vs Q E hr h => ?_)
  · obtain ⟨a, ns, b, rfl, _⟩ := h
    rfl
  · obtain ⟨a, ns, b, rfl, hS, k⟩ := h
    refine ⟨_, (pss_one (ps_ret (pe_lst (pa_cons (pe_callTy call_list_of (by rfl) T.n_list bo_list (pa_cons (pv 0) pa_nil)) (pa_cons pe_int (pa_cons pe_int (pa_cons pe_int (pa_cons pe_int (pa_cons (pv 1) pa_nil))))))))), ?_⟩
    refine ⟨_, rfl, _, _, rfl, .inl hS, fun l hl => ⟨_, rfl, (by show 6 ≤ sizeLine; decide), fun p hp => ?_⟩⟩
    have hlp : l ≠ p := ne_of_none (H := upd H l (.lst (ns.map V.int))) upd_same hp
    have hp0 : H p = none := (Keep.new (W := []) hl).free hp
    refine k p l _ hp0 ⟨_, _, _, _, _, upd_same, (by rw [upd_ne hlp]; exact upd_same), hlp, Int.le_refl 0⟩ ((Keep.new hl).then_new hp)
theorem ok_law_draw {f : Addr} {fd : FuncData} (D : C8.Def K mg "_law_draw" s_law_draw f fd) (b : Binds K fd ["pool", "size"] []) (T : Txt K mg C_Cursor C_GameError C_BadText T_SIGNS) : C8.Cal P w K mg base 1 "_law_draw" sp_law_draw [] := by
  refine cal0 D b .nil sc_law_draw (fun vs H Q E h => ?_) (fun cdv A outer s H vs Q E hr h => ?_)
  · obtain ⟨p, q, ns, size, rfl, _⟩ := h
    rfl
  · obtain ⟨p, q, ns, size, rfl, hs0, hs1, ⟨i1, i2, i3, i4, i5, h1, h2, hqp, hi1⟩, k⟩ := h
    have hbig : (2147483647 : Int) > 0 := by decide
    have cdg : ∀ {i : Int}, CDivG i size := ⟨by omega, Nat.lt_trans (log2_lt9 (b := 60) (by omega) (by decide)) (by decide)⟩
    refine ⟨_, (pss_cut (ps_if (PW.pt (pw_and (pt_cmpR op_le (pe_ix ix_list (pv 0) pe_int (fun _ _ => rfl)) pe_int (nomark _)) (pw_and (pt_cmpR op_le (pe_ix ix_list (pv 0) pe_int (fun _ _ => rfl)) pe_int (nomark _)) (pw_and1 (pt_cmpR op_lt (pe_ix ix_list (pv 0) pe_int (fun _ _ => rfl)) (pe_callB call_len_seq (by rfl) T.n_len bo_len (pa_cons (pe_ix ix_list (pv 0) pe_int (fun _ _ => rfl)) pa_nil)) (nomark _))))))
  (pss_cons (ps_set (i := 2) sc_law_draw.nd rfl (by first | exact Or.inl rfl | exact Or.inr rfl) (pe_ix ix_list (pe_ix ix_list (pv 0) pe_int (fun _ _ => rfl)) (pe_ix ix_list (pv 0) pe_int (fun _ _ => rfl)) (fun _ _ => rfl)))
  (pss_cons (ps_asg (pe_op op_add (pe_ix ix_list (pv 0) pe_int (fun _ _ => rfl)) pe_int) (pg_sub (pv 0) pe_int set_list))
  (pss_cons (ps_asg (pe_op op_mod (pe_callTy call_int1 (by rfl) T.n_int bo_int (pa_cons (pe_op op_add (pe_op op_mul (pe_ix ix_list (pv 0) pe_int (fun _ _ => rfl)) pe_int) (pv 2)) pa_nil)) pe_int) (pg_sub (pv 0) pe_int set_list))
  (pss_cons (ps_asg pe_int (pg_sub (pv 0) pe_int set_list))
  (pss_one (ps_if (pt_cmpR op_ge (pv 2) (pe_op op_pow pe_int pe_int) (nomark _))
    (pss_one (ps_asg (pv 2) (pg_sub (pv 0) pe_int set_list)))
    pss_nil))))))
  pss_nil)
(pss_cons (ps_if (pt_cmpR op_gt (pe_ix ix_list (pv 0) pe_int (fun _ _ => rfl)) pe_int (nomark _))
  (pss_cons (ps_set (i := 3) sc_law_draw.nd rfl (by first | exact Or.inl rfl | exact Or.inr rfl) (pe_op op_mod (pe_callTy call_int1 (by rfl) T.n_int bo_int (pa_cons (pe_ix ix_list (pv 0) pe_int (fun _ _ => rfl)) pa_nil)) (pv 1)))
  (pss_cons (ps_asg (pe_op op_fdivG (pe_ix ix_list (pv 0) pe_int (fun _ _ => rfl)) (pv 1)) (pg_sub (pv 0) pe_int set_list))
  (pss_cons (ps_asg pe_int (pg_sub (pv 0) pe_int set_list))
  (pss_one (ps_ret (pv 3))))))
  pss_nil)
(pss_cons (ps_asg (pe_op op_sub (pe_ix ix_list (pv 0) pe_int (fun _ _ => rfl)) pe_int) (pg_sub (pv 0) pe_int set_list))
(pss_cons (ps_asg (pe_op op_mod (pe_callTy call_int1 (by rfl) T.n_int bo_int (pa_cons (pe_op op_add (pe_op op_mul (pe_ix ix_list (pv 0) pe_int (fun _ _ => rfl)) pe_int) pe_int) pa_nil)) pe_int) (pg_sub (pv 0) pe_int set_list))
(pss_one (ps_ret (pe_op op_mod (pe_op op_mod (pe_callTy call_int1 (by rfl) T.n_int bo_int (pa_cons (pe_op op_add (pe_op op_mul (pe_ix ix_list (pv 0) pe_int (fun _ _ => rfl)) pe_int) pe_int) pa_nil)) pe_int) (pv 1)))))))), ?_⟩
    -- the state between the statements
    refine ⟨fun σ H' => ∃ (c : Option V) (j1 j2 j3 j4 j5 : Int), σ = [some (.ref p), some (.int size), c, none] ∧ H' p = some (.lst [.ref q, .int j1, .int j2, .int j3, .int j4, .int j5]) ∧ Keep [p] H H' ∧ 0 ≤ j1, ?_, ?_⟩
    · have stay : ∃ (c : Option V) (j1 j2 j3 j4 j5 : Int), ([some (.ref p), some (.int size), none, none] : List (Option V)) = [some (.ref p), some (.int size), c, none] ∧ H p = some (.lst [.ref q, .int j1, .int j2, .int j3, .int j4, .int j5]) ∧ Keep [p] H H ∧ 0 ≤ j1 :=
        ⟨_, i1, i2, i3, i4, i5, rfl, h1, Keep.refl _ _, hi1⟩
      refine ⟨_, rfl, _, _, _, _, rfl, rfl, SqL.of h1, rfl, _, _, rfl, rfl, _, rfl, iteD (fun _ => ?_) (fun _ => stay)⟩
      refine ⟨_, rfl, _, _, _, _, rfl, rfl, SqL.of h1, rfl, _, _, rfl, rfl, _, rfl, iteD (fun _ => ?_) (fun _ => stay)⟩
      refine ⟨_, rfl, _, _, _, _, rfl, rfl, SqL.of h1, rfl, _, rfl, _, _, _, _, rfl, rfl, SqL.of h1, rfl, _, _, rfl, .inl (SqL.of h2), _, _, rfl, rfl, _, rfl, iteD (fun hlt => ?_) (fun _ => stay)⟩
      obtain ⟨j, rfl⟩ : ∃ j : Nat, i1 = (j : Int) := ⟨i1.toNat, by omega⟩
      rw [List.length_map] at hlt
      have hj : j < ns.length := by omega
      have hc : (ns.map V.int)[j]? = some (.int ns[j]) := by rw [List.getElem?_map, List.getElem?_eq_getElem hj]; rfl
      refine ⟨_, rfl, _, _, _, _, rfl, rfl, SqL.of h1, rfl, _, rfl, _, _, _, _, rfl, rfl, SqL.of h1, rfl, _, _, _, _, rfl, rfl, SqL.of h2, atI_nat hc, ?_⟩
      refine ⟨_, rfl, _, _, _, _, rfl, rfl, SqL.of h1, rfl, _, _, rfl, rfl, _, rfl, _, _, _, _, rfl, rfl, h1, rfl, ?_⟩
      refine ⟨_, rfl, _, _, _, _, rfl, rfl, SqL.of upd_same, rfl, _, _, rfl, rfl, .inr ⟨by decide, by decide⟩, _, rfl, _, _, rfl, rfl, .inl ⟨_, rfl, _, _, rfl, rfl, hbig, _, rfl, _, _, _, _, rfl, rfl, upd_same, rfl, ?_⟩⟩
      refine ⟨_, rfl, _, _, _, _, rfl, rfl, upd_same, rfl, ?_⟩
      have kk : Keep [p] H (upd (upd (upd H p (.lst (List.set [.ref q, .int (j : Int), .int i2, .int i3, .int i4, .int i5] 1 (.int ((j : Int) + 1))))) p
        (.lst (List.set (List.set [.ref q, .int (j : Int), .int i2, .int i3, .int i4, .int i5] 1 (.int ((j : Int) + 1))) 3 (.int ((i3 * 31 + ns[j]) % 2147483647))))) p
        (.lst (List.set (List.set (List.set [.ref q, .int (j : Int), .int i2, .int i3, .int i4, .int i5] 1 (.int ((j : Int) + 1))) 3 (.int ((i3 * 31 + ns[j]) % 2147483647))) 4 (.int 7)))) :=
        ((Keep.at_ (List.mem_singleton.mpr rfl)).then_at (List.mem_singleton.mpr rfl)).then_at (List.mem_singleton.mpr rfl)
      refine ⟨_, rfl, _, _, rfl, rfl, ⟨by decide, by decide, by decide⟩, _, _, rfl, rfl, _, rfl, iteD (fun _ => ?_) (fun _ => ?_)⟩
      · refine ⟨_, rfl, _, rfl, _, _, _, _, rfl, rfl, upd_same, rfl, ?_⟩
        exact ⟨_, _, _, _, _, _, rfl, upd_same, kk.then_at (List.mem_singleton.mpr rfl), by omega⟩
      · exact ⟨_, _, _, _, _, _, rfl, upd_same, kk, by omega⟩
    · rintro σ' H' ⟨c, j1, j2, j3, j4, j5, rfl, g1, kk, hj1⟩
      have g2 : H' q = some (.lst (ns.map V.int)) := kk q _ h2 (by simpa using hqp)
      refine ⟨_, rfl, _, _, _, _, rfl, rfl, SqL.of g1, rfl, _, _, rfl, rfl, _, rfl, iteD (fun _ => ?_) (fun _ => ?_)⟩
      · refine ⟨_, rfl, _, _, _, _, rfl, rfl, SqL.of g1, rfl, .inl ⟨_, rfl, _, rfl, _, _, rfl, rfl, hs0, ?_⟩⟩
        refine ⟨_, rfl, _, _, _, _, rfl, rfl, SqL.of g1, rfl, _, rfl, _, _, rfl, rfl, cdg, _, rfl, _, _, _, _, rfl, rfl, g1, rfl, ?_⟩
        refine ⟨_, rfl, _, _, _, _, rfl, rfl, upd_same, rfl, ?_⟩
        refine ⟨_, rfl, ?_⟩
        refine k _ _ (Int.emod_nonneg _ (by omega)) (Int.emod_lt_of_pos _ hs0) ⟨_, _, _, _, _, upd_same, ?_, hqp, hj1⟩ ((kk.then_at (List.mem_singleton.mpr rfl)).then_at (List.mem_singleton.mpr rfl))
        rw [upd_ne hqp, upd_ne hqp]; exact g2
      · refine ⟨_, rfl, _, _, _, _, rfl, rfl, SqL.of g1, rfl, _, _, rfl, rfl, _, rfl, _, _, _, _, rfl, rfl, g1, rfl, ?_⟩
        refine ⟨_, rfl, _, _, _, _, rfl, rfl, SqL.of upd_same, rfl, _, _, rfl, rfl, .inr ⟨by decide, by decide⟩, _, _, rfl, rfl, .inl ⟨_, rfl, _, _, rfl, rfl, hbig, _, rfl, _, _, _, _, rfl, rfl, upd_same, rfl, ?_⟩⟩
        refine ⟨_, rfl, _, _, _, _, rfl, rfl, SqL.of upd_same, rfl, _, _, rfl, rfl, .inr ⟨by decide, by decide⟩, _, _, rfl, rfl, .inl ⟨_, rfl, _, _, rfl, rfl, hbig, _, rfl, _, _, rfl, rfl, hs0, ?_⟩⟩
        refine k _ _ (Int.emod_nonneg _ (by omega)) (Int.emod_lt_of_pos _ hs0) ⟨_, _, _, _, _, upd_same, ?_, hqp, hj1⟩ ((kk.then_at (List.mem_singleton.mpr rfl)).then_at (List.mem_singleton.mpr rfl))
        rw [upd_ne hqp, upd_ne hqp]; exact g2
end

/-! the law's small draws -/
def sp_law_few : Sp := fun vs H Q _ => ∃ (p q : Addr) (ns : List Int) (most : Int), vs = [.ref p, .int most] ∧ 0 ≤ most ∧ most < 1000000 ∧ Pool H p q ns ∧
  ∀ r H', 0 ≤ r → r ≤ most → Pool H' p q ns → Keep [p] H H' → Q (.int r) H'
section
variable {P : Program} {w : World} {K : PySem.W.Frag} {mg : Str → Option Value} {base : Heap} {C_Cursor : Addr} {C_GameError : Addr} {C_BadText : Addr} {f_BadText___init : Addr} {T_SIGNS : Addr}
theorem ok_law_few {f : Addr} {fd : FuncData} (D : C8.Def K mg "_law_few" s_law_few f fd) (b : Binds K fd ["pool", "most"] []) (T : Txt K mg C_Cursor C_GameError C_BadText T_SIGNS) (c_law_draw : C8.Cal P w K mg base 1 "_law_draw" sp_law_draw []) : C8.Cal P w K mg base 2 "_law_few" sp_law_few [] := by
  refine cal0 D b .nil sc_law_few (fun vs H Q E h => ?_) (fun cdv A outer s H vs Q E hr h => ?_)
  · obtain ⟨p, q, ns, m, rfl, _⟩ := h
    rfl
  · obtain ⟨p, q, ns, m, rfl, m0, m1, hP, k⟩ := h
    refine ⟨_, (pss_cons (ps_set (i := 2) sc_law_few.nd rfl (by first | exact Or.inl rfl | exact Or.inr rfl) (pe_c c_law_draw hr (by first | exact Nat.le_refl _ | decide | omega) rfl (pa_cons (pv 0) (pa_cons pe_int pa_nil))))
(pss_cons (ps_if (pt_cmpR op_eq (pv 2) pe_int (nomark _))
  (pss_one (ps_ret (pe_c c_law_draw hr (by first | exact Nat.le_refl _ | decide | omega) rfl (pa_cons (pv 0) (pa_cons (pe_op op_add (pv 1) pe_int) pa_nil)))))
  pss_nil)
(pss_one (ps_ret (pe_callB (call_min2 rfl) (by rfl) T.n_min bo_min (pa_cons (pv 2) (pa_cons (pv 1) pa_nil))))))), ?_⟩
    refine ⟨_, rfl, p, q, ns, 4, rfl, by decide, by decide, hP, fun r H1 r0 r1 P1 K1 => ?_⟩
    refine ⟨_, rfl, rfl, _, rfl, iteD (fun _ => ?_) (fun _ => ?_)⟩
    · refine ⟨_, rfl, _, rfl, _, _, rfl, rfl, p, q, ns, _, rfl, by omega, by omega, P1, fun r2 H2 z0 z1 P2 K2 => ?_⟩
      exact k _ _ z0 (by omega) P2 (K1.trans K2)
    · refine ⟨_, rfl, _, rfl, _, _, rfl, k _ _ ?_ ?_ P1 K1⟩
      · split <;> omega
      · split <;> omega
end

/-- tuples stand -/
def TK (H H' : Hp) : Prop := ∀ b xs, H b = some (.tup xs) → H' b = some (.tup xs)
theorem TK.refl (H : Hp) : TK H H := fun _ _ h => h
theorem TK.trans {H H1 H2 : Hp} (a : TK H H1) (b : TK H1 H2) : TK H H2 := fun c xs h => b c xs (a c xs h)
theorem TK.new {H : Hp} {p : Addr} {o : HO} (h : H p = none) : TK H (upd H p o) := fun b xs q => by rw [upd_ne (ne_of_none q h)]; exact q
theorem TK.lst {H : Hp} {p : Addr} {o : HO} {ys : List V} (h : H p = some (.lst ys)) : TK H (upd H p o) := fun b xs q => by
  rw [upd_ne (ne_of q h (by intro z; cases z))]; exact q
theorem Keep.tk {H H' : Hp} (k : Keep [] H H') : TK H H' := fun b xs q => k b _ q (by simp)
theorem Keep.tk1 {H H' : Hp} {p : Addr} {ys : List V} (k : Keep [p] H H') (h : H p = some (.lst ys)) : TK H H' := fun b xs q => k b _ q (by
  have := ne_of q h (by intro z; cases z)
  simpa using this)

/-! tuples that stand, in the walk's heap or in the module's -/
def KT (K : PySem.W.Frag) (a : Addr) (xs : List V) : Prop := ∃ (o : Obj) (its : Array Value) (n : Nat), K.lookup a = some o ∧ o.cls = .type "tuple" ∧ o.data = .seq its n ∧ its.size ≤ sizeLine ∧ Vals xs its.toList
def At (K : PySem.W.Frag) (H : Hp) (a : Addr) (xs : List V) : Prop := H a = some (.tup xs) ∨ KT K a xs
theorem At.sq {K : PySem.W.Frag} {H : Hp} {a : Addr} {xs : List V} (h : At K H a xs) : SqT K H a xs := by
  rcases h with h | h
  · exact SqT.of h
  · exact .inr h
theorem At.ty {K : PySem.W.Frag} {H : Hp} {a : Addr} {xs : List V} (h : At K H a xs) : TyX K H (.ref a) (.type "tuple") := by
  rcases h with h | ⟨o, its, n, h, c, _⟩
  · exact .base (.tup h)
  · exact .kTuple h c
theorem At.tk {K : PySem.W.Frag} {H H' : Hp} {a : Addr} {xs : List V} (k : TK H H') (h : At K H a xs) : At K H' a xs := by
  rcases h with h | h
  · exact .inl (k _ _ h)
  · exact .inr h
/-! the law's look whether two values are the same: only the answer True is told -/
def SameV (K : PySem.W.Frag) : Nat → Hp → V → V → Prop
  | 0, _, _, _ => False
  | n + 1, H, a, d => (a = d ∧ ((∃ x, d = .str x) ∨ (∃ i, d = .int i) ∨ (∃ b, d = .bl b) ∨ d = .non)) ∨
    ∃ p q xs ys, a = .ref p ∧ d = .ref q ∧ ((H p = some (.lst xs) ∧ H q = some (.lst ys)) ∨ (At K H p xs ∧ At K H q ys)) ∧ xs.length = ys.length ∧ xs.length ≤ sizeLine ∧
      ∀ (i : Nat) x y, xs[i]? = some x → ys[i]? = some y → SameV K n H x y
def sp_law_same (K : PySem.W.Frag) (n : Nat) : Sp := fun vs H Q _ => ∃ a d, vs = [a, d] ∧ SameV K n H a d ∧ Q (.bl true) H
theorem sameV_atom {K : PySem.W.Frag} {n : Nat} {H : Hp} {d : V} (h : (∃ x, d = .str x) ∨ (∃ i, d = .int i) ∨ (∃ b, d = .bl b) ∨ d = .non) : SameV K (n + 1) H d d := .inl ⟨rfl, h⟩
section
variable {K : PySem.W.Frag}
theorem kLT : PySem.W.kitOne K (.type "list") (.type "tuple") = some false := kit_ty (by decide +kernel)
theorem kLL : PySem.W.kitOne K (.type "list") (.type "list") = some true := kit_ty (by decide +kernel)
theorem kTT : PySem.W.kitOne K (.type "tuple") (.type "tuple") = some true := kit_ty (by decide +kernel)
theorem kTL : PySem.W.kitOne K (.type "tuple") (.type "list") = some false := kit_ty (by decide +kernel)
theorem kST : PySem.W.kitOne K (.type "str") (.type "tuple") = some false := kit_ty (by decide +kernel)
theorem kSL : PySem.W.kitOne K (.type "str") (.type "list") = some false := kit_ty (by decide +kernel)
theorem kSB : PySem.W.kitOne K (.type "str") (.type "bool") = some false := kit_ty (by decide +kernel)
theorem kSI : PySem.W.kitOne K (.type "str") (.type "int") = some false := kit_ty (by decide +kernel)
theorem kSS : PySem.W.kitOne K (.type "str") (.type "str") = some true := kit_ty (by decide +kernel)
theorem kIT : PySem.W.kitOne K (.type "int") (.type "tuple") = some false := kit_ty (by decide +kernel)
theorem kIL : PySem.W.kitOne K (.type "int") (.type "list") = some false := kit_ty (by decide +kernel)
theorem kIB : PySem.W.kitOne K (.type "int") (.type "bool") = some false := kit_ty (by decide +kernel)
theorem kII : PySem.W.kitOne K (.type "int") (.type "int") = some true := kit_ty (by decide +kernel)
theorem kBT : PySem.W.kitOne K (.type "bool") (.type "tuple") = some false := kit_ty (by decide +kernel)
theorem kBL : PySem.W.kitOne K (.type "bool") (.type "list") = some false := kit_ty (by decide +kernel)
theorem kBB : PySem.W.kitOne K (.type "bool") (.type "bool") = some true := kit_ty (by decide +kernel)
theorem kBI : PySem.W.kitOne K (.type "bool") (.type "int") = some true := kit_ty (by decide +kernel)
theorem kNT : PySem.W.kitOne K (.type "NoneType") (.type "tuple") = some false := kit_ty (by decide +kernel)
theorem kNL : PySem.W.kitOne K (.type "NoneType") (.type "list") = some false := kit_ty (by decide +kernel)
theorem kNB : PySem.W.kitOne K (.type "NoneType") (.type "bool") = some false := kit_ty (by decide +kernel)
theorem kNI : PySem.W.kitOne K (.type "NoneType") (.type "int") = some false := kit_ty (by decide +kernel)
end

section
variable {P : Program} {w : World} {K : PySem.W.Frag} {mg : Str → Option Value} {base : Heap} {C_Cursor : Addr} {C_GameError : Addr} {C_BadText : Addr} {f_BadText___init : Addr} {T_SIGNS : Addr}
theorem ok_law_same0 {f : Addr} {fd : FuncData} (D : C8.Def K mg "_law_same" s_law_same f fd) (b : Binds K fd ["actual", "due"] []) : C8.Cal P w K mg base 0 "_law_same" (sp_law_same K 0) [] :=
  ⟨f, fd, ["actual", "due"], [], ⟨fun vs H Q E h => (by obtain ⟨a, d, rfl, _⟩ := h; rfl), fun A outer s H args us vs Q E _ _ _ _ h => (by obtain ⟨a, d, _, z, _⟩ := h; exact z.elim)⟩, D.mgf, D.kp, b, .nil⟩
theorem ok_law_same {f : Addr} {fd : FuncData} (D : C8.Def K mg "_law_same" s_law_same f fd) (b : Binds K fd ["actual", "due"] []) (T : Txt K mg C_Cursor C_GameError C_BadText T_SIGNS) {n k : Nat} (c_law_same : C8.Cal P w K mg base k "_law_same" (sp_law_same K n) []) :
    C8.Cal P w K mg base (k + 1) "_law_same" (sp_law_same K (n + 1)) [] := by
  refine cal0 D b .nil sc_law_same (fun vs H Q E h => ?_) (fun cdv A outer s H vs Q E hr h => ?_)
  · obtain ⟨a, d, rfl, _⟩ := h
    rfl
  · obtain ⟨a, d, rfl, hs, k⟩ := h
    have hu := hu_of hr
    refine ⟨_, (pss_cons (ps_if (PW.pt (pw_or (pt_val (pe_callB call_isi (by rfl) T.n_isinstance bo_isinstance (pa_cons (pv 1) (pa_cons (pe_bltn (v := .ty "tuple") (by rfl) T.n_tuple bo_tuple rfl) pa_nil)))) (pw_or1 (pt_val (pe_callB call_isi (by rfl) T.n_isinstance bo_isinstance (pa_cons (pv 1) (pa_cons (pe_bltn (v := .ty "list") (by rfl) T.n_list bo_list rfl) pa_nil)))))))
  (pss_cons (ps_if (PW.pt (pw_or (pt_cmpR op_ne (pe_callB call_isi (by rfl) T.n_isinstance bo_isinstance (pa_cons (pv 1) (pa_cons (pe_bltn (v := .ty "tuple") (by rfl) T.n_tuple bo_tuple rfl) pa_nil))) (pe_callB call_isi (by rfl) T.n_isinstance bo_isinstance (pa_cons (pv 0) (pa_cons (pe_bltn (v := .ty "tuple") (by rfl) T.n_tuple bo_tuple rfl) pa_nil))) (nomark _)) (pw_or1 (pt_cmpR op_ne (pe_callB call_isi (by rfl) T.n_isinstance bo_isinstance (pa_cons (pv 1) (pa_cons (pe_bltn (v := .ty "list") (by rfl) T.n_list bo_list rfl) pa_nil))) (pe_callB call_isi (by rfl) T.n_isinstance bo_isinstance (pa_cons (pv 0) (pa_cons (pe_bltn (v := .ty "list") (by rfl) T.n_list bo_list rfl) pa_nil))) (nomark _)))))
    (pss_one (ps_ret pe_bl))
    pss_nil)
  (pss_cons (ps_if (pt_cmpR op_ne (pe_callB call_len_seq (by rfl) T.n_len bo_len (pa_cons (pv 0) pa_nil)) (pe_callB call_len_seq (by rfl) T.n_len bo_len (pa_cons (pv 1) pa_nil)) (nomark _))
    (pss_one (ps_ret pe_bl))
    pss_nil)
  (pss_cons (ps_for PassesOwn.never rfl (pi_range1 (by rfl) T.n_range (pa_cons (pe_callB call_len_seq (by rfl) T.n_len bo_len (pa_cons (pv 1) pa_nil)) pa_nil)) (pg_name (i := 2) sc_law_same.nd rfl (by first | exact Or.inl rfl | exact Or.inr rfl))
    (pss_one (ps_if (pt_not (pt_val (pe_c c_law_same hr (by first | exact Nat.le_refl _ | decide | omega) rfl (pa_cons (pe_ix ix_seq (pv 0) (pv 2) (fun _ _ => rfl)) (pa_cons (pe_ix ix_seq (pv 1) (pv 2) (fun _ _ => rfl)) pa_nil)))))
      (pss_one (ps_ret pe_bl))
      pss_nil)))
  (pss_one (ps_ret pe_bl)))))
  pss_nil)
(pss_cons (ps_if (PW.pt (pw_or (pt_cmpR op_isN (pv 1) pe_non (nomark _)) (pw_or1 (pt_val (pe_callB call_isi (by rfl) T.n_isinstance bo_isinstance (pa_cons (pv 1) (pa_cons (pe_bltn (v := .ty "bool") (by rfl) T.n_bool bo_bool rfl) pa_nil)))))))
  (pss_one (ps_ret (pe_and (pe_cmpR op_eq (pe_cmpR op_isN (pv 0) pe_non (nomark _)) (pe_cmpR op_isN (pv 1) pe_non (nomark _)) (nomark _)) (pe_and (pe_or (pe_cmpR op_isN (pv 1) pe_non (nomark _)) (pe_one (pe_callB call_isi (by rfl) T.n_isinstance bo_isinstance (pa_cons (pv 0) (pa_cons (pe_bltn (v := .ty "bool") (by rfl) T.n_bool bo_bool rfl) pa_nil))))) (pe_one (pe_cmpR op_eq (pv 0) (pv 1) (nomark _)))))))
  pss_nil)
(pss_cons (ps_if (pt_val (pe_callB call_isi (by rfl) T.n_isinstance bo_isinstance (pa_cons (pv 1) (pa_cons (pe_bltn (v := .ty "int") (by rfl) T.n_int bo_int rfl) pa_nil))))
  (pss_one (ps_ret (pe_and (pe_callB call_isi (by rfl) T.n_isinstance bo_isinstance (pa_cons (pv 0) (pa_cons (pe_bltn (v := .ty "int") (by rfl) T.n_int bo_int rfl) pa_nil))) (pe_and (pe_not (pe_callB call_isi (by rfl) T.n_isinstance bo_isinstance (pa_cons (pv 0) (pa_cons (pe_bltn (v := .ty "bool") (by rfl) T.n_bool bo_bool rfl) pa_nil)))) (pe_one (pe_cmpR op_eq (pv 0) (pv 1) (nomark _)))))))
  pss_nil)
(pss_one (ps_ret (pe_and (pe_callB call_isi (by rfl) T.n_isinstance bo_isinstance (pa_cons (pv 0) (pa_cons (pe_bltn (v := .ty "str") (by rfl) T.n_str bo_str rfl) pa_nil))) (pe_one (pe_cmpR op_eq (pv 0) (pv 1) (nomark _))))))))), ?_⟩
    -- the part behind the lengths, for lists and for tuples
    rcases hs with ⟨rfl, ⟨x, rfl⟩ | ⟨x, rfl⟩ | ⟨x, rfl⟩ | rfl⟩ | ⟨p, q, xs, ys, rfl, rfl, hh, hl, hz, hall⟩
    · refine ⟨_, rfl, _, _, _, _, _, rfl, .ty _, .base (.str x), kST, _, rfl, iteF ⟨_, rfl, _, _, _, _, _, rfl, .ty _, .base (.str x), kSL, _, rfl, iteF ?_⟩⟩
      refine ⟨_, rfl, rfl, _, rfl, iteDF (by simp) ⟨_, rfl, _, _, _, _, _, rfl, .ty _, .base (.str x), kSB, _, rfl, iteF ?_⟩⟩
      refine ⟨_, rfl, _, _, _, _, _, rfl, .ty _, .base (.str x), kSI, _, rfl, iteF ?_⟩
      refine ⟨_, rfl, _, _, _, _, _, rfl, .ty _, .base (.str x), kSS, _, rfl, iteT ⟨_, rfl, _, rfl, rfl, ?_⟩⟩
      rw [decide_eq_true rfl]; exact k
    · refine ⟨_, rfl, _, _, _, _, _, rfl, .ty _, .base (.int x), kIT, _, rfl, iteF ⟨_, rfl, _, _, _, _, _, rfl, .ty _, .base (.int x), kIL, _, rfl, iteF ?_⟩⟩
      refine ⟨_, rfl, rfl, _, rfl, iteDF (by simp) ⟨_, rfl, _, _, _, _, _, rfl, .ty _, .base (.int x), kIB, _, rfl, iteF ?_⟩⟩
      refine ⟨_, rfl, _, _, _, _, _, rfl, .ty _, .base (.int x), kII, _, rfl, iteT ?_⟩
      refine ⟨_, rfl, _, _, _, _, _, rfl, .ty _, .base (.int x), kII, _, rfl, iteT ⟨_, rfl, _, _, _, _, _, rfl, .ty _, .base (.int x), kIB, _, rfl, _, rfl, iteT ⟨_, rfl, _, rfl, rfl, ?_⟩⟩⟩
      rw [decide_eq_true rfl]; exact k
    · refine ⟨_, rfl, _, _, _, _, _, rfl, .ty _, .base (.bl x), kBT, _, rfl, iteF ⟨_, rfl, _, _, _, _, _, rfl, .ty _, .base (.bl x), kBL, _, rfl, iteF ?_⟩⟩
      refine ⟨_, rfl, rfl, _, rfl, iteDF (by simp) ⟨_, rfl, _, _, _, _, _, rfl, .ty _, .base (.bl x), kBB, _, rfl, iteT ?_⟩⟩
      refine ⟨_, rfl, rfl, _, rfl, rfl, rfl, _, rfl, iteDT (by simp) ?_⟩
      refine ⟨_, rfl, rfl, _, rfl, iteDF (by simp) ?_⟩
      refine ⟨_, rfl, _, _, _, _, _, rfl, .ty _, .base (.bl x), kBB, ?_⟩
      refine ⟨_, rfl, iteT ⟨_, rfl, _, rfl, rfl, ?_⟩⟩
      rw [decide_eq_true rfl]; exact k
    · refine ⟨_, rfl, _, _, _, _, _, rfl, .ty _, .base .non, kNT, _, rfl, iteF ⟨_, rfl, _, _, _, _, _, rfl, .ty _, .base .non, kNL, _, rfl, iteF ?_⟩⟩
      refine ⟨_, rfl, rfl, _, rfl, iteDT (by simp) ?_⟩
      refine ⟨_, rfl, rfl, _, rfl, rfl, rfl, _, rfl, iteDT (by simp) ?_⟩
      refine ⟨_, rfl, rfl, _, rfl, iteDT (by simp) ?_⟩
      refine ⟨_, rfl, iteT ⟨_, rfl, _, rfl, rfl, ?_⟩⟩
      rw [decide_eq_true rfl]; exact k
    · obtain ⟨t, b1, b2, ty1, ty2, k1, k2, hb, sq⟩ : ∃ (t : Value) (b1 b2 : Bool), TyX K H (.ref p) t ∧ TyX K H (.ref q) t ∧ PySem.W.kitOne K t (.type "tuple") = some b1 ∧ PySem.W.kitOne K t (.type "list") = some b2 ∧ (b1 = true ∨ b2 = true) ∧
          ((SqL K H p xs ∧ SqL K H q ys) ∨ (SqT K H p xs ∧ SqT K H q ys)) := by
        rcases hh with ⟨h1, h2⟩ | ⟨h1, h2⟩
        · exact ⟨_, _, _, .base (.lst h1), .base (.lst h2), kLT, kLL, .inr rfl, .inl ⟨SqL.of h1, SqL.of h2⟩⟩
        · exact ⟨_, _, _, h1.ty, h2.ty, kTT, kTL, .inl rfl, .inr ⟨h1.sq, h2.sq⟩⟩
      have sqp : SqL K H p xs ∨ SqT K H p xs := sq.elim (fun z => .inl z.1) fun z => .inr z.1
      have sqq : SqL K H q ys ∨ SqT K H q ys := sq.elim (fun z => .inl z.2) fun z => .inr z.2
      have bz : (ys.length : Int) < 2 ^ 62 := by
        have e : sizeLine = 16777216 := sizeLine_eq
        have : ys.length ≤ 16777216 := by omega
        omega
      -- the part behind the first test
      have rest : ∀ {D : Ends} {t1 : TS}, t1 D [some (.ref p), some (.ref q), none] H → t1 D [some (.ref p), some (.ref q), none] H := fun z => z
      refine ⟨_, rfl, _, _, _, _, _, rfl, .ty _, ty2, k1, _, rfl, iteB (fun e1 => ?_) (fun e1 => ⟨_, rfl, _, _, _, _, _, rfl, .ty _, ty2, k2, _, rfl, iteB (fun e2 => ?_) (fun e2 => ?_)⟩)⟩
      rotate_left 2
      · rcases hb with z | z
        · rw [e1] at z; cases z
        · rw [e2] at z; cases z
      all_goals
        refine ⟨_, rfl, _, _, _, _, _, rfl, .ty _, ty2, k1, _, rfl, _, _, _, _, _, rfl, .ty _, ty1, k1, rfl, _, rfl, iteNF (by simp) ?_⟩
        refine ⟨_, rfl, _, _, _, _, _, rfl, .ty _, ty2, k2, _, rfl, _, _, _, _, _, rfl, .ty _, ty1, k2, rfl, _, rfl, iteNF (by simp) ?_⟩
        refine ⟨_, rfl, _, _, rfl, sqp, _, rfl, _, _, rfl, sqq, rfl, _, rfl, iteNF (by rw [hl]) ?_⟩
        refine ⟨_, rfl, _, _, rfl, sqq, _, rfl, by omega, bz, for_range (lo := 0) (n := ys.length) (fun i σ H' => ∃ kv, σ = [some (.ref p), some (.ref q), kv] ∧ H' = H) ⟨none, rfl, rfl⟩ ?_ ?_⟩
        · rintro i σ H' hi ⟨kv, rfl, rfl⟩
          have hx : xs[i]? = some (xs[i]'(by omega)) := List.getElem?_eq_getElem _
          have hy : ys[i]? = some ys[i] := List.getElem?_eq_getElem _
          have e0 : (0 : Int) + (i : Int) = (i : Int) := by omega
          rw [e0]
          rcases sq with ⟨s1, s2⟩ | ⟨s1, s2⟩
          · refine ⟨_, rfl, _, rfl, .inl ⟨_, _, _, _, rfl, rfl, s1, atI_nat hx, _, rfl, _, rfl, .inl ⟨_, _, _, _, rfl, rfl, s2, atI_nat hy, ?_⟩⟩⟩
            exact ⟨_, _, rfl, hall i _ _ hx hy, _, rfl, iteF ⟨_, rfl, rfl⟩⟩
          · refine ⟨_, rfl, _, rfl, .inr (.inl ⟨_, _, _, _, rfl, rfl, s1, atI_nat hx, _, rfl, _, rfl, .inr (.inl ⟨_, _, _, _, rfl, rfl, s2, atI_nat hy, ?_⟩)⟩)⟩
            exact ⟨_, _, rfl, hall i _ _ hx hy, _, rfl, iteF ⟨_, rfl, rfl⟩⟩
        · rintro σ H' ⟨kv, rfl, rfl⟩
          exact k
end

/-! expressions: data, values, folding -/
inductive Ex where
  | num (n : Int)
  | var (x : Str)
  | long
  | view (e : Ex)
  | pick (x : Str) (l r : Ex)
  | op (s : Str) (l r : Ex)
def dEx : Ex → PyData
  | .num n => .tuple [.str "number", .int n]
  | .var x => .tuple [.str "variable", .str x]
  | .long => .tuple [.str "long"]
  | .view e => .tuple [.str "view", dEx e]
  | .pick x l r => .tuple [.str "pick", .str x, dEx l, dEx r]
  | .op s l r => .tuple [.str s, dEx l, dEx r]
def Ex.dep : Ex → Nat
  | .num _ => 1
  | .var _ => 1
  | .long => 1
  | .view e => e.dep + 1
  | .pick _ l r => max l.dep r.dep + 1
  | .op _ l r => max l.dep r.dep + 1
theorem Ex.dep_pos : ∀ e : Ex, 1 ≤ e.dep
  | .num _ => Nat.le_refl _
  | .var _ => Nat.le_refl _
  | .long => Nat.le_refl _
  | .view e => by unfold Ex.dep; omega
  | .pick _ l r => by unfold Ex.dep; omega
  | .op _ l r => by unfold Ex.dep; omega
def sgL : List Str := ["+", "-", "*", "/", "mod", "<", "="]
def strOK (x : Str) : Bool := x.cps.all (· < 0x110000)
def Ex.Ok (ns ps : List Str) : Ex → Prop
  | .num n => 0 ≤ n ∧ n < 65536
  | .var x => x ∈ ns
  | .long => True
  | .view e => e.Ok ns ps
  | .pick x l r => x ∈ ps ∧ l.Ok ns ps ∧ r.Ok ns ps
  | .op s l r => s ∈ sgL ∧ l.Ok ns ps ∧ r.Ok ns ps
inductive EV (K : PySem.W.Frag) (H : Hp) : V → Ex → Prop
  | num {a : Addr} {n : Int} : At K H a [.str "number", .int n] → EV K H (.ref a) (.num n)
  | var {a : Addr} {x : Str} : At K H a [.str "variable", .str x] → EV K H (.ref a) (.var x)
  | long {a : Addr} : At K H a [.str "long"] → EV K H (.ref a) .long
  | view {a : Addr} {v : V} {e : Ex} : At K H a [.str "view", v] → EV K H v e → EV K H (.ref a) (.view e)
  | pick {a : Addr} {x : Str} {v u : V} {l r : Ex} : At K H a [.str "pick", .str x, v, u] → EV K H v l → EV K H u r → EV K H (.ref a) (.pick x l r)
  | op {a : Addr} {s : Str} {v u : V} {l r : Ex} : At K H a [.str s, v, u] → EV K H v l → EV K H u r → EV K H (.ref a) (.op s l r)
theorem EV.tk {K : PySem.W.Frag} {H H' : Hp} (k : TK H H') {v : V} {e : Ex} (h : EV K H v e) : EV K H' v e := by
  induction h with
  | num h => exact .num (h.tk k)
  | var h => exact .var (h.tk k)
  | long h => exact .long (h.tk k)
  | view h _ i => exact .view (h.tk k) i
  | pick h _ _ i j => exact .pick (h.tk k) i j
  | op h _ _ i j => exact .op (h.tk k) i j
theorem EV.dp {K : PySem.W.Frag} {H : Hp} {v : V} {e : Ex} (h : EV K H v e) : Dp K H v (dEx e) := by
  induction h with
  | num h => exact .tup h.sq (.cons (.str _) (.cons (.int _) .nil))
  | var h => exact .tup h.sq (.cons (.str _) (.cons (.str _) .nil))
  | long h => exact .tup h.sq (.cons (.str _) .nil)
  | view h _ i => exact .tup h.sq (.cons (.str _) (.cons i .nil))
  | pick h _ _ i j => exact .tup h.sq (.cons (.str _) (.cons (.str _) (.cons i (.cons j .nil))))
  | op h _ _ i j => exact .tup h.sq (.cons (.str _) (.cons i (.cons j .nil)))
theorem paired_get {F : V → V → Prop} {xs ys : List V} (h : Paired F xs ys) : xs.length = ys.length ∧ ∀ (i : Nat) x y, xs[i]? = some x → ys[i]? = some y → F x y := by
  induction h with
  | nil => exact ⟨rfl, fun i x y h => by simp at h⟩
  | cons h _ ih =>
    refine ⟨by rw [List.length_cons, List.length_cons, ih.1], fun i x y hx hy => ?_⟩
    cases i with
    | zero => simp at hx hy; subst hx hy; exact h
    | succ i => exact ih.2 i x y (by simpa using hx) (by simpa using hy)
theorem sameT {K : PySem.W.Frag} {H : Hp} {n : Nat} {p q : Addr} {xs ys : List V} (h1 : At K H p xs) (h2 : At K H q ys) (h : Paired (SameV K n H) xs ys) (hl : xs.length ≤ 1000000) : SameV K (n + 1) H (.ref p) (.ref q) :=
  .inr ⟨p, q, _, _, rfl, rfl, .inr ⟨h1, h2⟩, (paired_get h).1, smallM hl, (paired_get h).2⟩
theorem same_ev {K : PySem.W.Frag} {H : Hp} {v : V} {e : Ex} (h : EV K H v e) : ∀ {u : V} {n : Nat}, EV K H u e → e.dep ≤ n → SameV K (n + 1) H v u := by
  have st : ∀ {n : Nat} (x : Str), SameV K (n + 1) H (.str x) (.str x) := fun x => .inl ⟨rfl, .inl ⟨x, rfl⟩⟩
  have it : ∀ {n : Nat} (x : Int), SameV K (n + 1) H (.int x) (.int x) := fun x => .inl ⟨rfl, .inr (.inl ⟨x, rfl⟩)⟩
  induction h with
  | num h =>
    intro u n g d
    obtain ⟨n, rfl⟩ : ∃ m, n = m + 1 := ⟨n - 1, by have : (1 : Nat) ≤ n := d; omega⟩
    cases g with
    | num g => exact sameT h g (.cons (st _) (.cons (it _) .nil)) (by simp)
  | var h =>
    intro u n g d
    obtain ⟨n, rfl⟩ : ∃ m, n = m + 1 := ⟨n - 1, by have : (1 : Nat) ≤ n := d; omega⟩
    cases g with
    | var g => exact sameT h g (.cons (st _) (.cons (st _) .nil)) (by simp)
  | long h =>
    intro u n g d
    obtain ⟨n, rfl⟩ : ∃ m, n = m + 1 := ⟨n - 1, by have : (1 : Nat) ≤ n := d; omega⟩
    cases g with
    | long g => exact sameT h g (.cons (st _) .nil) (by simp)
  | view h _ i =>
    intro u n g d
    unfold Ex.dep at d
    obtain ⟨n, rfl⟩ : ∃ m, n = m + 1 := ⟨n - 1, by omega⟩
    cases g with
    | view g g1 => exact sameT h g (.cons (st _) (.cons (i g1 (by omega)) .nil)) (by simp)
  | pick h _ _ i j =>
    intro u n g d
    unfold Ex.dep at d
    obtain ⟨n, rfl⟩ : ∃ m, n = m + 1 := ⟨n - 1, by omega⟩
    cases g with
    | pick g g1 g2 => exact sameT h g (.cons (st _) (.cons (st _) (.cons (i g1 (by omega)) (.cons (j g2 (by omega)) .nil)))) (by simp)
  | op h _ _ i j =>
    intro u n g d
    unfold Ex.dep at d
    obtain ⟨n, rfl⟩ : ∃ m, n = m + 1 := ⟨n - 1, by omega⟩
    cases g with
    | op g g1 g2 => exact sameT h g (.cons (st _) (.cons (i g1 (by omega)) (.cons (j g2 (by omega)) .nil))) (by simp)
def EQ (a b : Ex) : Bool := PyData.eqv (dEx a) (dEx b)
def dL : Ex → List PyData
  | .num n => [.str "number", .int n]
  | .var x => [.str "variable", .str x]
  | .long => [.str "long"]
  | .view e => [.str "view", dEx e]
  | .pick x l r => [.str "pick", .str x, dEx l, dEx r]
  | .op s l r => [.str s, dEx l, dEx r]
theorem dEx_eq (e : Ex) : dEx e = .tuple (dL e) := by cases e <;> rfl
theorem eqvA_cons (x y : PyData) (xs ys : List PyData) : PyData.eqvAll (x :: xs) (y :: ys) = (PyData.eqv x y && PyData.eqvAll xs ys) := by rw [PyData.eqvAll]
theorem eqvA_len : ∀ xs ys : List PyData, PyData.eqvAll xs ys = true → xs.length = ys.length
  | [], [], _ => rfl
  | [], _ :: _, h => by simp [PyData.eqvAll] at h
  | _ :: _, [], h => by simp [PyData.eqvAll] at h
  | x :: xs, y :: ys, h => by
    rw [eqvA_cons, Bool.and_eq_true] at h
    rw [List.length_cons, List.length_cons, eqvA_len xs ys h.2]
theorem eqv_tup (xs ys : List PyData) : PyData.eqv (.tuple xs) (.tuple ys) = PyData.eqvAll xs ys := by rw [PyData.eqv]
theorem eqv_ti (xs : List PyData) (n : Int) : PyData.eqv (.tuple xs) (.int n) = false := by simp [PyData.eqv]
theorem eqv_it (xs : List PyData) (n : Int) : PyData.eqv (.int n) (.tuple xs) = false := by simp [PyData.eqv]
theorem eqv_ts (xs : List PyData) (n : Str) : PyData.eqv (.tuple xs) (.str n) = false := by simp [PyData.eqv]
theorem eqv_st (xs : List PyData) (n : Str) : PyData.eqv (.str n) (.tuple xs) = false := by simp [PyData.eqv]
theorem eqv_is (m : Int) (n : Str) : PyData.eqv (.int m) (.str n) = false := by simp [PyData.eqv]
theorem eqv_si (m : Int) (n : Str) : PyData.eqv (.str n) (.int m) = false := by simp [PyData.eqv]
theorem eqv_ii {m n : Int} (h : PyData.eqv (.int m) (.int n) = true) : m = n := by simpa [PyData.eqv] using h
theorem eqv_ss {m n : Str} (h : PyData.eqv (.str m) (.str n) = true) : m = n := by simpa [PyData.eqv] using h
theorem eq_sound : ∀ a b : Ex, EQ a b = true → a = b := by
  intro a
  have hEQ : ∀ x y : Ex, EQ x y = PyData.eqvAll (dL x) (dL y) := fun x y => by unfold EQ; rw [dEx_eq, dEx_eq, eqv_tup]
  induction a with
  | num n =>
    intro b h
    rw [hEQ] at h
    have hl := eqvA_len _ _ h
    cases b with
    | num m => simp only [dL, eqvA_cons, Bool.and_eq_true] at h; rw [eqv_ii h.2.1]
    | var m => simp only [dL, eqvA_cons, Bool.and_eq_true, eqv_is] at h; exact absurd h.2.1 (by simp)
    | view m => simp only [dL, eqvA_cons, Bool.and_eq_true] at h; rw [dEx_eq, eqv_it] at h; exact absurd h.2.1 (by simp)
    | _ => simp [dL] at hl
  | var n =>
    intro b h
    rw [hEQ] at h
    have hl := eqvA_len _ _ h
    cases b with
    | num m => simp only [dL, eqvA_cons, Bool.and_eq_true, eqv_si] at h; exact absurd h.2.1 (by simp)
    | var m => simp only [dL, eqvA_cons, Bool.and_eq_true] at h; rw [eqv_ss h.2.1]
    | view m => simp only [dL, eqvA_cons, Bool.and_eq_true] at h; rw [dEx_eq, eqv_st] at h; exact absurd h.2.1 (by simp)
    | _ => simp [dL] at hl
  | long =>
    intro b h
    rw [hEQ] at h
    have hl := eqvA_len _ _ h
    cases b with
    | long => rfl
    | _ => simp [dL] at hl
  | view e i =>
    intro b h
    rw [hEQ] at h
    have hl := eqvA_len _ _ h
    cases b with
    | num m => simp only [dL, eqvA_cons, Bool.and_eq_true] at h; rw [dEx_eq, eqv_ti] at h; exact absurd h.2.1 (by simp)
    | var m => simp only [dL, eqvA_cons, Bool.and_eq_true] at h; rw [dEx_eq, eqv_ts] at h; exact absurd h.2.1 (by simp)
    | view m => simp only [dL, eqvA_cons, Bool.and_eq_true] at h; rw [i m h.2.1]
    | _ => simp [dL] at hl
  | pick x l r i j =>
    intro b h
    rw [hEQ] at h
    have hl := eqvA_len _ _ h
    cases b with
    | pick y l' r' => simp only [dL, eqvA_cons, Bool.and_eq_true] at h; rw [eqv_ss h.2.1, i l' h.2.2.1, j r' h.2.2.2.1]
    | _ => simp [dL] at hl
  | op x l r i j =>
    intro b h
    rw [hEQ] at h
    have hl := eqvA_len _ _ h
    cases b with
    | op y l' r' => simp only [dL, eqvA_cons, Bool.and_eq_true] at h; rw [eqv_ss h.1, i l' h.2.1, j r' h.2.2.1]
    | _ => simp [dL] at hl
theorem sg_ok : ∀ s ∈ sgL, PyData.strOk s = true := by decide +kernel
theorem kw_ok : PyData.strOk "number" = true ∧ PyData.strOk "variable" = true ∧ PyData.strOk "long" = true ∧ PyData.strOk "view" = true ∧ PyData.strOk "pick" = true := by decide +kernel
theorem canLay_ex {ns ps : List Str} (hn : ∀ x ∈ ns, PyData.strOk x = true) (hp : ∀ x ∈ ps, PyData.strOk x = true) : ∀ e : Ex, e.Ok ns ps → (dEx e).canLay0 = true
  | .num _, _ => by simp only [dEx, PyData.canLay0, PyData.canLayAll0, Bool.and_true, kw_ok.1]
  | .var x, h => by simp only [dEx, PyData.canLay0, PyData.canLayAll0, Bool.and_true, hn x h, kw_ok.2.1]
  | .long, _ => by simp only [dEx, PyData.canLay0, PyData.canLayAll0, Bool.and_true, kw_ok.2.2.1]
  | .view e, h => by
    simp only [dEx, PyData.canLay0, PyData.canLayAll0, Bool.and_true, canLay_ex hn hp e h, kw_ok.2.2.2.1]
  | .pick x l r, ⟨h1, h2, h3⟩ => by
    simp only [dEx, PyData.canLay0, PyData.canLayAll0, Bool.and_true, canLay_ex hn hp l h2, canLay_ex hn hp r h3, hp x h1, kw_ok.2.2.2.2]
  | .op s l r, ⟨h1, h2, h3⟩ => by
    simp only [dEx, PyData.canLay0, PyData.canLayAll0, Bool.and_true, canLay_ex hn hp l h2, canLay_ex hn hp r h3, sg_ok s h1]
theorem depth_ex : ∀ e : Ex, (dEx e).depth ≤ e.dep + 1
  | .num _ => by simp [dEx, PyData.depth, PyData.depthAll, Ex.dep]
  | .var x => by simp [dEx, PyData.depth, PyData.depthAll, Ex.dep]
  | .long => by simp [dEx, PyData.depth, PyData.depthAll, Ex.dep]
  | .view e => by have := depth_ex e; simp only [dEx, PyData.depth, PyData.depthAll, Ex.dep]; omega
  | .pick x l r => by have := depth_ex l; have := depth_ex r; simp only [dEx, PyData.depth, PyData.depthAll, Ex.dep]; omega
  | .op s l r => by have := depth_ex l; have := depth_ex r; simp only [dEx, PyData.depth, PyData.depthAll, Ex.dep]; omega
def NamesOk (ns : List Str) : Prop := ∀ x ∈ ns, PyData.strOk x = true
theorem shaped_ex {ns ps : List Str} (hn : NamesOk ns) (hp : NamesOk ps) {e : Ex} (h : e.Ok ns ps) (hd : e.dep ≤ 60) : SeqAt.shaped (dEx e) = true := by
  unfold SeqAt.shaped
  rw [Bool.and_eq_true]
  exact ⟨canLay_ex hn hp e h, decide_eq_true (by have := depth_ex e; omega)⟩
def comb (s : Str) (a b : Int) : Int :=
  if s = "+" then (a + b) % 65536 else if s = "-" then (if a - b > 0 then a - b else 0) else if s = "*" then a * b % 65536 else if s = "/" then (if b > 0 then a / b else 0)
  else if s = "mod" then (if b > 0 then a % b else 0) else if s = "<" then (if a < b then 1 else 0) else (if a = b then 1 else 0)
theorem comb_add (a b : Int) : comb "+" a b = (a + b) % 65536 := by unfold comb; rw [if_pos rfl]
theorem comb_sub (a b : Int) : comb "-" a b = if a - b > 0 then a - b else 0 := by unfold comb; rw [if_neg (by decide +kernel), if_pos rfl]
theorem comb_mul (a b : Int) : comb "*" a b = a * b % 65536 := by unfold comb; rw [if_neg (by decide +kernel), if_neg (by decide +kernel), if_pos rfl]
theorem comb_div (a b : Int) : comb "/" a b = if b > 0 then a / b else 0 := by unfold comb; rw [if_neg (by decide +kernel), if_neg (by decide +kernel), if_neg (by decide +kernel), if_pos rfl]
theorem comb_mod (a b : Int) : comb "mod" a b = if b > 0 then a % b else 0 := by unfold comb; rw [if_neg (by decide +kernel), if_neg (by decide +kernel), if_neg (by decide +kernel), if_neg (by decide +kernel), if_pos rfl]
theorem comb_lt (a b : Int) : comb "<" a b = if a < b then 1 else 0 := by unfold comb; rw [if_neg (by decide +kernel), if_neg (by decide +kernel), if_neg (by decide +kernel), if_neg (by decide +kernel), if_neg (by decide +kernel), if_pos rfl]
theorem comb_eq (a b : Int) : comb "=" a b = if a = b then 1 else 0 := by unfold comb; rw [if_neg (by decide +kernel), if_neg (by decide +kernel), if_neg (by decide +kernel), if_neg (by decide +kernel), if_neg (by decide +kernel), if_neg (by decide +kernel)]
theorem sg_cases {s : Str} (h : s ∈ sgL) : s = "+" ∨ s = "-" ∨ s = "*" ∨ s = "/" ∨ s = "mod" ∨ s = "<" ∨ s = "=" := by
  simpa [sgL] using h
theorem comb_range {s : Str} {a b : Int} (h : s ∈ sgL) (a0 : 0 ≤ a) (a1 : a < 65536) (b0 : 0 ≤ b) (b1 : b < 65536) : 0 ≤ comb s a b ∧ comb s a b < 65536 := by
  rcases sg_cases h with rfl | rfl | rfl | rfl | rfl | rfl | rfl
  · rw [comb_add]; omega
  · rw [comb_sub]; split <;> omega
  · rw [comb_mul]; exact ⟨Int.emod_nonneg _ (by decide), Int.emod_lt_of_pos _ (by decide)⟩
  · rw [comb_div]
    split
    · exact ⟨Int.ediv_nonneg a0 b0, Int.lt_of_le_of_lt (Int.ediv_le_self _ a0) a1⟩
    · omega
  · rw [comb_mod]
    split
    · rename_i hb
      have := Int.emod_lt_of_pos a hb
      exact ⟨Int.emod_nonneg _ (by omega), by omega⟩
    · omega
  · rw [comb_lt]; split <;> omega
  · rw [comb_eq]; split <;> omega
def val (tb : Str → Int) (on : Str → Bool) (seen : List Int) : Ex → Int
  | .num n => n
  | .var x => tb x
  | .long => if (65535 : Int) < seen.length then 65535 else seen.length
  | .view e => if val tb on seen e < seen.length then seen.getD (val tb on seen e).toNat 0 else 0
  | .pick x l r => if on x = true then val tb on seen l else val tb on seen r
  | .op s l r => comb s (val tb on seen l) (val tb on seen r)
def TbOk (ns : List Str) (tb : Str → Int) : Prop := ∀ x ∈ ns, 0 ≤ tb x ∧ tb x < 65536
def SeenOk (seen : List Int) : Prop := ∀ x ∈ seen, 0 ≤ x ∧ x < 65536
theorem val_range {ns ps : List Str} {tb : Str → Int} {on : Str → Bool} {seen : List Int} (ht : TbOk ns tb) (hs : SeenOk seen) : ∀ e : Ex, e.Ok ns ps → 0 ≤ val tb on seen e ∧ val tb on seen e < 65536
  | .num n, h => h
  | .var x, h => ht x h
  | .long, _ => by unfold val; split <;> omega
  | .view e, h => by
    unfold val
    split
    · rename_i q
      have := val_range (on := on) ht hs e h
      have hl : (val tb on seen e).toNat < seen.length := by omega
      rw [List.getD_eq_getElem?_getD, List.getElem?_eq_getElem hl]
      exact hs _ (List.getElem_mem hl)
    · omega
  | .pick x l r, ⟨_, h2, h3⟩ => by
    unfold val
    split
    · exact val_range ht hs l h2
    · exact val_range ht hs r h3
  | .op s l r, ⟨h1, h2, h3⟩ => by
    unfold val
    have a := val_range (on := on) ht hs l h2
    have b := val_range (on := on) ht hs r h3
    exact comb_range h1 a.1 a.2 b.1 b.2
/-! the heap's parts for a value -/
def DcB (H : Hp) (a : Addr) (ps : List Str) (on : Str → Bool) : Prop := ∃ kvs : List (Key × V), H a = some (.dK kvs) ∧ ∀ x ∈ ps, valV kvs (.inr x) = some (.bl (on x))
def DcI (H : Hp) (a : Addr) (ns : List Str) (tb : Str → Int) : Prop := ∃ kvs : List (Key × V), H a = some (.dK kvs) ∧ ∀ x ∈ ns, valV kvs (.inr x) = some (.int (tb x))
theorem DcB.get {H : Hp} {a : Addr} {ps : List Str} {on : Str → Bool} (h : DcB H a ps on) {x : Str} (hx : x ∈ ps) : DGet H a (.str x) (some (.bl (on x))) := by
  obtain ⟨kvs, e, q⟩ := h
  rw [← q x hx]
  exact DGet.k (k := .inr x) e
theorem DcI.get {H : Hp} {a : Addr} {ps : List Str} {on : Str → Int} (h : DcI H a ps on) {x : Str} (hx : x ∈ ps) : DGet H a (.str x) (some (.int (on x))) := by
  obtain ⟨kvs, e, q⟩ := h
  rw [← q x hx]
  exact DGet.k (k := .inr x) e

/-! names that are drawn -/
def kwL : List Str := ["option", "on", "off", "var", "round", "end", "set", "if", "else", "when", "draw", "first", "second", "show", "both", "pay", "take", "pick", "mod", "player", "keep", "lot", "while", "answer", "view", "long"]
theorem keys_text : Txt.split (("option on off var round end set if else when draw first second show both pay take pick mod player keep lot" : Str) ++ (" while answer view long" : Str)) " " = kwL := by decide +kernel
def sp_law_keys : Sp := fun vs H Q _ => vs = [] ∧ ∀ l H', H l = none → H' l = some (.lst (kwL.map V.str)) → Keep [] H H' → Q (.ref l) H'
theorem strOk_tl (z : Str) : PyData.strOk z = (TL.tl z).all (fun c => decide (c < 0x110000)) := by
  unfold PyData.strOk TL.tl
  rw [Array.all_toList]
theorem strOk_app (a b : Str) : PyData.strOk (a ++ b) = (PyData.strOk a && PyData.strOk b) := by
  rw [strOk_tl, strOk_tl, strOk_tl, TL.tl_append, List.all_append]
theorem strOk_sign {sg : Str} (h : PyData.strOk sg = true) {i : Nat} {c : Nat} (hc : (TL.tl sg)[i]? = some c) : PyData.strOk ⟨#[c]⟩ = true := by
  rw [strOk_tl] at h
  have := List.all_eq_true.mp h c (List.mem_of_getElem? hc)
  rw [strOk_tl]
  show ([c].all _) = true
  simpa using this
theorem len_appN (a b : Str) : (a ++ b).length = a.length + b.length := by rw [TL.len_tl, TL.tl_append, List.length_append, ← TL.len_tl, ← TL.len_tl]
theorem inV_strs (z : Str) : ∀ ys : List Str, inV (.str z) (ys.map V.str) = decide (z ∈ ys)
  | [] => rfl
  | y :: r => by
    have ih := inV_strs z r
    unfold inV at ih ⊢
    rw [List.map_cons, List.any_cons, ih]
    show ((y == z) || decide (z ∈ r)) = decide (z ∈ y :: r)
    by_cases h : y = z
    · subst h; simp
    · have : (y == z) = false := by simpa using h
      rw [this, Bool.false_or]
      simp only [List.mem_cons]
      exact decide_eq_decide.mpr ⟨.inr, fun q => q.elim (fun q => absurd q.symm h) id⟩
theorem flat_strs (ys : List Str) : (ys.map V.str).all flatV = true := by
  rw [List.all_eq_true]
  intro x hx
  obtain ⟨y, _, rfl⟩ := List.mem_map.mp hx
  rfl
def vN (k : Nat) : Str := ("v" : Str) ++ Str.ofString (toString ((k : Nat) : Int))
theorem vN_ok : ∀ k, k < 20 → PyData.strOk (vN k) = true ∧ (vN k).length ≤ 10 := by decide +kernel
theorem vN_nodup : ((List.range 20).map vN).Nodup := by decide +kernel
theorem nodup_le {α : Type} [DecidableEq α] : ∀ (l t : List α), l.Nodup → (∀ x ∈ l, x ∈ t) → l.length ≤ t.length
  | [], t, _, _ => Nat.zero_le _
  | a :: r, t, h, hs => by
    have hn := List.nodup_cons.mp h
    have ha : a ∈ t := hs a (List.mem_cons_self ..)
    have := nodup_le r (t.erase a) hn.2 fun x hx => (List.mem_erase_of_ne (by intro q; subst q; exact hn.1 hx)).mpr (hs x (List.mem_cons_of_mem _ hx))
    rw [List.length_erase_of_mem ha] at this
    have hp : 0 < t.length := List.length_pos_of_mem ha
    rw [List.length_cons]; omega
theorem vN_free {ys : List Str} (h : ys.length < 20) (hall : ∀ j, j < 20 → vN j ∈ ys) : False := by
  have := nodup_le _ ys vN_nodup (fun x hx => by
    obtain ⟨j, hj, rfl⟩ := List.mem_map.mp hx
    exact hall j (List.mem_range.mp hj))
  rw [List.length_map, List.length_range] at this
  omega
def sp_law_spend : Sp := fun vs H Q _ => ∃ p q ns, vs = [.ref p] ∧ Pool H p q ns ∧ ∀ b H', Pool H' p q ns → Keep [p] H H' → Q (.bl b) H'
def sp_law_number : Sp := fun vs H Q _ => ∃ p q ns, vs = [.ref p] ∧ Pool H p q ns ∧ ∀ r H', 0 ≤ r → r < 65536 → Pool H' p q ns → Keep [p] H H' → Q (.int r) H'
def sp_law_name : Sp := fun vs H Q _ => ∃ (p q l : Addr) (ns : List Int) (ys : List Str), vs = [.ref p, .ref l] ∧ H l = some (.lst (ys.map V.str)) ∧ l ≠ p ∧ ys.length < 20 ∧ Pool H p q ns ∧
  ∀ z H', z ∉ ys → PyData.strOk z = true → z.length ≤ 20 → Pool H' p q ns → Keep [p] H H' → Q (.str z) H'
def sp_law_names : Sp := fun vs H Q _ => ∃ (p q : Addr) (ns : List Int) (m : Int), vs = [.ref p, .int m] ∧ 0 ≤ m ∧ m < 20 ∧ Pool H p q ns ∧
  ∀ l (ys : List Str) H', H l = none → H' l = some (.lst (ys.map V.str)) → ys.length ≤ m.toNat → ys.Nodup → NamesOk ys → (∀ y ∈ ys, y.length ≤ 20) → Pool H' p q ns → Keep [p] H H' → Q (.ref l) H'
section
variable {P : Program} {w : World} {K : PySem.W.Frag} {mg : Str → Option Value} {base : Heap} {C_Cursor : Addr} {C_GameError : Addr} {C_BadText : Addr} {f_BadText___init : Addr} {T_SIGNS : Addr}
theorem ok_law_keys {f : Addr} {fd : FuncData} (D : C8.Def K mg "_law_keys" s_law_keys f fd) (b : Binds K fd [] []) (T : Txt K mg C_Cursor C_GameError C_BadText T_SIGNS) : C8.Cal P w K mg base 1 "_law_keys" sp_law_keys [] := by
  refine cal0 D b .nil sc_law_keys (fun vs H Q E h => ?_) (fun cdv A outer s H vs Q E hr h => ?_)
  · obtain ⟨rfl, _⟩ := h
    rfl
  · obtain ⟨rfl, k⟩ := h
    refine ⟨_, (pss_cons (ps_set (i := 0) sc_law_keys.nd rfl (by first | exact Or.inl rfl | exact Or.inr rfl) pe_str)
(pss_one (ps_ret (pe_split (pe_op op_add_str (pv 0) pe_str) pe_str)))), ?_⟩
    refine ⟨_, rfl, _, _, rfl, rfl, by decide +kernel, ⟨_, rfl⟩, _, _, rfl, rfl, by decide +kernel, by decide +kernel, fun p hp => k p _ hp ?_ (Keep.new hp)⟩
    rw [keys_text]; exact upd_same
theorem ok_law_spend {f : Addr} {fd : FuncData} (D : C8.Def K mg "_law_spend" s_law_spend f fd) (b : Binds K fd ["pool"] []) (T : Txt K mg C_Cursor C_GameError C_BadText T_SIGNS) {k : Nat} : C8.Cal P w K mg base (k + 1) "_law_spend" sp_law_spend [] := by
  refine cal0 D b .nil sc_law_spend (fun vs H Q E h => ?_) (fun cdv A outer s H vs Q E hr h => ?_)
  · obtain ⟨p, q, ns, rfl, _⟩ := h
    rfl
  · obtain ⟨p, q, ns, rfl, ⟨i1, i2, i3, i4, i5, h1, h2, h3, h4⟩, k⟩ := h
    refine ⟨_, (pss_cons (ps_asg (pe_op op_sub (pe_ix ix_list (pv 0) pe_int (fun _ _ => rfl)) pe_int) (pg_sub (pv 0) pe_int set_list))
(pss_one (ps_ret (pe_cmpR op_ge (pe_ix ix_list (pv 0) pe_int (fun _ _ => rfl)) pe_int (nomark _))))), ?_⟩
    refine ⟨_, rfl, _, _, _, _, rfl, rfl, SqL.of h1, rfl, _, _, rfl, rfl, _, rfl, _, _, _, _, rfl, rfl, h1, rfl, ?_⟩
    refine ⟨_, rfl, _, _, _, _, rfl, rfl, SqL.of upd_same, rfl, _, _, rfl, rfl, ?_⟩
    exact k _ _ ⟨_, _, _, _, _, upd_same, (by rw [upd_ne h3]; exact h2), h3, h4⟩ (Keep.at_ (List.mem_singleton.mpr rfl))
theorem ok_law_number {f : Addr} {fd : FuncData} (D : C8.Def K mg "_law_number" s_law_number f fd) (b : Binds K fd ["pool"] []) (T : Txt K mg C_Cursor C_GameError C_BadText T_SIGNS) {k : Nat} (c_law_draw : C8.Cal P w K mg base k "_law_draw" sp_law_draw []) : C8.Cal P w K mg base (k + 1) "_law_number" sp_law_number [] := by
  refine cal0 D b .nil sc_law_number (fun vs H Q E h => ?_) (fun cdv A outer s H vs Q E hr h => ?_)
  · obtain ⟨p, q, ns, rfl, _⟩ := h
    rfl
  · obtain ⟨p, q, ns, rfl, hP, k⟩ := h
    refine ⟨_, (pss_cons (ps_if (pt_cmpR op_eq (pe_c c_law_draw hr (by first | exact Nat.le_refl _ | decide | omega) rfl (pa_cons (pv 0) (pa_cons pe_int pa_nil))) pe_int (nomark _))
  (pss_one (ps_ret (pe_c c_law_draw hr (by first | exact Nat.le_refl _ | decide | omega) rfl (pa_cons (pv 0) (pa_cons pe_int pa_nil)))))
  pss_nil)
(pss_one (ps_ret (pe_c c_law_draw hr (by first | exact Nat.le_refl _ | decide | omega) rfl (pa_cons (pv 0) (pa_cons pe_int pa_nil)))))), ?_⟩
    refine ⟨_, rfl, p, q, ns, 3, rfl, by decide, by decide, hP, fun r H1 r0 r1 P1 K1 => ?_⟩
    refine ⟨rfl, _, rfl, iteD (fun _ => ?_) (fun _ => ?_)⟩
    · exact ⟨_, rfl, p, q, ns, _, rfl, by decide, by decide, P1, fun r2 H2 z0 z1 P2 K2 => k _ _ z0 z1 P2 (K1.trans K2)⟩
    · exact ⟨_, rfl, p, q, ns, _, rfl, by decide, by decide, P1, fun r2 H2 z0 z1 P2 K2 => k _ _ z0 (by omega) P2 (K1.trans K2)⟩
theorem ok_law_name {f : Addr} {fd : FuncData} (D : C8.Def K mg "_law_name" s_law_name f fd) (b : Binds K fd ["pool", "taken"] []) (T : Txt K mg C_Cursor C_GameError C_BadText T_SIGNS) (c_law_draw : C8.Cal P w K mg base 1 "_law_draw" sp_law_draw []) (c_law_few : C8.Cal P w K mg base 2 "_law_few" sp_law_few [])
    (c_law_keys : C8.Cal P w K mg base 1 "_law_keys" sp_law_keys []) : C8.Cal P w K mg base 3 "_law_name" sp_law_name [] := by
  refine cal0 D b .nil sc_law_name (fun vs H Q E h => ?_) (fun cdv A outer s H vs Q E hr h => ?_)
  · obtain ⟨p, q, l, ns, ys, rfl, _⟩ := h
    rfl
  · obtain ⟨p, q, l, ns, ys, rfl, hl, nlp, hlen, hP, k⟩ := h
    refine ⟨_, (pss_cons (ps_set (i := 2) sc_law_name.nd rfl (by first | exact Or.inl rfl | exact Or.inr rfl) pe_str)
(pss_cons (ps_set (i := 3) sc_law_name.nd rfl (by first | exact Or.inl rfl | exact Or.inr rfl) (pe_ix ix_str (pv 2) (pe_c c_law_draw hr (by first | exact Nat.le_refl _ | decide | omega) rfl (pa_cons (pv 0) (pa_cons pe_int pa_nil))) (fun _ _ => rfl)))
(pss_cons (ps_for PassesOwn.never rfl (pi_range1 (by rfl) T.n_range (pa_cons (pe_c c_law_few hr (by first | exact Nat.le_refl _ | decide | omega) rfl (pa_cons (pv 0) (pa_cons pe_int pa_nil))) pa_nil)) (pg_name (i := 4) sc_law_name.nd rfl (by first | exact Or.inl rfl | exact Or.inr rfl))
  (pss_one (ps_set (i := 3) sc_law_name.nd rfl (by first | exact Or.inl rfl | exact Or.inr rfl) (pe_op op_add_str (pv 3) (pe_ix ix_str (pv 2) (pe_c c_law_draw hr (by first | exact Nat.le_refl _ | decide | omega) rfl (pa_cons (pv 0) (pa_cons pe_int pa_nil))) (fun _ _ => rfl))))))
(pss_cut (ps_if (PW.pt (pw_or (pt_cmpR op_in_seq (pv 3) (pv 1) (by rfl)) (pw_or1 (pt_cmpR op_in_seq (pv 3) (pe_c0 c_law_keys hr (by first | exact Nat.le_refl _ | decide | omega) rfl) (by rfl)))))
  (pss_one (ps_for PassesOwn.never rfl (pi_range1 (by rfl) T.n_range (pa_cons pe_int pa_nil)) (pg_name (i := 4) sc_law_name.nd rfl (by first | exact Or.inl rfl | exact Or.inr rfl))
    (pss_one (ps_if (pt_cmpR op_notIn_seq (pe_op op_add_str pe_str (pe_callTy call_str_int (by rfl) T.n_str bo_str (pa_cons (pv 4) pa_nil))) (pv 1) (by rfl))
      (pss_one (ps_set (i := 3) sc_law_name.nd rfl (by first | exact Or.inl rfl | exact Or.inr rfl) (pe_op op_add_str pe_str (pe_callTy call_str_int (by rfl) T.n_str bo_str (pa_cons (pv 4) pa_nil)))))
      pss_nil))))
  pss_nil)
(pss_one (ps_ret (pv 3))))))), ?_⟩
    obtain ⟨sg, hsgv, hsg, hso⟩ : ∃ sg : Str, sg = ("abcdefghijklmnopqrstuvwxyz0123456789" : Str) ∧ sg.length = 36 ∧ PyData.strOk sg = true := ⟨_, rfl, by decide +kernel, by decide +kernel⟩
    rw [← hsgv]
    have hsl : (TL.tl sg).length = 36 := by rw [← TL.len_tl]; exact hsg
    have l1 : ∀ c : Nat, (⟨#[c]⟩ : Str).length = 1 := fun _ => rfl
    refine ⟨_, rfl, _, rfl, p, q, ns, 26, rfl, by decide, by decide, hP, fun r H1 r0 r1 P1 K1 => ?_⟩
    obtain ⟨m, rfl⟩ : ∃ m : Nat, r = (m : Int) := ⟨r.toNat, by omega⟩
    have hm := List.getElem?_eq_getElem (show m < (TL.tl sg).length by omega)
    refine ⟨_, _, _, rfl, rfl, smallM (by omega), atI_nat hm, ?_⟩
    have ok0 := strOk_sign hso hm
    refine ⟨_, rfl, p, q, ns, 11, rfl, by decide, by decide, P1, fun f H2 f0 f1 P2 K2 => ?_⟩
    refine ⟨_, rfl, by omega, by omega, for_range (lo := 0) (n := f.toNat) (fun i σ H' => ∃ (z : Str) (o : Option V), σ = [some (.ref p), some (.ref l), some (.str sg), some (.str z), o] ∧ PyData.strOk z = true ∧ z.length = i + 1 ∧ Pool H' p q ns ∧ Keep [p] H H')
      ⟨_, none, rfl, ok0, l1 _, P2, K1.trans K2⟩ ?_ ?_⟩
    · rintro i σ H3 hi ⟨z, o, rfl, hz, hzl, P3, K3⟩
      refine ⟨_, rfl, _, rfl, _, rfl, p, q, ns, 36, rfl, by decide, by decide, P3, fun r H4 r0 r1 P4 K4 => ?_⟩
      obtain ⟨m, rfl⟩ : ∃ m : Nat, r = (m : Int) := ⟨r.toNat, by omega⟩
      have hm := List.getElem?_eq_getElem (show m < (TL.tl sg).length by omega)
      refine ⟨_, _, _, rfl, rfl, smallM (by omega), atI_nat hm, _, _, rfl, rfl, smallM (by rw [l1]; omega), ?_⟩
      exact ⟨_, _, rfl, by rw [strOk_app, hz, strOk_sign hso hm]; rfl, by rw [len_appN, l1, hzl], P4, K3.trans K4⟩
    · rintro σ H3 ⟨z, o, rfl, hz, hzl, P3, K3⟩
      have hl3 := K3 _ _ hl (by simpa using nlp)
      refine ⟨fun σ H' => ∃ (z : Str) (o : Option V), σ = [some (.ref p), some (.ref l), some (.str sg), some (.str z), o] ∧ z ∉ ys ∧ PyData.strOk z = true ∧ z.length ≤ 20 ∧ Pool H' p q ns ∧ Keep [p] H H', ?_, ?_⟩
      · have rest : ∀ (H4 : Hp), Pool H4 p q ns → Keep [p] H H4 → (fun (D : Ends) => True) = (fun (D : Ends) => True) := fun _ _ _ => rfl
        have inv : ∀ {H4 : Hp}, Pool H4 p q ns → Keep [p] H H4 → (fun (i : Nat) (σ : List (Option V)) (H' : Hp) => ∃ (z : Str) (o : Option V), σ = [some (.ref p), some (.ref l), some (.str sg), some (.str z), o] ∧ (z ∉ ys ∨ ∀ j, j < i → vN j ∈ ys) ∧ PyData.strOk z = true ∧ z.length ≤ 20 ∧ H' = H4) 0 [some (.ref p), some (.ref l), some (.str sg), some (.str z), o] H4 :=
          fun _ _ => ⟨_, _, rfl, .inr fun j hj => absurd hj (Nat.not_lt_zero _), hz, by omega, rfl⟩
        refine ⟨_, rfl, _, rfl, _, _, rfl, .inl (SqL.of hl3), rfl, flat_strs ys, _, rfl, iteB (fun e => ?_) (fun e => ?_)⟩
        · refine ⟨20, rfl, by decide, by decide, for_range (lo := 0) (n := 20) (fun (i : Nat) (σ : List (Option V)) (H' : Hp) => ∃ (z : Str) (o : Option V), σ = [some (.ref p), some (.ref l), some (.str sg), some (.str z), o] ∧ (z ∉ ys ∨ ∀ j, j < i → vN j ∈ ys) ∧ PyData.strOk z = true ∧ z.length ≤ 20 ∧ H' = H3) (inv P3 K3) ?_ ?_⟩
          · rintro i σ H' hi ⟨z, o, rfl, hzz, hz, hzl, rfl⟩
            have e0 : (0 : Int) + (i : Int) = (i : Int) := by omega
            rw [e0]
            have hv := vN_ok i hi
            have hlog : ((i : Nat) : Int).natAbs.log2 < 1920 := by
              rw [Int.natAbs_natCast]; exact PySem.Flt.log2_lt_of (by decide) (Nat.lt_trans (show i < 20 from hi) (by decide +kernel))
            have hvl : ("v" : Str).length + (Str.ofString (toString ((i : Nat) : Int))).length ≤ sizeLine := by
              have := hv.2; unfold vN at this; rw [len_appN] at this; exact smallM (by omega)
            refine ⟨_, rfl, _, rfl, hlog, _, _, rfl, rfl, hvl, _, rfl, _, _, rfl, .inl (SqL.of hl3), rfl, flat_strs ys, _, rfl, iteB (fun e => ?_) (fun e => ?_)⟩
            · have e' : (!inV (.str (vN i)) (ys.map V.str)) = true := e
              rw [inV_strs] at e'
              exact ⟨_, rfl, _, rfl, hlog, _, _, rfl, rfl, hvl, vN i, _, rfl, .inl (by simpa using e'), hv.1, by omega, rfl⟩
            · have e' : (!inV (.str (vN i)) (ys.map V.str)) = false := e
              rw [inV_strs] at e'
              refine ⟨z, _, rfl, ?_, hz, hzl, rfl⟩
              rcases hzz with hzz | hzz
              · exact .inl hzz
              · refine .inr fun j hj => ?_
                by_cases q : j = i
                · subst q; simpa using e'
                · exact hzz j (by omega)
          · rintro σ H' ⟨z, o, rfl, hzz, hz, hzl, rfl⟩
            exact ⟨z, o, rfl, hzz.elim id (fun g => (vN_free hlen g).elim), hz, hzl, P3, K3⟩
        · have e' : inV (.str z) (ys.map V.str) = false := e
          rw [inV_strs] at e'
          have hzy : z ∉ ys := by simpa using e'
          refine ⟨_, rfl, rfl, fun a H4 na ha K4 => ⟨_, _, rfl, .inl (SqL.of ha), rfl, flat_strs kwL, _, rfl, iteB (fun e => ?_) (fun e => ?_)⟩⟩
          · have P4 := P3.keep0 K4
            have K4' : Keep [p] H H4 := K3.trans (K4.mono (by simp))
            have hl4 := K4 _ _ hl3 (by simp)
            refine ⟨20, rfl, by decide, by decide, for_range (lo := 0) (n := 20) (fun (i : Nat) (σ : List (Option V)) (H' : Hp) => ∃ (z : Str) (o : Option V), σ = [some (.ref p), some (.ref l), some (.str sg), some (.str z), o] ∧ (z ∉ ys ∨ ∀ j, j < i → vN j ∈ ys) ∧ PyData.strOk z = true ∧ z.length ≤ 20 ∧ H' = H4) (inv P4 K4') ?_ ?_⟩
            · rintro i σ H' hi ⟨z, o, rfl, hzz, hz, hzl, rfl⟩
              have e0 : (0 : Int) + (i : Int) = (i : Int) := by omega
              rw [e0]
              have hv := vN_ok i hi
              have hlog : ((i : Nat) : Int).natAbs.log2 < 1920 := by
                rw [Int.natAbs_natCast]; exact PySem.Flt.log2_lt_of (by decide) (Nat.lt_trans (show i < 20 from hi) (by decide +kernel))
              have hvl : ("v" : Str).length + (Str.ofString (toString ((i : Nat) : Int))).length ≤ sizeLine := by
                have := hv.2; unfold vN at this; rw [len_appN] at this; exact smallM (by omega)
              refine ⟨_, rfl, _, rfl, hlog, _, _, rfl, rfl, hvl, _, rfl, _, _, rfl, .inl (SqL.of hl4), rfl, flat_strs ys, _, rfl, iteB (fun e => ?_) (fun e => ?_)⟩
              · have e' : (!inV (.str (vN i)) (ys.map V.str)) = true := e
                rw [inV_strs] at e'
                exact ⟨_, rfl, _, rfl, hlog, _, _, rfl, rfl, hvl, vN i, _, rfl, .inl (by simpa using e'), hv.1, by omega, rfl⟩
              · have e' : (!inV (.str (vN i)) (ys.map V.str)) = false := e
                rw [inV_strs] at e'
                refine ⟨z, _, rfl, ?_, hz, hzl, rfl⟩
                rcases hzz with hzz | hzz
                · exact .inl hzz
                · refine .inr fun j hj => ?_
                  by_cases q : j = i
                  · subst q; simpa using e'
                  · exact hzz j (by omega)
            · rintro σ H' ⟨z, o, rfl, hzz, hz, hzl, rfl⟩
              exact ⟨z, o, rfl, hzz.elim id (fun g => (vN_free hlen g).elim), hz, hzl, P4, K4'⟩
          · exact ⟨z, o, rfl, hzy, hz, by omega, P3.keep0 K4, K3.trans (K4.mono (by simp))⟩
      · rintro σ H4 ⟨z, o, rfl, hzy, hz, hzl, P4, K4⟩
        exact ⟨_, rfl, k _ _ hzy hz hzl P4 K4⟩
theorem ok_law_names {f : Addr} {fd : FuncData} (D : C8.Def K mg "_law_names" s_law_names f fd) (b : Binds K fd ["pool", "most"] []) (T : Txt K mg C_Cursor C_GameError C_BadText T_SIGNS) (c_law_few : C8.Cal P w K mg base 2 "_law_few" sp_law_few []) (c_law_name : C8.Cal P w K mg base 3 "_law_name" sp_law_name []) : C8.Cal P w K mg base 4 "_law_names" sp_law_names [] := by
  refine cal0 D b .nil sc_law_names (fun vs H Q E h => ?_) (fun cdv A outer s H vs Q E hr h => ?_)
  · obtain ⟨p, q, ns, m, rfl, _⟩ := h
    rfl
  · obtain ⟨p, q, ns, m, rfl, m0, m1, hP, k⟩ := h
    refine ⟨_, (pss_cons (ps_set (i := 2) sc_law_names.nd rfl (by first | exact Or.inl rfl | exact Or.inr rfl) (pe_lst pa_nil))
(pss_cons (ps_for PassesOwn.never rfl (pi_range1 (by rfl) T.n_range (pa_cons (pe_c c_law_few hr (by first | exact Nat.le_refl _ | decide | omega) rfl (pa_cons (pv 0) (pa_cons (pv 1) pa_nil))) pa_nil)) (pg_name (i := 3) sc_law_names.nd rfl (by first | exact Or.inl rfl | exact Or.inr rfl))
  (pss_one (ps_expr (pe_bm PySem.F.plainAttrs_list PySem.F.slot_list_append PySem.F.type_list_append mt_append (pv 2) (pa_cons (pe_c c_law_name hr (by first | exact Nat.le_refl _ | decide | omega) rfl (pa_cons (pv 0) (pa_cons (pv 2) pa_nil))) pa_nil)))))
(pss_one (ps_ret (pv 2))))), ?_⟩
    refine ⟨by show 0 ≤ sizeLine; decide, fun l hl => ?_⟩
    have P1 := hP.new (o := .lst []) hl
    have nlp := hP.nep hl
    have nlq := hP.neq hl
    refine ⟨_, rfl, _, rfl, p, q, ns, m, rfl, m0, by omega, P1, fun f H2 f0 f1 P2 K2 => ?_⟩
    refine ⟨_, rfl, by omega, by omega, for_range (lo := 0) (n := f.toNat) (fun i σ H' => ∃ (ys : List Str) (o : Option V), σ = [some (.ref p), some (.int m), some (.ref l), o] ∧ H' l = some (.lst (ys.map V.str)) ∧ ys.length = i ∧ ys.Nodup ∧ NamesOk ys ∧ (∀ y ∈ ys, y.length ≤ 20) ∧ Pool H' p q ns ∧ Keep [p] H H')
      ⟨[], none, rfl, K2 _ _ upd_same (by simpa using nlp), rfl, List.nodup_nil, (fun _ h => by cases h), (fun _ h => by cases h), P2, (Keep.new hl).trans K2⟩ ?_ ?_⟩
    · rintro i σ H3 hi ⟨ys, o, rfl, hy, hyl, hnd, hno, hle, P3, K3⟩
      refine ⟨_, rfl, .inl ⟨rfl, _, SqL.of hy⟩, _, rfl, _, rfl, p, q, l, ns, ys, rfl, hy, nlp, by omega, P3, fun z H4 hz1 hz2 hz3 P4 K4 => ?_⟩
      have hy4 := K4 _ _ hy (by simpa using nlp)
      refine ⟨_, _, _, rfl, rfl, hy4, (by rw [List.length_map]; exact smallL (by omega)), ?_⟩
      refine ⟨ys ++ [z], _, rfl, by rw [List.map_append]; exact upd_same, by rw [List.length_append, hyl]; rfl, ?_, ?_, ?_, P4.own nlp nlq, (K3.trans K4).then_own hl⟩
      · rw [List.nodup_append]
        refine ⟨hnd, by simp, fun a ha b hb => ?_⟩
        rw [List.mem_singleton] at hb
        subst hb
        exact fun q => hz1 (q ▸ ha)
      · intro y hy
        rcases List.mem_append.mp hy with h | h
        · exact hno y h
        · rw [List.mem_singleton.mp h]; exact hz2
      · intro y hy
        rcases List.mem_append.mp hy with h | h
        · exact hle y h
        · rw [List.mem_singleton.mp h]; exact hz3
    · rintro σ H3 ⟨ys, o, rfl, hy, hyl, hnd, hno, hle, P3, K3⟩
      exact ⟨_, rfl, k l ys _ hl hy (by omega) hnd hno hle P3 K3⟩
end

theorem calUp {P : Program} {w : World} {K : PySem.W.Frag} {mg : Str → Option Value} {base : Heap} {j k : Nat} {x : Str} {sp : Sp} {dvs : List V} (c : C8.Cal P w K mg base j x sp dvs) (h : j ≤ k) : C8.Cal P w K mg base k x sp dvs := by
  obtain ⟨f, fd, ps, ds, F, hm, kp, b, d⟩ := c.ex
  exact ⟨f, fd, ps, ds, F.mono h, hm, kp, b, d⟩

/-! addresses that all stand and are unlike one another -/
structure Liv (H : Hp) (L : List Addr) : Prop where
  nd : L.Nodup
  on : ∀ a ∈ L, ∃ o, H a = some o
theorem Liv.nil {H : Hp} : Liv H [] := ⟨List.nodup_nil, fun _ h => by cases h⟩
theorem Liv.cons {H : Hp} {L : List Addr} {a : Addr} {o : HO} (h : Liv H L) (n : H a = none) : Liv (upd H a o) (a :: L) := by
  have hne : ∀ b ∈ L, b ≠ a := fun b hb => by obtain ⟨u, hu⟩ := h.on b hb; exact ne_of_none hu n
  refine ⟨List.nodup_cons.mpr ⟨fun z => hne a z rfl, h.nd⟩, fun b hb => ?_⟩
  rcases List.mem_cons.mp hb with rfl | hb
  · exact ⟨_, upd_same⟩
  · obtain ⟨u, hu⟩ := h.on b hb
    exact ⟨u, by rw [upd_ne (hne b hb)]; exact hu⟩
/-- one that stands, new since a heap in which the others stand -/
theorem Liv.cons' {H H' : Hp} {L : List Addr} {a : Addr} {o : HO} (h : Liv H L) (n : H a = none) (h' : Liv H' L) (ha : H' a = some o) : Liv H' (a :: L) :=
  ⟨List.nodup_cons.mpr ⟨fun z => (by obtain ⟨u, hu⟩ := h.on a z; rw [n] at hu; cases hu), h.nd⟩, fun b hb => by
    rcases List.mem_cons.mp hb with rfl | hb
    · exact ⟨_, ha⟩
    · exact h'.on b hb⟩
theorem Liv.keep {H H' : Hp} {L W : List Addr} (h : Liv H L) (k : Keep W H H') (w : ∀ a ∈ W, ∃ o, H' a = some o) : Liv H' L :=
  ⟨h.nd, fun a ha => by
    by_cases z : a ∈ W
    · exact w a z
    · obtain ⟨o, ho⟩ := h.on a ha
      exact ⟨o, k _ _ ho z⟩⟩
theorem Liv.keep0 {H H' : Hp} {L : List Addr} (h : Liv H L) (k : Keep [] H H') : Liv H' L := h.keep k fun _ z => by cases z
theorem Liv.keep1 {H H' : Hp} {L : List Addr} {p : Addr} {o : HO} (h : Liv H L) (k : Keep [p] H H') (hp : H' p = some o) : Liv H' L := h.keep k fun a z => by
  rw [List.mem_singleton] at z; exact ⟨o, by rw [z]; exact hp⟩
theorem nodup_ne {L : List Addr} (h : L.Nodup) {i j : Nat} {a b : Addr} (ha : L[i]? = some a) (hb : L[j]? = some b) (hij : i ≠ j) : a ≠ b := by
  obtain ⟨h1, e1⟩ := List.getElem?_eq_some_iff.mp ha
  obtain ⟨h2, e2⟩ := List.getElem?_eq_some_iff.mp hb
  have hp := List.pairwise_iff_getElem.mp h
  rcases Nat.lt_or_gt_of_ne hij with z | z
  · have := hp i j h1 h2 z
    rwa [e1, e2] at this
  · have := hp j i h2 h1 z
    rw [e1, e2] at this
    exact fun w => this w.symm
theorem Liv.ne {H : Hp} {L : List Addr} (h : Liv H L) (i j : Nat) {a b : Addr} (ha : L[i]? = some a) (hb : L[j]? = some b) (hij : i ≠ j := by decide) : a ≠ b := nodup_ne h.nd ha hb hij
theorem Liv.notNew {H : Hp} {L : List Addr} (h : Liv H L) {a : Addr} (n : H a = none) : a ∉ L := fun z => by
  obtain ⟨u, hu⟩ := h.on a z; rw [n] at hu; cases hu
theorem Liv.cons2 {H H' : Hp} {L : List Addr} {a b : Addr} {o u : HO} (h : Liv H L) (na : H a = none) (nb : H b = none) (ne : a ≠ b) (h' : Liv H' L) (ha : H' a = some o) (hb : H' b = some u) : Liv H' (b :: a :: L) := by
  have h1 := h.cons' na h' ha
  refine ⟨List.nodup_cons.mpr ⟨fun z => ?_, h1.nd⟩, fun c hc => ?_⟩
  · rcases List.mem_cons.mp z with z | z
    · exact ne z.symm
    · exact h.notNew nb z
  · rcases List.mem_cons.mp hc with rfl | hc
    · exact ⟨_, hb⟩
    · exact h1.on c hc
/-- a new instance and its dict -/
theorem Liv.made {H : Hp} {L : List Addr} {x d : Addr} {o : HO} (h : Liv H L) (nx : H x = none) (nd : H d = none) (ne : d ≠ x) : Liv (upd (upd H d (.own x)) x o) (x :: L) :=
  (h.keep0 (Keep.new nd)).cons (by rw [upd_ne ne.symm]; exact nx)
theorem made_at {H : Hp} {x d b : Addr} {o u : HO} (hx : H x = none) (hd : H d = none) (h : H b = some u) : upd (upd H d (.own x)) x o b = some u := by
  rw [upd_ne (ne_of_none h hx), upd_ne (ne_of_none h hd)]; exact h
theorem Keep.made {H : Hp} {x d : Addr} {o : HO} (hx : H x = none) (hd : H d = none) : Keep [] H (upd (upd H d (.own x)) x o) := fun _ _ h _ => made_at hx hd h
theorem Keep.tkL {H H' : Hp} {W : List Addr} (k : Keep W H H') (h : ∀ a ∈ W, ∃ ys, H a = some (.lst ys)) : TK H H' := fun b xs q => k b _ q fun z => by
  obtain ⟨ys, hy⟩ := h b z
  rw [q] at hy; cases hy

/-! the plain law of names and numbers -/
def isL (c : Nat) : Bool := decide (97 ≤ c ∧ c ≤ 122)
def isD (c : Nat) : Bool := decide (48 ≤ c ∧ c ≤ 57)
def kwB (z : Str) : Bool := inV (.str z) (kwL.map V.str)
def nameB (z : Str) : Bool := decide (1 ≤ z.length ∧ z.length ≤ 12) && !(kwB z) && isL ((TL.tl z).headD 0) && (TL.tl z).all (fun c => isL c || isD c)
def numGood (z : Str) : Bool := decide (1 ≤ z.length ∧ z.length ≤ 5) && (TL.tl z).all isD && (decide (z.length = 1) || decide ((TL.tl z).headD 0 ≠ 48)) && decide (NumText.digitsVal (TL.tl z) ≤ 65535)
def numV (z : Str) : V := if numGood z = true then .int ((NumText.digitsVal (TL.tl z) : Nat) : Int) else .non
theorem letters_eq : (("abcdefghijklmnopqrstuvwxyz" : Str).cps.toList) = [97, 98, 99, 100, 101, 102, 103, 104, 105, 106, 107, 108, 109, 110, 111, 112, 113, 114, 115, 116, 117, 118, 119, 120, 121, 122] := by decide +kernel
theorem digits_eq : (("0123456789" : Str).cps.toList) = [48, 49, 50, 51, 52, 53, 54, 55, 56, 57] := by decide +kernel
theorem mem_letters (c : Nat) : decide (c ∈ (("abcdefghijklmnopqrstuvwxyz" : Str).cps.toList)) = isL c := by
  rw [letters_eq]
  unfold isL
  by_cases h : 97 ≤ c ∧ c ≤ 122
  · rw [decide_eq_true h]
    refine decide_eq_true ?_
    simp only [List.mem_cons, List.not_mem_nil, or_false]
    omega
  · rw [decide_eq_false h]
    refine decide_eq_false ?_
    simp only [List.mem_cons, List.not_mem_nil, or_false]
    omega
theorem mem_digits (c : Nat) : decide (c ∈ (("0123456789" : Str).cps.toList)) = isD c := by
  rw [digits_eq]
  unfold isD
  by_cases h : 48 ≤ c ∧ c ≤ 57
  · rw [decide_eq_true h]
    refine decide_eq_true ?_
    simp only [List.mem_cons, List.not_mem_nil, or_false]
    omega
  · rw [decide_eq_false h]
    refine decide_eq_false ?_
    simp only [List.mem_cons, List.not_mem_nil, or_false]
    omega
theorem lt_one (a b : Nat) : (([a] : List Nat) < [b]) ↔ a < b := by
  constructor
  · intro h
    cases h with
    | rel h => exact h
    | cons h => cases h
  · intro h; exact List.Lex.rel h
theorem le_sign (a : Str) (b c : Nat) (ha : a.cps.toList = [b]) : (!decide ((⟨#[c]⟩ : Str).cps.toList < a.cps.toList)) = decide (b ≤ c) := by
  rw [ha]
  show (!decide (([c] : List Nat) < [b])) = decide (b ≤ c)
  by_cases h : b ≤ c
  · rw [decide_eq_true h, decide_eq_false (fun z => by have := (lt_one _ _).mp z; omega)]; rfl
  · rw [decide_eq_false h, decide_eq_true ((lt_one _ _).mpr (by omega))]; rfl
theorem ge_sign (a : Str) (b c : Nat) (ha : a.cps.toList = [b]) : (!decide (a.cps.toList < (⟨#[c]⟩ : Str).cps.toList)) = decide (c ≤ b) := by
  rw [ha]
  show (!decide (([b] : List Nat) < [c])) = decide (c ≤ b)
  by_cases h : c ≤ b
  · rw [decide_eq_true h, decide_eq_false (fun z => by have := (lt_one _ _).mp z; omega)]; rfl
  · rw [decide_eq_false h, decide_eq_true ((lt_one _ _).mpr (by omega))]; rfl
theorem cp_a : ("a" : Str).cps.toList = [97] := by decide +kernel
theorem cp_z : ("z" : Str).cps.toList = [122] := by decide +kernel
theorem cp_0 : ("0" : Str).cps.toList = [48] := by decide +kernel
theorem cp_9 : ("9" : Str).cps.toList = [57] := by decide +kernel
theorem and_isL (c : Nat) : (decide (97 ≤ c) && decide (c ≤ 122)) = isL c := by unfold isL; rw [Bool.decide_and]
theorem and_isD (c : Nat) : (decide (48 ≤ c) && decide (c ≤ 57)) = isD c := by unfold isD; rw [Bool.decide_and]
theorem len_cps (z : Str) : (TL.tl z).length = z.length := (TL.len_tl z).symm
theorem allD {l : List Nat} : l.all isD = true ↔ NumText.AllDigits l := by
  rw [List.all_eq_true]
  constructor
  · intro h c hc; exact of_decide_eq_true (h c hc)
  · intro h c hc; exact decide_eq_true (h c hc)
theorem digits_lt : ∀ (l : List Nat), NumText.AllDigits l → NumText.digitsVal l < 10 ^ l.length := by
  have gen : ∀ (l : List Nat) (a k : Nat), NumText.AllDigits l → a < 10 ^ k → l.foldl (fun acc c => acc * 10 + (c - 48)) a < 10 ^ (k + l.length) := by
    intro l
    induction l with
    | nil => intro a k _ h; exact h
    | cons c r ih =>
      intro a k hd h
      have hc : 48 ≤ c ∧ c ≤ 57 := hd c (List.mem_cons_self ..)
      have h1 : a * 10 + (c - 48) < 10 ^ (k + 1) := by rw [Nat.pow_succ]; omega
      have := ih (a * 10 + (c - 48)) (k + 1) (fun z hz => hd z (List.mem_cons_of_mem _ hz)) h1
      rw [List.length_cons, show k + (r.length + 1) = k + 1 + r.length by omega]
      exact this
  intro l hd
  have := gen l 0 0 hd (by decide)
  rw [Nat.zero_add] at this
  exact this
theorem digits_ge : ∀ (l : List Nat) (a : Nat), a * 10 ^ l.length ≤ l.foldl (fun acc c => acc * 10 + (c - 48)) a
  | [], a => by simp
  | c :: r, a => by
    have h := digits_ge r (a * 10 + (c - 48))
    rw [List.length_cons, Nat.pow_succ, Nat.mul_comm (10 ^ r.length) 10, ← Nat.mul_assoc]
    exact Nat.le_trans (Nat.mul_le_mul_right _ (by omega)) h
/-- a written number is its digits' text exactly if no zero leads -/
theorem num_text {l : List Nat} (hd : NumText.AllDigits l) (hl : 0 < l.length) (h0 : l.length = 1 ∨ l.headD 0 ≠ 48) : TL.numL (NumText.digitsVal l) = l := by
  obtain ⟨n, hn⟩ : ∃ n, l.length = n + 1 := ⟨l.length - 1, by omega⟩
  have h := NumText.toDigits_digitsVal n l hn hd (by
    rcases h0 with h | h
    · left; omega
    · right
      cases l with
      | nil => simp at hl
      | cons c r =>
        have hc : 48 ≤ c ∧ c ≤ 57 := hd c (List.mem_cons_self ..)
        have h' : c ≠ 48 := h
        exact ⟨c, r, rfl, by omega⟩)
  unfold TL.numL
  rw [h, List.map_map]
  conv => rhs; rw [← List.map_id l]
  refine List.map_congr_left fun c hc => ?_
  have hb := hd c hc
  show (Char.ofNat c).toNat = c
  have : ∀ c, c ≤ 57 → (Char.ofNat c).toNat = c := by decide +kernel
  exact this c hb.2
theorem num_lead {l : List Nat} (hd : NumText.AllDigits l) (h : TL.numL (NumText.digitsVal l) = l) : 0 < l.length ∧ (l.length = 1 ∨ l.headD 0 ≠ 48) := by
  have hne := TL.numL_ne (NumText.digitsVal l)
  rw [h] at hne
  refine ⟨List.length_pos_iff.mpr hne, ?_⟩
  cases l with
  | nil => exact absurd rfl hne
  | cons c r =>
    by_cases hc : c = 48
    · left
      subst hc
      rw [NumText.digitsVal_zero] at h
      -- the text of the rest's value is one sign longer than it can be
      cases r with
      | nil => rfl
      | cons d r2 =>
        exfalso
        have hlen := congrArg List.length h
        have hv : NumText.digitsVal (d :: r2) < 10 ^ (d :: r2).length := digits_lt _ fun z hz => hd z (List.mem_cons_of_mem _ hz)
        have := TL.numL_len (k := (d :: r2).length) (by simp) hv
        rw [hlen] at this
        simp at this; omega
    · right; exact hc
theorem digits_big {l : List Nat} (hd : NumText.AllDigits l) (h0 : l.headD 0 ≠ 48) (hl : 6 ≤ l.length) : 65535 < NumText.digitsVal l := by
  cases l with
  | nil => simp at hl
  | cons c r =>
    have hc : 48 ≤ c ∧ c ≤ 57 := hd c (List.mem_cons_self ..)
    have h' : c ≠ 48 := h0
    have h1 := digits_ge r (c - 48) 
    have h2 : NumText.digitsVal (c :: r) = r.foldl (fun acc c => acc * 10 + (c - 48)) (c - 48) := by
      show r.foldl _ (0 * 10 + (c - 48)) = _
      rw [Nat.zero_mul, Nat.zero_add]
    rw [h2]
    have h3 : 10 ^ 5 ≤ 10 ^ r.length := Nat.pow_le_pow_right (by decide) (by simp at hl; omega)
    have h4 : 1 * 10 ^ 5 ≤ (c - 48) * 10 ^ r.length := Nat.mul_le_mul (by omega) h3
    have h5 : (10 : Nat) ^ 5 = 100000 := by decide
    omega
def sp_number_of : Sp := fun vs H Q _ => ∃ z : Str, vs = [.str z] ∧ z.length ≤ 1000 ∧ Q (numV z) H
section
variable {P : Program} {w : World} {K : PySem.W.Frag} {mg : Str → Option Value} {base : Heap} {C_Cursor : Addr} {C_GameError : Addr} {C_BadText : Addr} {f_BadText___init : Addr} {T_SIGNS : Addr}
theorem ok_number_of {f : Addr} {fd : FuncData} (D : C8.Def K mg "number_of" s_number_of f fd) (b : Binds K fd ["word"] []) (T : Txt K mg C_Cursor C_GameError C_BadText T_SIGNS) : C8.Cal P w K mg base 1 "number_of" sp_number_of [] := by
  refine cal0 D b .nil sc_number_of (fun vs H Q E h => ?_) (fun cdv A outer s H vs Q E hr h => ?_)
  · obtain ⟨z, rfl, _⟩ := h
    rfl
  · obtain ⟨z, rfl, hz, k⟩ := h
    refine ⟨_, (pss_cons (ps_if (pt_not (pt_chain op_le op_le pe_int (pe_callB call_len_str (by rfl) T.n_len bo_len (pa_cons (pv 0) pa_nil)) (pe_callB call_len_str (by rfl) T.n_len bo_len (pa_cons (pe_callTy call_str_int (by rfl) T.n_str bo_str (pa_cons (pe_gc rfl T.v_GREATEST) pa_nil)) pa_nil))))
  (pss_one (ps_ret pe_non))
  pss_nil)
(pss_cons (ps_for PassesOwn.never rfl (pi_str (pv 0)) (pg_name (i := 1) sc_number_of.nd rfl (by first | exact Or.inl rfl | exact Or.inr rfl))
  (pss_one (ps_if (pt_cmpR op_notIn_sign (pv 1) (pe_gc rfl T.v_DIGITS) (by rfl))
    (pss_one (ps_ret pe_non))
    pss_nil)))
(pss_cons (ps_if (PW.pt (pw_and (pt_cmpR op_eq (pe_ix ix_str (pv 0) pe_int (fun _ _ => rfl)) pe_str (nomark _)) (pw_and1 (pt_cmpR op_gt (pe_callB call_len_str (by rfl) T.n_len bo_len (pa_cons (pv 0) pa_nil)) pe_int (nomark _)))))
  (pss_one (ps_ret pe_non))
  pss_nil)
(pss_cons (ps_set (i := 2) sc_number_of.nd rfl (by first | exact Or.inl rfl | exact Or.inr rfl) (pe_callTy call_int_str (by rfl) T.n_int bo_int (pa_cons (pv 0) pa_nil)))
(pss_cons (ps_if (pt_cmpR op_gt (pv 2) (pe_gc rfl T.v_GREATEST) (nomark _))
  (pss_one (ps_ret pe_non))
  pss_nil)
(pss_one (ps_ret (pv 2)))))))), ?_⟩
    have no : numGood z = false → Q .non H := fun e => by unfold numV at k; rw [e] at k; exact k
    have e5 : (Str.ofString (toString (65535 : Int))).length = 5 := by decide +kernel
    refine ⟨_, rfl, z, rfl, smallM (by omega), _, _, rfl, rfl, _, rfl, iteD (fun h1 => ?_) (fun h1 => ⟨_, rfl, iteT (no ?_)⟩)⟩
    rotate_left
    · unfold numGood
      rw [decide_eq_false (fun q => h1 (by omega))]; simp
    refine ⟨_, rfl, by decide +kernel, _, rfl, by rw [e5]; exact smallM (by decide), _, _, rfl, rfl, _, rfl, iteN (fun h2 => no ?_) (fun h2 => ?_)⟩
    · rw [e5] at h2
      unfold numGood
      rw [decide_eq_false (fun q => h2 (by omega))]; simp
    rw [e5] at h2
    have hl : 1 ≤ z.length ∧ z.length ≤ 5 := ⟨by omega, by omega⟩
    refine ⟨_, rfl, _, rfl, for_it walk_str (fun i σ H' => H' = H ∧ (∃ o, σ = [some (.str z), o, none]) ∧ ∀ j c, j < i → (TL.tl z)[j]? = some c → isD c = true)
      ⟨rfl, ⟨none, rfl⟩, fun j c q => absurd q (Nat.not_lt_zero _)⟩ (fun _ _ _ _ _ => trivial) ?_ ?_⟩
    · rintro i x σ H' H'' hi ⟨rfl, ⟨o, rfl⟩, hall⟩ ⟨rfl, c, hc, rfl⟩
      have hcc : (TL.tl z)[i]? = some c := by rw [← hc]; exact Array.getElem?_toList
      refine ⟨_, rfl, _, _, rfl, rfl, _, rfl, iteB (fun e4 => no ?_) (fun e4 => ?_)⟩
      · rw [mem_digits] at e4
        have : (TL.tl z).all isD = false := by
          refine Bool.eq_false_iff.mpr fun q => ?_
          have := List.all_eq_true.mp q c (List.mem_of_getElem? hcc)
          simp_all
        unfold numGood; rw [this]; simp
      · rw [mem_digits] at e4
        refine ⟨rfl, ⟨_, rfl⟩, fun j c' hj hg => ?_⟩
        by_cases q : j < i
        · exact hall j c' q hg
        · have : j = i := by omega
          subst this
          rw [hcc] at hg; cases hg; simp_all
    · rintro σ H' ⟨rfl, ⟨o, rfl⟩, hall⟩
      have hA : (TL.tl z).all isD = true := List.all_eq_true.mpr fun c hc => by
        obtain ⟨j, hj, rfl⟩ := List.getElem_of_mem hc
        refine hall j _ ?_ (List.getElem?_eq_getElem hj)
        have : z.cps.size = (TL.tl z).length := by rw [Array.length_toList]
        omega
      have hl2 : 0 < (TL.tl z).length := by rw [len_cps]; omega
      obtain ⟨c0, r, hcs⟩ : ∃ c r, TL.tl z = c :: r := by
        cases q : TL.tl z with
        | nil => rw [q] at hl2; simp at hl2
        | cons c r => exact ⟨c, r, rfl⟩
      have hhd : (TL.tl z).headD 0 = c0 := by rw [hcs]; rfl
      have e48 : ((⟨#[c0]⟩ : Str) = "0") ↔ c0 = 48 := by
        constructor
        · intro q
          have := congrArg (fun x : Str => x.cps.toList) q
          rw [cp_0] at this
          exact (List.cons.inj this).1
        · intro q; subst q; decide +kernel
      have hint : PySem.intText? z = some ((NumText.digitsVal (TL.tl z) : Nat) : Int) := by
        have := int_S (a := TL.tl z) (by
          rw [List.all_eq_true] at hA ⊢
          intro c hc
          have := hA c hc
          unfold isD at this
          rw [← Bool.decide_and]; exact this) (by rw [hcs]; simp) (by rw [len_cps]; omega)
        rw [S_tl] at this
        exact this
      -- behind the look for a leading zero
      have tail : (z.length = 1 ∨ c0 ≠ 48) → ∀ (D : Ends), D = { nx := fun _ H' => Q .non H', rt := Q } → True := fun _ _ _ => trivial
      have lead : ¬ (z.length = 1 ∨ c0 ≠ 48) → Q .non H' := fun q => no (by
        unfold numGood
        rw [hhd, decide_eq_false (p := z.length = 1) (fun x => q (.inl x)), decide_eq_false (p := c0 ≠ 48) (fun x => q (.inr x))]; simp)
      refine ⟨_, rfl, _, _, c0, rfl, rfl, smallM (by omega), (by show atI (TL.tl z) 0 = some c0; rw [hcs]; exact atI_nat (j := 0) rfl), rfl, _, rfl, iteD (fun e1 => ?_) (fun e1 => ?_)⟩
      · refine ⟨_, rfl, z, rfl, smallM (by omega), _, _, rfl, rfl, _, rfl, iteD (fun e2 => lead ?_) (fun e2 => ?_)⟩
        · rintro (q | q)
          · omega
          · exact q (e48.mp (V.str.inj e1))
        · have hlead : z.length = 1 ∨ c0 ≠ 48 := .inl (by omega)
          refine ⟨_, rfl, _, _, rfl, hint, by omega, _, rfl, _, _, rfl, rfl, _, rfl, iteD (fun e3 => no ?_) (fun e3 => ?_)⟩
          · unfold numGood; rw [decide_eq_false (p := NumText.digitsVal (TL.tl z) ≤ 65535) (by omega)]; simp
          · have : numGood z = true := by
              unfold numGood
              rw [decide_eq_true hl, hA, hhd, decide_eq_true (p := NumText.digitsVal (TL.tl z) ≤ 65535) (by omega), decide_eq_true (p := z.length = 1) (by omega)]; rfl
            unfold numV at k; rw [this] at k
            exact ⟨_, rfl, k⟩
      · have hlead : c0 ≠ 48 := fun q => e1 (congrArg V.str (e48.mpr q))
        refine ⟨_, rfl, _, _, rfl, hint, by omega, _, rfl, _, _, rfl, rfl, _, rfl, iteD (fun e3 => no ?_) (fun e3 => ?_)⟩
        · unfold numGood; rw [decide_eq_false (p := NumText.digitsVal (TL.tl z) ≤ 65535) (by omega)]; simp
        · have : numGood z = true := by
            unfold numGood
            rw [decide_eq_true hl, hA, hhd, decide_eq_true (p := NumText.digitsVal (TL.tl z) ≤ 65535) (by omega), decide_eq_true (p := c0 ≠ 48) hlead]; simp
          unfold numV at k; rw [this] at k
          exact ⟨_, rfl, k⟩
end

/-! a place in a list of words -/
def crF (lw lo lv : Addr) (sees : Bool) (at_ : Int) : List (Str × V) := [("words", .ref lw), ("options", .ref lo), ("variables", .ref lv), ("sees", .bl sees), ("at", .int at_), ("moves", .int 0), ("branchings", .int 0)]
structure CurAt (C : Addr) (H : Hp) (x lw lo lv : Addr) (ws ps ns : List Str) (sees : Bool) (at_ : Nat) : Prop where
  o : ∃ dx, H x = some (.ins C dx (crF lw lo lv sees (at_ : Int)))
  w : H lw = some (.lst (ws.map V.str))
  p : H lo = some (.lst (ps.map V.str))
  n : H lv = some (.lst (ns.map V.str))
theorem CurAt.keep {C : Addr} {H H' : Hp} {x lw lo lv : Addr} {ws ps ns : List Str} {sees : Bool} {at_ : Nat} {W : List Addr} (h : CurAt C H x lw lo lv ws ps ns sees at_) (k : Keep W H H') (w1 : x ∉ W) (w2 : lw ∉ W) (w3 : lo ∉ W) (w4 : lv ∉ W) : CurAt C H' x lw lo lv ws ps ns sees at_ := by
  obtain ⟨dx, o⟩ := h.o
  exact ⟨⟨dx, k _ _ o w1⟩, k _ _ h.w w2, k _ _ h.p w3, k _ _ h.n w4⟩
theorem CurAt.keep0 {C : Addr} {H H' : Hp} {x lw lo lv : Addr} {ws ps ns : List Str} {sees : Bool} {at_ : Nat} (h : CurAt C H x lw lo lv ws ps ns sees at_) (k : Keep [] H H') : CurAt C H' x lw lo lv ws ps ns sees at_ := h.keep k (by simp) (by simp) (by simp) (by simp)
theorem CurAt.tk1 {C : Addr} {H H' : Hp} {x lw lo lv : Addr} {ws ps ns : List Str} {sees : Bool} {at_ : Nat} (h : CurAt C H x lw lo lv ws ps ns sees at_) (k : Keep [x] H H') : TK H H' := by
  obtain ⟨dx, o⟩ := h.o
  intro b xs q
  refine k _ _ q ?_
  have := ne_of q o (by intro z; cases z)
  simpa using this
theorem CurAt.step {C : Addr} {H : Hp} {x lw lo lv dx : Addr} {ws ps ns : List Str} {sees : Bool} {at_ : Nat} (h : CurAt C H x lw lo lv ws ps ns sees at_) (o : H x = some (.ins C dx (crF lw lo lv sees (at_ : Int)))) {z : Int} (hz : z = ((at_ + 1 : Nat) : Int)) : CurAt C (upd H x (.ins C dx (crF lw lo lv sees z))) x lw lo lv ws ps ns sees (at_ + 1) := by
  have ne : ∀ {a : Addr} {xs : List V}, H a = some (.lst xs) → a ≠ x := fun h1 => ne_of h1 o (by intro z; cases z)
  exact ⟨⟨dx, by rw [upd_same, hz]⟩, by rw [upd_ne (ne h.w)]; exact h.w, by rw [upd_ne (ne h.p)]; exact h.p, by rw [upd_ne (ne h.n)]; exact h.n⟩
def wordV (ws : List Str) (i : Nat) : V := match ws[i]? with
  | some w => .str w
  | none => .non
def WsOk (ws : List Str) : Prop := (∀ w ∈ ws, w.length ≤ 1000) ∧ ws.length ≤ 1000000
/-- the promise of a refusal at a place -/
abbrev Ref (CB : Addr) (H : Hp) (E : XK) (x : Addr) (i : Nat) : Prop := ∀ d H', H d = none → H' d = some (.xd [(("at" : Str), .int (i : Int))]) → Keep [x] H H' → E (.ref CB) (some d) H'
def sp_word (C : Addr) : Sp := fun vs H Q _ => ∃ x lw lo lv ws ps ns sees i, vs = [.ref x] ∧ CurAt C H x lw lo lv ws ps ns sees i ∧ WsOk ws ∧ Q (wordV ws i) H
def sp_tword (C CB : Addr) : Sp := fun vs H Q E => ∃ x lw lo lv ws ps ns sees i w, vs = [.ref x, .str w] ∧ CurAt C H x lw lo lv ws ps ns sees i ∧ WsOk ws ∧
  (ws[i]? = some w → ∀ H', CurAt C H' x lw lo lv ws ps ns sees (i + 1) → Keep [x] H H' → Q .non H') ∧ (ws[i]? ≠ some w → Ref CB H E x i)
def sp_tname (C CB : Addr) : Sp := fun vs H Q E => ∃ (x lw lo lv : Addr) (ws ps ns : List Str) (sees : Bool) (i : Nat) (l : Addr) (ys : List Str), vs = [.ref x, .ref l] ∧ CurAt C H x lw lo lv ws ps ns sees i ∧ WsOk ws ∧ H l = some (.lst (ys.map V.str)) ∧
  (∀ w, ws[i]? = some w → w ∈ ys → ∀ H', CurAt C H' x lw lo lv ws ps ns sees (i + 1) → Keep [x] H H' → Q (.str w) H') ∧ ((∀ w, ws[i]? = some w → w ∉ ys) → Ref CB H E x i)
def numO (z : Str) : Option Int := if numGood z = true then some ((NumText.digitsVal (TL.tl z) : Nat) : Int) else none
def sp_tnum (C CB : Addr) : Sp := fun vs H Q E => ∃ x lw lo lv ws ps ns sees i, vs = [.ref x, .int 0, .int 65535] ∧ CurAt C H x lw lo lv ws ps ns sees i ∧ WsOk ws ∧
  (∀ w n, ws[i]? = some w → numO w = some n → 0 ≤ n → n ≤ 65535 → ∀ H', CurAt C H' x lw lo lv ws ps ns sees (i + 1) → Keep [x] H H' → Q (.int n) H') ∧ ((∀ w, ws[i]? = some w → numO w = none) → Ref CB H E x i)
section
variable {P : Program} {w : World} {K : PySem.W.Frag} {mg : Str → Option Value} {base : Heap} {C_Cursor : Addr} {C_GameError : Addr} {C_BadText : Addr} {f_BadText___init : Addr} {T_SIGNS : Addr}
theorem ok_word {p f : Addr} {fd : FuncData} (pr : PropOf K C_Cursor "word" p f) (F : C8.Fun K "word" "Cursor.word" s_Cursor_word f fd) (b : Binds K fd ["self"] []) (T : Txt K mg C_Cursor C_GameError C_BadText T_SIGNS) : Prp P w K mg base 1 C_Cursor "word" (sp_word C_Cursor) := by
  refine ⟨p, f, fd, ["self"], T.cl_Cursor, pr, ?_, b⟩
  refine C8.fn0 F sc_Cursor_word (fun vs H Q E h => ?_) (fun cdv A outer s H vs Q E hr h => ?_)
  · obtain ⟨x, lw, lo, lv, ws, ps, ns, sees, i, rfl, _⟩ := h
    rfl
  · obtain ⟨x, lw, lo, lv, ws, ps, ns, sees, i, rfl, hC, hW, k⟩ := h
    refine ⟨_, (pss_cons (ps_if (pt_cmpR op_lt (pe_fld (pv 0) rfl) (pe_callB call_len_seq (by rfl) T.n_len bo_len (pa_cons (pe_fld (pv 0) rfl) pa_nil)) (nomark _))
  (pss_one (ps_ret (pe_ix ix_list (pe_fld (pv 0) rfl) (pe_fld (pv 0) rfl) (fun _ _ => rfl))))
  pss_nil)
(pss_one (ps_ret pe_non))), ?_⟩
    obtain ⟨dx, o⟩ := hC.o
    refine ⟨_, rfl, x, C_Cursor, dx, _, _, rfl, o, T.cl_Cursor, T.a_Cursor_at, rfl, _, rfl, x, C_Cursor, dx, _, _, rfl, o, T.cl_Cursor, T.a_Cursor_words, rfl, _, _, rfl, .inl (SqL.of hC.w), _, _, rfl, rfl, _, rfl, iteD (fun h => ?_) (fun h => ?_)⟩
    · rw [List.length_map] at h
      have hi : i < ws.length := by omega
      have hg : ws[i]? = some ws[i] := List.getElem?_eq_getElem hi
      have kk : wordV ws i = .str ws[i] := by unfold wordV; rw [hg]
      rw [kk] at k
      exact ⟨_, rfl, x, C_Cursor, dx, _, _, rfl, o, T.cl_Cursor, T.a_Cursor_words, rfl, _, rfl, x, C_Cursor, dx, _, _, rfl, o, T.cl_Cursor, T.a_Cursor_at, rfl, _, _, _, _, rfl, rfl, SqL.of hC.w, atI_nat (by rw [List.getElem?_map, hg]; rfl), k⟩
    · rw [List.length_map] at h
      have kk : wordV ws i = .non := by unfold wordV; rw [List.getElem?_eq_none (by omega)]
      rw [kk] at k
      exact k
theorem ok_tword {f : Addr} {fd : FuncData} (me : Meth K C_Cursor "take_word" f) (F : C8.Fun K "take_word" "Cursor.take_word" s_Cursor_take_word f fd) (b : Binds K fd ["self", "word"] []) (T : Txt K mg C_Cursor C_GameError C_BadText T_SIGNS) (X_BadText : SupX_BadText.Txt P K mg "BadText" C_BadText f_BadText___init) (c_Cursor_word : Prp P w K mg base 1 C_Cursor "word" (sp_word C_Cursor)) :
    MetX P w K mg base 3 C_Cursor "take_word" (sp_tword C_Cursor C_BadText) [] := by
  refine ⟨f, fd, ["self", "word"], [], T.cl_Cursor, me, ?_, b, .nil⟩
  refine fnx F sc_Cursor_take_word (fun vs H Q E h => ?_) (fun cdv A outer s H vs Q E hr h => ?_)
  · obtain ⟨x, lw, lo, lv, ws, ps, ns, sees, i, w, rfl, _⟩ := h
    rfl
  · obtain ⟨x, lw, lo, lv, ws, ps, ns, sees, i, w, rfl, hC, hW, k1, k2⟩ := h
    refine ⟨_, (pss_cons (ps_if (pt_cmpR op_ne (pe_pr c_Cursor_word hr (by first | exact Nat.le_refl _ | decide | omega) (pv 0) rfl) (pv 1) (nomark _))
  (pss_one (SupX_BadText.ps_raiseE rfl X_BadText hr (takes_of rfl rfl rfl rfl) (pa_cons (pe_fld (pv 0) rfl) pa_nil)))
  pss_nil)
(pss_one (ps_fldaug (pv 0) pe_int in_add))), ?_⟩
    obtain ⟨dx, o⟩ := hC.o
    refine ⟨_, rfl, x, dx, _, rfl, o, x, lw, lo, lv, ws, ps, ns, sees, i, rfl, hC, hW, ?_⟩
    have go : ws[i]? = some w → ws[i]? = some w := id
    by_cases hw : ws[i]? = some w
    · have e : wordV ws i = .str w := by unfold wordV; rw [hw]
      rw [e]
      refine ⟨_, rfl, rfl, _, rfl, iteNF rfl ?_⟩
      refine ⟨_, rfl, x, C_Cursor, dx, _, _, rfl, o, T.cl_Cursor, T.a_Cursor_at, rfl, _, _, rfl, rfl, dx, _, o, by show 7 < 1000; decide, ?_⟩
      exact k1 hw _ (hC.step o (by omega)) (Keep.at_ (List.mem_singleton.mpr rfl))
    · have ne : ¬ wordV ws i = .str w := by
        unfold wordV
        cases q : ws[i]? with
        | none => intro z; cases z
        | some v => intro z; cases z; exact hw q
      have sc : scal (wordV ws i) (.str w) = true := by
        unfold wordV
        cases ws[i]? <;> rfl
      refine ⟨_, rfl, sc, _, rfl, iteNT ne ?_⟩
      refine ⟨_, rfl, x, C_Cursor, dx, _, _, rfl, o, T.cl_Cursor, T.a_Cursor_at, rfl, _, rfl, fun d nd => k2 hw d _ nd upd_same (Keep.new nd)⟩
theorem ok_tname {f : Addr} {fd : FuncData} (me : Meth K C_Cursor "take_name" f) (F : C8.Fun K "take_name" "Cursor.take_name" s_Cursor_take_name f fd) (b : Binds K fd ["self", "names"] []) (T : Txt K mg C_Cursor C_GameError C_BadText T_SIGNS) (X_BadText : SupX_BadText.Txt P K mg "BadText" C_BadText f_BadText___init) (c_Cursor_word : Prp P w K mg base 1 C_Cursor "word" (sp_word C_Cursor)) :
    MetX P w K mg base 3 C_Cursor "take_name" (sp_tname C_Cursor C_BadText) [] := by
  refine ⟨f, fd, ["self", "names"], [], T.cl_Cursor, me, ?_, b, .nil⟩
  refine fnx F sc_Cursor_take_name (fun vs H Q E h => ?_) (fun cdv A outer s H vs Q E hr h => ?_)
  · obtain ⟨x, lw, lo, lv, ws, ps, ns, sees, i, l, ys, rfl, _⟩ := h
    rfl
  · obtain ⟨x, lw, lo, lv, ws, ps, ns, sees, i, l, ys, rfl, hC, hW, hl, k1, k2⟩ := h
    refine ⟨_, (pss_cons (ps_set (i := 2) sc_Cursor_take_name.nd rfl (by first | exact Or.inl rfl | exact Or.inr rfl) (pe_pr c_Cursor_word hr (by first | exact Nat.le_refl _ | decide | omega) (pv 0) rfl))
(pss_cons (ps_if (PW.pt (pw_or (pt_cmpR op_isN (pv 2) pe_non (nomark _)) (pw_or1 (pt_cmpR op_notIn_seq (pv 2) (pv 1) (by rfl)))))
  (pss_one (SupX_BadText.ps_raiseE rfl X_BadText hr (takes_of rfl rfl rfl rfl) (pa_cons (pe_fld (pv 0) rfl) pa_nil)))
  pss_nil)
(pss_cons (ps_fldaug (pv 0) pe_int in_add)
(pss_one (ps_ret (pv 2)))))), ?_⟩
    obtain ⟨dx, o⟩ := hC.o
    refine ⟨_, rfl, x, dx, _, rfl, o, x, lw, lo, lv, ws, ps, ns, sees, i, rfl, hC, hW, ?_⟩
    cases hg : ws[i]? with
    | none =>
      have e : wordV ws i = .non := by unfold wordV; rw [hg]
      rw [e]
      refine ⟨_, rfl, rfl, _, rfl, iteDT rfl ?_⟩
      exact ⟨_, rfl, x, C_Cursor, dx, _, _, rfl, o, T.cl_Cursor, T.a_Cursor_at, rfl, _, rfl, fun d nd => k2 (fun w h => by rw [hg] at h; cases h) d _ nd upd_same (Keep.new nd)⟩
    | some v =>
      have e : wordV ws i = .str v := by unfold wordV; rw [hg]
      rw [e]
      refine ⟨_, rfl, rfl, _, rfl, iteDF (by intro z; cases z) ?_⟩
      refine ⟨_, rfl, _, rfl, _, _, rfl, .inl (SqL.of hl), rfl, flat_strs ys, _, rfl, iteB (fun h => ?_) (fun h => ?_)⟩
      · have h' : (!inV (.str v) (ys.map V.str)) = true := h
        rw [inV_strs] at h'
        exact ⟨_, rfl, x, C_Cursor, dx, _, _, rfl, o, T.cl_Cursor, T.a_Cursor_at, rfl, _, rfl, fun d nd => k2 (fun w hh => by rw [hg] at hh; cases hh; simpa using h') d _ nd upd_same (Keep.new nd)⟩
      · have h' : (!inV (.str v) (ys.map V.str)) = false := h
        rw [inV_strs] at h'
        refine ⟨_, rfl, x, C_Cursor, dx, _, _, rfl, o, T.cl_Cursor, T.a_Cursor_at, rfl, _, _, rfl, rfl, dx, _, o, by show 7 < 1000; decide, ?_⟩
        exact ⟨_, rfl, k1 v hg (by simpa using h') _ (hC.step o (by omega)) (Keep.at_ (List.mem_singleton.mpr rfl))⟩
theorem ok_tnum {f : Addr} {fd : FuncData} (me : Meth K C_Cursor "take_number" f) (F : C8.Fun K "take_number" "Cursor.take_number" s_Cursor_take_number f fd) (b : Binds K fd ["self", "least", "most"] []) (T : Txt K mg C_Cursor C_GameError C_BadText T_SIGNS) (X_BadText : SupX_BadText.Txt P K mg "BadText" C_BadText f_BadText___init) (c_Cursor_word : Prp P w K mg base 1 C_Cursor "word" (sp_word C_Cursor))
    (c_number_of : C8.Cal P w K mg base 1 "number_of" sp_number_of []) : MetX P w K mg base 3 C_Cursor "take_number" (sp_tnum C_Cursor C_BadText) [] := by
  refine ⟨f, fd, ["self", "least", "most"], [], T.cl_Cursor, me, ?_, b, .nil⟩
  refine fnx F sc_Cursor_take_number (fun vs H Q E h => ?_) (fun cdv A outer s H vs Q E hr h => ?_)
  · obtain ⟨x, lw, lo, lv, ws, ps, ns, sees, i, rfl, _⟩ := h
    rfl
  · obtain ⟨x, lw, lo, lv, ws, ps, ns, sees, i, rfl, hC, hW, k1, k2⟩ := h
    refine ⟨_, (pss_cons (ps_set (i := 3) sc_Cursor_take_number.nd rfl (by first | exact Or.inl rfl | exact Or.inr rfl) (pe_pr c_Cursor_word hr (by first | exact Nat.le_refl _ | decide | omega) (pv 0) rfl))
(pss_cons (ps_set (i := 4) sc_Cursor_take_number.nd rfl (by first | exact Or.inl rfl | exact Or.inr rfl) pe_non)
(pss_cons (ps_if (pt_cmpR op_notN (pv 3) pe_non (nomark _))
  (pss_one (ps_set (i := 4) sc_Cursor_take_number.nd rfl (by first | exact Or.inl rfl | exact Or.inr rfl) (pe_c c_number_of hr (by first | exact Nat.le_refl _ | decide | omega) rfl (pa_cons (pv 3) pa_nil))))
  pss_nil)
(pss_cons (ps_if (PW.pt (pw_or (pt_cmpR op_isN (pv 4) pe_non (nomark _)) (pw_or1 (pt_not (pt_chain op_le op_le (pv 1) (pv 4) (pv 2))))))
  (pss_one (SupX_BadText.ps_raiseE rfl X_BadText hr (takes_of rfl rfl rfl rfl) (pa_cons (pe_fld (pv 0) rfl) pa_nil)))
  pss_nil)
(pss_cons (ps_fldaug (pv 0) pe_int in_add)
(pss_one (ps_ret (pv 4)))))))), ?_⟩
    obtain ⟨dx, o⟩ := hC.o
    refine ⟨_, rfl, x, dx, _, rfl, o, x, lw, lo, lv, ws, ps, ns, sees, i, rfl, hC, hW, ?_⟩
    cases hg : ws[i]? with
    | none =>
      have e : wordV ws i = .non := by unfold wordV; rw [hg]
      rw [e]
      refine ⟨_, rfl, rfl, _, rfl, iteNF rfl ?_⟩
      refine ⟨_, rfl, rfl, _, rfl, iteDT rfl ?_⟩
      exact ⟨_, rfl, x, C_Cursor, dx, _, _, rfl, o, T.cl_Cursor, T.a_Cursor_at, rfl, _, rfl, fun d nd => k2 (fun w h => by rw [hg] at h; cases h) d _ nd upd_same (Keep.new nd)⟩
    | some v =>
      have e : wordV ws i = .str v := by unfold wordV; rw [hg]
      rw [e]
      have hv := hW.1 v (List.mem_of_getElem? hg)
      refine ⟨_, rfl, rfl, _, rfl, iteNT (by intro z; cases z) ?_⟩
      refine ⟨_, rfl, v, rfl, hv, ?_⟩
      cases hn : numGood v with
      | false =>
        have en : numV v = .non := by unfold numV; rw [hn]; rfl
        have eo : numO v = none := by unfold numO; rw [hn]; rfl
        rw [en]
        refine ⟨_, rfl, rfl, _, rfl, iteDT rfl ?_⟩
        exact ⟨_, rfl, x, C_Cursor, dx, _, _, rfl, o, T.cl_Cursor, T.a_Cursor_at, rfl, _, rfl, fun d nd => k2 (fun w h => by rw [hg] at h; cases h; exact eo) d _ nd upd_same (Keep.new nd)⟩
      | true =>
        have en : numV v = .int ((NumText.digitsVal (TL.tl v) : Nat) : Int) := by unfold numV; rw [hn]; rfl
        have eo : numO v = some ((NumText.digitsVal (TL.tl v) : Nat) : Int) := by unfold numO; rw [hn]; rfl
        have hb : NumText.digitsVal (TL.tl v) ≤ 65535 := by
          unfold numGood at hn
          simp only [Bool.and_eq_true, decide_eq_true_eq] at hn
          exact hn.2
        rw [en]
        refine ⟨_, rfl, rfl, _, rfl, iteDF (by intro z; cases z) ?_⟩
        refine ⟨_, rfl, _, rfl, _, _, rfl, rfl, _, rfl, iteDT (by omega) ⟨_, rfl, _, _, rfl, rfl, _, rfl, iteNF (by omega) ?_⟩⟩
        refine ⟨_, rfl, x, C_Cursor, dx, _, _, rfl, o, T.cl_Cursor, T.a_Cursor_at, rfl, _, _, rfl, rfl, dx, _, o, by show 7 < 1000; decide, ?_⟩
        exact ⟨_, rfl, k1 v _ hg eo (by omega) (by omega) _ (hC.step o (by omega)) (Keep.at_ (List.mem_singleton.mpr rfl))⟩
end

/-! reading, in plain words: the place that does not fit, or the expression and the place behind it -/
def leafR (ws ns : List Str) (sees : Bool) (i : Nat) : Nat ⊕ (Ex × Nat) :=
  match ws[i]? with
  | none => .inl i
  | some w => if w = "long" ∧ sees = true then .inr (.long, i + 1) else if w ∈ ns then .inr (.var w, i + 1) else match numO w with
    | some n => .inr (.num n, i + 1)
    | none => .inl i
def two (s : Ex → Ex → Ex) (f : Nat → Nat ⊕ (Ex × Nat)) (i : Nat) : Nat ⊕ (Ex × Nat) :=
  match f i with
  | .inl j => .inl j
  | .inr (l, a) => match f a with
    | .inl j => .inl j
    | .inr (r, b) => .inr (s l r, b)
def rd (ws ps ns : List Str) (sees : Bool) : Nat → Nat → Nat ⊕ (Ex × Nat)
  | 0, i => leafR ws ns sees i
  | m + 1, i =>
    match ws[i]? with
    | none => .inl i
    | some w =>
      if w ∈ sgL then two (.op w) (rd ws ps ns sees m) (i + 1)
      else if w = "pick" ∧ ps ≠ [] then
        (match ws[i + 1]? with
        | none => .inl (i + 1)
        | some o => if o ∈ ps then two (.pick o) (rd ws ps ns sees m) (i + 2) else .inl (i + 1))
      else if w = "view" ∧ sees = true then
        (match rd ws ps ns sees m (i + 1) with
        | .inl j => .inl j
        | .inr (e, a) => .inr (.view e, a))
      else leafR ws ns sees i
theorem two_l {s : Ex → Ex → Ex} {f : Nat → Nat ⊕ (Ex × Nat)} {i j : Nat} (h : f i = .inl j) : two s f i = .inl j := by simp [two, h]
theorem two_m {s : Ex → Ex → Ex} {f : Nat → Nat ⊕ (Ex × Nat)} {i j a : Nat} {l : Ex} (h : f i = .inr (l, a)) (g : f a = .inl j) : two s f i = .inl j := by simp [two, h, g]
theorem two_r {s : Ex → Ex → Ex} {f : Nat → Nat ⊕ (Ex × Nat)} {i a b : Nat} {l r : Ex} (h : f i = .inr (l, a)) (g : f a = .inr (r, b)) : two s f i = .inr (s l r, b) := by simp [two, h, g]
def sp_read (K : PySem.W.Frag) (C CB : Addr) (n : Nat) : Sp := fun vs H Q E => ∃ (x lw lo lv : Addr) (ws ps ns : List Str) (sees : Bool) (i : Nat) (room : Int), vs = [.ref x, .int room] ∧ CurAt C H x lw lo lv ws ps ns sees i ∧ WsOk ws ∧ 1 ≤ room ∧ room.toNat ≤ n ∧
  (∀ e a v H', rd ws ps ns sees (room.toNat - 1) i = .inr (e, a) → EV K H' v e → CurAt C H' x lw lo lv ws ps ns sees a → Keep [x] H H' → Q v H') ∧ (∀ j, rd ws ps ns sees (room.toNat - 1) i = .inl j → Ref CB H E x j)
theorem flatW (ws : List Str) (i : Nat) : flatV (wordV ws i) = true := by
  unfold wordV
  cases ws[i]? <;> rfl
theorem inW (ws ys : List Str) (i : Nat) : inV (wordV ws i) (ys.map V.str) = true ↔ ∃ w, ws[i]? = some w ∧ w ∈ ys := by
  unfold wordV
  cases q : ws[i]? with
  | none =>
    constructor
    · intro h
      exfalso
      unfold inV at h
      rw [List.any_map, List.any_eq_true] at h
      obtain ⟨y, _, hy⟩ := h
      cases hy
    · rintro ⟨w, h, _⟩; cases h
  | some w =>
    rw [inV_strs]
    constructor
    · intro h; exact ⟨w, rfl, of_decide_eq_true h⟩
    · rintro ⟨v, h, hv⟩; cases h; exact decide_eq_true hv
theorem eqW (ws : List Str) (i : Nat) (z : Str) : wordV ws i = .str z ↔ ws[i]? = some z := by
  unfold wordV
  cases q : ws[i]? with
  | none => exact ⟨fun h => (by cases h), fun h => (by cases h)⟩
  | some w => exact ⟨fun h => (by cases h; rfl), fun h => (by cases h; rfl)⟩
theorem scW (ws : List Str) (i : Nat) (z : Str) : scal (wordV ws i) (.str z) = true := by
  unfold wordV
  cases ws[i]? <;> rfl
section
variable {P : Program} {w : World} {K : PySem.W.Frag} {mg : Str → Option Value} {base : Heap} {C_Cursor : Addr} {C_GameError : Addr} {C_BadText : Addr} {f_BadText___init : Addr} {T_SIGNS : Addr}
theorem ok_read {f : Addr} {fd : FuncData} (D : C8.Def K mg "read_expression" s_read_expression f fd) (T : Txt K mg C_Cursor C_GameError C_BadText T_SIGNS) {n k : Nat} (c_read_expression_room : CalXK P w K mg base (k + 1) "read_expression" (sp_read K C_Cursor C_BadText n) 1 ["room"] (fun vs zs => vs ++ zs)) (c_Cursor_word : Prp P w K mg base k C_Cursor "word" (sp_word C_Cursor))
    (c_Cursor_take_name : MetX P w K mg base (k + 1) C_Cursor "take_name" (sp_tname C_Cursor C_BadText) []) (c_Cursor_take_number : MetX P w K mg base (k + 1) C_Cursor "take_number" (sp_tnum C_Cursor C_BadText) []) : FnOk P w K mg base (L2.CX P w) (k + 2) f fd ["cursor", "room"] (sp_read K C_Cursor C_BadText (n + 1)) := by
  refine fnx D.fn sc_read_expression (fun vs H Q E h => ?_) (fun cdv A outer s H vs Q E hr h => ?_)
  · obtain ⟨x, lw, lo, lv, ws, ps, ns, sees, i, room, rfl, _⟩ := h
    rfl
  · obtain ⟨x, lw, lo, lv, ws, ps, ns, sees, i, room, rfl, hC, hW, r1, rn, kQ, kE⟩ := h
    refine ⟨_, (pss_cons (ps_set (i := 2) sc_read_expression.nd rfl (by first | exact Or.inl rfl | exact Or.inr rfl) (pe_pr c_Cursor_word hr (by first | exact Nat.le_refl _ | decide | omega) (pv 0) rfl))
(pss_cut (ps_if (PW.pt (pw_and (pt_cmpR op_in_seq (pv 2) (pe_gc rfl T.v_SIGNS) (by rfl)) (pw_and1 (pt_cmpR op_gt (pv 1) pe_int (nomark _)))))
  (pss_cons (ps_fldaug (pv 0) pe_int in_add)
  (pss_cons (ps_set (i := 3) sc_read_expression.nd rfl (by first | exact Or.inl rfl | exact Or.inr rfl) (pe_cKX c_read_expression_room hr (by first | exact Nat.le_refl _ | decide | omega) rfl (passes_call (takes_of rfl rfl rfl rfl) (fun _ _ _ _ h => h)) (pa_cons (pv 0) pa_nil) (pk_cons (pe_op op_sub (pv 1) pe_int) pk_nil)))
  (pss_cons (ps_set (i := 4) sc_read_expression.nd rfl (by first | exact Or.inl rfl | exact Or.inr rfl) (pe_cKX c_read_expression_room hr (by first | exact Nat.le_refl _ | decide | omega) rfl (passes_call (takes_of rfl rfl rfl rfl) (fun _ _ _ _ h => h)) (pa_cons (pv 0) pa_nil) (pk_cons (pe_op op_sub (pv 1) pe_int) pk_nil)))
  (pss_one (ps_ret (pe_tup (pa_cons (pv 2) (pa_cons (pv 3) (pa_cons (pv 4) pa_nil)))))))))
  pss_nil)
(pss_cut (ps_if (PW.pt (pw_and (pt_cmpR op_eq (pv 2) pe_str (nomark _)) (pw_and (pt_truth (pe_fld (pv 0) rfl) (by intro _; rfl)) (pw_and1 (pt_cmpR op_gt (pv 1) pe_int (nomark _))))))
  (pss_cons (ps_fldaug (pv 0) pe_int in_add)
  (pss_cons (ps_set (i := 5) sc_read_expression.nd rfl (by first | exact Or.inl rfl | exact Or.inr rfl) (pe_mX c_Cursor_take_name hr (by first | exact Nat.le_refl _ | decide | omega) (passes_call (takes_of rfl rfl rfl rfl) (fun _ _ _ _ h => h)) (pv 0) (pa_cons (pe_fld (pv 0) rfl) pa_nil)))
  (pss_cons (ps_set (i := 3) sc_read_expression.nd rfl (by first | exact Or.inl rfl | exact Or.inr rfl) (pe_cKX c_read_expression_room hr (by first | exact Nat.le_refl _ | decide | omega) rfl (passes_call (takes_of rfl rfl rfl rfl) (fun _ _ _ _ h => h)) (pa_cons (pv 0) pa_nil) (pk_cons (pe_op op_sub (pv 1) pe_int) pk_nil)))
  (pss_cons (ps_set (i := 4) sc_read_expression.nd rfl (by first | exact Or.inl rfl | exact Or.inr rfl) (pe_cKX c_read_expression_room hr (by first | exact Nat.le_refl _ | decide | omega) rfl (passes_call (takes_of rfl rfl rfl rfl) (fun _ _ _ _ h => h)) (pa_cons (pv 0) pa_nil) (pk_cons (pe_op op_sub (pv 1) pe_int) pk_nil)))
  (pss_one (ps_ret (pe_tup (pa_cons pe_str (pa_cons (pv 5) (pa_cons (pv 3) (pa_cons (pv 4) pa_nil)))))))))))
  pss_nil)
(pss_cut (ps_if (PW.pt (pw_and (pt_cmpR op_eq (pv 2) pe_str (nomark _)) (pw_and (pt_truth (pe_fld (pv 0) rfl) (by intro _; rfl)) (pw_and1 (pt_cmpR op_gt (pv 1) pe_int (nomark _))))))
  (pss_cons (ps_fldaug (pv 0) pe_int in_add)
  (pss_one (ps_ret (pe_tup (pa_cons pe_str (pa_cons (pe_cKX c_read_expression_room hr (by first | exact Nat.le_refl _ | decide | omega) rfl (passes_call (takes_of rfl rfl rfl rfl) (fun _ _ _ _ h => h)) (pa_cons (pv 0) pa_nil) (pk_cons (pe_op op_sub (pv 1) pe_int) pk_nil)) pa_nil))))))
  pss_nil)
(pss_cut (ps_if (PW.pt (pw_and (pt_cmpR op_eq (pv 2) pe_str (nomark _)) (pw_and1 (pt_truth (pe_fld (pv 0) rfl) (by intro _; rfl)))))
  (pss_cons (ps_fldaug (pv 0) pe_int in_add)
  (pss_one (ps_ret (pe_tup (pa_cons pe_str pa_nil)))))
  pss_nil)
(pss_cut (ps_if (PW.pt (pw_and (pt_cmpR op_notN (pv 2) pe_non (nomark _)) (pw_and1 (pt_cmpR op_in_seq (pv 2) (pe_fld (pv 0) rfl) (by rfl)))))
  (pss_cons (ps_fldaug (pv 0) pe_int in_add)
  (pss_one (ps_ret (pe_tup (pa_cons pe_str (pa_cons (pv 2) pa_nil))))))
  pss_nil)
(pss_one (ps_ret (pe_tup (pa_cons pe_str (pa_cons (pe_mX c_Cursor_take_number hr (by first | exact Nat.le_refl _ | decide | omega) (passes_call (takes_of rfl rfl rfl rfl) (fun _ _ _ _ h => h)) (pv 0) (pa_cons pe_int (pa_cons (pe_gc rfl T.v_GREATEST) pa_nil))) pa_nil))))))))))), ?_⟩
    obtain ⟨dx, o⟩ := hC.o
    refine ⟨_, rfl, x, dx, _, rfl, o, x, lw, lo, lv, ws, ps, ns, sees, i, rfl, hC, hW, ?_⟩
    have kw : ∀ {z : Str}, ¬ wordV ws i = .str z → ∀ w, ws[i]? = some w → ¬ w = z := fun h w hw z => h ((eqW _ _ _).mpr (z ▸ hw))
    have rdS : ∀ {m : Nat} {w : Str}, room.toNat - 1 = m + 1 → ws[i]? = some w → rd ws ps ns sees (room.toNat - 1) i = if w ∈ sgL then two (.op w) (rd ws ps ns sees m) (i + 1)
      else if w = "pick" ∧ ps ≠ [] then
        (match ws[i + 1]? with
        | none => .inl (i + 1)
        | some o => if o ∈ ps then two (.pick o) (rd ws ps ns sees m) (i + 2) else .inl (i + 1))
      else if w = "view" ∧ sees = true then
        (match rd ws ps ns sees m (i + 1) with
        | .inl j => .inl j
        | .inr (e, a) => .inr (.view e, a))
      else leafR ws ns sees i := by
      intro m w hm hw
      rw [hm, rd, hw]
    -- a part of it
    have sub : ∀ {H1 : Hp} {a : Nat} {Q1 : VK} {E1 : XK}, room > 1 → CurAt C_Cursor H1 x lw lo lv ws ps ns sees a → (∀ e b v H', rd ws ps ns sees (room.toNat - 1 - 1) a = .inr (e, b) → EV K H' v e → CurAt C_Cursor H' x lw lo lv ws ps ns sees b → Keep [x] H1 H' → Q1 v H') → (∀ j, rd ws ps ns sees (room.toNat - 1 - 1) a = .inl j → Ref C_BadText H1 E1 x j) → sp_read K C_Cursor C_BadText n [.ref x, .int (room - 1)] H1 Q1 E1 := by
      intro H1 a Q1 E1 hg C1 h1 h2
      have e : (room - 1).toNat - 1 = room.toNat - 1 - 1 := by omega
      exact ⟨x, lw, lo, lv, ws, ps, ns, sees, a, room - 1, rfl, C1, hW, by omega, by omega, by rw [e]; exact h1, by rw [e]; exact h2⟩
    have fr : ∀ {H1 : Hp} {a : Nat} {d : Addr}, Keep [x] H H1 → CurAt C_Cursor H1 x lw lo lv ws ps ns sees a → H1 d = none → H d = none := fun k1 c1 h => by
      obtain ⟨dx1, o1⟩ := c1.o
      exact k1.free1 o1 h
    refine ⟨fun σ H' => H' = H ∧ σ = [some (.ref x), some (.int room), some (wordV ws i), none, none, none] ∧ ∀ w, ws[i]? = some w → room > 1 → w ∉ sgL, ?_, ?_⟩
    · refine ⟨_, rfl, _, _, rfl, .inr (T.q_SIGNS _), flatW ws i, flat_strs sgL, _, rfl, iteB (fun h => ⟨_, rfl, _, _, rfl, rfl, _, rfl, iteD (fun hg => ?_) (fun hg => ⟨rfl, rfl, fun w hw h1 => absurd h1 hg⟩)⟩) (fun h => ⟨rfl, rfl, fun w hw _ hm => ?_⟩)⟩
      · obtain ⟨w, hw, hm⟩ := (inW ws sgL i).mp h
        have hg : room > 1 := hg
        have e := rdS (m := room.toNat - 1 - 1) (by omega) hw
        rw [if_pos hm] at e
        have eV : wordV ws i = .str w := (eqW _ _ _).mpr hw
        rw [eV]
        refine ⟨_, rfl, x, C_Cursor, dx, _, _, rfl, o, T.cl_Cursor, T.a_Cursor_at, rfl, _, _, rfl, rfl, dx, _, o, by show 7 < 1000; decide, ?_⟩
        have C1 := hC.step o (z := (i : Int) + 1) (by omega)
        have K1 : Keep [x] H (upd H x (.ins C_Cursor dx (crF lw lo lv sees ((i : Int) + 1)))) := Keep.at_ (List.mem_singleton.mpr rfl)
        refine ⟨_, rfl, _, rfl, _, _, rfl, rfl, rfl, rfl, sub hg C1 (fun e1 a v1 H2 r2 E2 C2 K2 => ?_) (fun j r2 d H2 nd hd K2 => ?_)⟩
        · have K12 := K1.trans K2
          refine ⟨_, rfl, _, rfl, _, _, rfl, rfl, rfl, rfl, sub hg C2 (fun e3 b v3 H3 r3 E3 C3 K3 => ?_) (fun j r3 d H3 nd hd K3 => ?_)⟩
          · have K13 := K12.trans K3
            refine ⟨_, rfl, _, rfl, _, rfl, And.intro (by show 3 ≤ sizeLine; decide) <| fun t nt => ?_⟩
            have kt : Keep [] H3 (upd H3 t (.tup [.str w, v1, v3])) := Keep.new nt
            exact kQ (.op w e1 e3) b (.ref t) _ (e.trans (two_r r2 r3)) (.op (.inl upd_same) ((E2.tk (C2.tk1 K3)).tk kt.tk) (E3.tk kt.tk)) (C3.keep0 kt) (K13.then_new nt)
          · exact kE j (e.trans (two_m r2 r3)) d H3 (fr K12 C2 nd) hd (K12.trans K3)
        · exact kE j (e.trans (two_l r2)) d H2 (fr K1 C1 nd) hd (K1.trans K2)
      · have := (inW ws sgL i).mpr ⟨w, hw, hm⟩
        have h' : inV (wordV ws i) (sgL.map V.str) = false := h
        rw [this] at h'
        cases h'
    rintro σ H' ⟨rfl, rfl, inv1⟩
    refine ⟨fun σ H1 => H1 = H' ∧ σ = [some (.ref x), some (.int room), some (wordV ws i), none, none, none] ∧ ∀ w, ws[i]? = some w → room > 1 → ¬ (w = "pick" ∧ ps ≠ []), ?_, ?_⟩
    · refine ⟨_, rfl, scW _ _ _, _, rfl, iteD (fun h => ?_) (fun h => ⟨rfl, rfl, fun w hw _ z => kw h w hw z.1⟩)⟩
      refine ⟨_, rfl, x, C_Cursor, dx, _, _, rfl, o, T.cl_Cursor, T.a_Cursor_options, rfl, _, .inl ⟨_, SqL.of hC.p, rfl⟩, iteB (fun h2 => ?_) (fun h2 => ⟨rfl, rfl, fun w hw _ z => ?_⟩)⟩
      · refine ⟨_, rfl, _, _, rfl, rfl, _, rfl, iteD (fun hg => ?_) (fun hg => ⟨rfl, rfl, fun w hw h1 => absurd h1 hg⟩)⟩
        have hg : room > 1 := hg
        have hw := (eqW _ _ _).mp h
        have hps : ps ≠ [] := fun z => by rw [z] at h2; cases h2
        have e := rdS (m := room.toNat - 1 - 1) (by omega) hw
        rw [if_neg (by decide +kernel), if_pos ⟨rfl, hps⟩] at e
        refine ⟨_, rfl, x, C_Cursor, dx, _, _, rfl, o, T.cl_Cursor, T.a_Cursor_at, rfl, _, _, rfl, rfl, dx, _, o, by show 7 < 1000; decide, ?_⟩
        have C1 := hC.step o (z := (i : Int) + 1) (by omega)
        have K1 : Keep [x] H' (upd H' x (.ins C_Cursor dx (crF lw lo lv sees ((i : Int) + 1)))) := Keep.at_ (List.mem_singleton.mpr rfl)
        obtain ⟨dx1, o1⟩ := C1.o
        refine ⟨_, rfl, x, dx1, _, rfl, o1, rfl, _, rfl, x, C_Cursor, dx1, _, _, rfl, o1, T.cl_Cursor, T.a_Cursor_options, rfl, x, lw, lo, lv, ws, ps, ns, sees, i + 1, lo, ps, rfl, C1, hW, C1.p, fun y hy hm H2 C2 K2 => ?_, fun hno d H2 nd hd K2 => ?_⟩
        · rw [hy] at e
          have e' : rd ws ps ns sees (room.toNat - 1) i = two (.pick y) (rd ws ps ns sees (room.toNat - 1 - 1)) (i + 2) := by rw [e]; exact if_pos hm
          have K12 := K1.trans K2
          refine ⟨_, rfl, _, rfl, _, _, rfl, rfl, rfl, rfl, sub hg C2 (fun e1 a v1 H3 r2 E3 C3 K3 => ?_) (fun j r2 d H3 nd hd K3 => ?_)⟩
          · have K13 := K12.trans K3
            refine ⟨_, rfl, _, rfl, _, _, rfl, rfl, rfl, rfl, sub hg C3 (fun e3 b v3 H4 r3 E4 C4 K4 => ?_) (fun j r3 d H4 nd hd K4 => ?_)⟩
            · have K14 := K13.trans K4
              refine ⟨_, rfl, _, rfl, _, rfl, And.intro (by show 4 ≤ sizeLine; decide) <| fun t nt => ?_⟩
              have kt : Keep [] H4 (upd H4 t (.tup [.str "pick", .str y, v1, v3])) := Keep.new nt
              exact kQ (.pick y e1 e3) b (.ref t) _ (e'.trans (two_r r2 r3)) (.pick (.inl upd_same) ((E3.tk (C3.tk1 K4)).tk kt.tk) (E4.tk kt.tk)) (C4.keep0 kt) (K14.then_new nt)
            · exact kE j (e'.trans (two_m r2 r3)) d H4 (fr K13 C3 nd) hd (K13.trans K4)
          · exact kE j (e'.trans (two_l r2)) d H3 (fr K12 C2 nd) hd (K12.trans K3)
        · refine kE (i + 1) ?_ d H2 (fr K1 C1 nd) hd (K1.trans K2)
          rw [e]
          cases q : ws[i + 1]? with
          | none => rfl
          | some y => exact if_neg (hno y q)
      · have : ps = [] := by
          cases ps with
          | nil => rfl
          | cons a r => cases h2
        exact z.2 this
    rintro σ H1 ⟨rfl, rfl, inv2⟩
    refine ⟨fun σ H' => H' = H1 ∧ σ = [some (.ref x), some (.int room), some (wordV ws i), none, none, none] ∧ ∀ w, ws[i]? = some w → room > 1 → ¬ (w = "view" ∧ sees = true), ?_, ?_⟩
    · refine ⟨_, rfl, scW _ _ _, _, rfl, iteD (fun h => ?_) (fun h => ⟨rfl, rfl, fun w hw _ z => kw h w hw z.1⟩)⟩
      refine ⟨_, rfl, x, C_Cursor, dx, _, _, rfl, o, T.cl_Cursor, T.a_Cursor_sees, rfl, _, rfl, iteB (fun h2 => ?_) (fun h2 => ⟨rfl, rfl, fun w hw _ z => ?_⟩)⟩
      · refine ⟨_, rfl, _, _, rfl, rfl, _, rfl, iteD (fun hg => ?_) (fun hg => ⟨rfl, rfl, fun w hw h1 => absurd h1 hg⟩)⟩
        have hg : room > 1 := hg
        have hw := (eqW _ _ _).mp h
        have e := rdS (m := room.toNat - 1 - 1) (by omega) hw
        rw [if_neg (by decide +kernel), if_neg (by rintro ⟨z, _⟩; exact absurd z (by decide +kernel)), if_pos ⟨rfl, h2⟩] at e
        refine ⟨_, rfl, x, C_Cursor, dx, _, _, rfl, o, T.cl_Cursor, T.a_Cursor_at, rfl, _, _, rfl, rfl, dx, _, o, by show 7 < 1000; decide, ?_⟩
        have C1' := hC.step o (z := (i : Int) + 1) (by omega)
        have K1 : Keep [x] H1 (upd H1 x (.ins C_Cursor dx (crF lw lo lv sees ((i : Int) + 1)))) := Keep.at_ (List.mem_singleton.mpr rfl)
        refine ⟨_, rfl, _, rfl, _, _, rfl, rfl, rfl, rfl, sub hg C1' (fun e1 a v1 H2 r2 E2 C2 K2 => ?_) (fun j r2 d H2 nd hd K2 => ?_)⟩
        · have K12 := K1.trans K2
          refine And.intro (by show 2 ≤ sizeLine; decide) <| fun t nt => ?_
          have kt : Keep [] H2 (upd H2 t (.tup [.str "view", v1])) := Keep.new nt
          exact kQ (.view e1) a (.ref t) _ (by rw [e, r2]) (.view (.inl upd_same) (E2.tk kt.tk)) (C2.keep0 kt) (K12.then_new nt)
        · exact kE j (by rw [e, r2]) d H2 (fr K1 C1' nd) hd (K1.trans K2)
      · rw [z.2] at h2; cases h2
    rintro σ H' ⟨rfl, rfl, inv3⟩
    have hleaf : rd ws ps ns sees (room.toNat - 1) i = leafR ws ns sees i := by
      cases hm : room.toNat - 1 with
      | zero => rfl
      | succ m =>
        cases hw : ws[i]? with
        | none => rw [rd, hw]; unfold leafR; rw [hw]
        | some w =>
          have hg : room > 1 := by omega
          rw [← hm, rdS hm hw, if_neg (inv1 w hw hg), if_neg (inv2 w hw hg), if_neg (inv3 w hw hg)]
    rw [hleaf] at kQ kE
    refine ⟨fun σ H1 => H1 = H' ∧ σ = [some (.ref x), some (.int room), some (wordV ws i), none, none, none] ∧ ∀ w, ws[i]? = some w → ¬ (w = "long" ∧ sees = true), ?_, ?_⟩
    · refine ⟨_, rfl, scW _ _ _, _, rfl, iteD (fun h => ?_) (fun h => ⟨rfl, rfl, fun w hw z => kw h w hw z.1⟩)⟩
      refine ⟨_, rfl, x, C_Cursor, dx, _, _, rfl, o, T.cl_Cursor, T.a_Cursor_sees, rfl, _, rfl, iteB (fun h2 => ?_) (fun h2 => ⟨rfl, rfl, fun w hw z => ?_⟩)⟩
      · have hw := (eqW _ _ _).mp h
        refine ⟨_, rfl, x, C_Cursor, dx, _, _, rfl, o, T.cl_Cursor, T.a_Cursor_at, rfl, _, _, rfl, rfl, dx, _, o, by show 7 < 1000; decide, ?_⟩
        have C1' := hC.step o (z := (i : Int) + 1) (by omega)
        have K1 : Keep [x] H' (upd H' x (.ins C_Cursor dx (crF lw lo lv sees ((i : Int) + 1)))) := Keep.at_ (List.mem_singleton.mpr rfl)
        refine And.intro (by show 1 ≤ sizeLine; decide) <| fun t nt => ?_
        exact kQ .long (i + 1) (.ref t) _ (by unfold leafR; rw [hw]; exact if_pos ⟨rfl, h2⟩) (.long (.inl upd_same)) (C1'.keep0 (Keep.new nt)) (K1.then_new nt)
      · rw [z.2] at h2; cases h2
    rintro σ H1 ⟨rfl, rfl, inv4⟩
    refine ⟨fun σ H' => H' = H1 ∧ σ = [some (.ref x), some (.int room), some (wordV ws i), none, none, none] ∧ ∀ w, ws[i]? = some w → w ∉ ns, ?_, ?_⟩
    · cases hw : ws[i]? with
      | none =>
        have eV : wordV ws i = .non := by unfold wordV; rw [hw]
        rw [eV]
        exact ⟨_, rfl, rfl, _, rfl, iteNF rfl ⟨rfl, rfl, fun w z => by cases z⟩⟩
      | some w =>
        have eV : wordV ws i = .str w := by unfold wordV; rw [hw]
        rw [eV]
        refine ⟨_, rfl, rfl, _, rfl, iteNT (by intro z; cases z) ⟨_, rfl, _, rfl, x, C_Cursor, dx, _, _, rfl, o, T.cl_Cursor, T.a_Cursor_variables, rfl, _, _, rfl, .inl (SqL.of hC.n), rfl, flat_strs ns, _, rfl, iteB (fun h => ?_) (fun h => ⟨rfl, rfl, fun v z => ?_⟩)⟩⟩
        · have h' : inV (.str w) (ns.map V.str) = true := h
          rw [inV_strs] at h'
          refine ⟨_, rfl, x, C_Cursor, dx, _, _, rfl, o, T.cl_Cursor, T.a_Cursor_at, rfl, _, _, rfl, rfl, dx, _, o, by show 7 < 1000; decide, ?_⟩
          have C1' := hC.step o (z := (i : Int) + 1) (by omega)
          have K1 : Keep [x] H1 (upd H1 x (.ins C_Cursor dx (crF lw lo lv sees ((i : Int) + 1)))) := Keep.at_ (List.mem_singleton.mpr rfl)
          refine ⟨_, rfl, And.intro (by show 2 ≤ sizeLine; decide) <| fun t nt => ?_⟩
          exact kQ (.var w) (i + 1) (.ref t) _ (by unfold leafR; rw [hw]; show (if _ then _ else _) = _; rw [if_neg (inv4 w hw)]; exact if_pos (of_decide_eq_true h')) (.var (.inl upd_same)) (C1'.keep0 (Keep.new nt)) (K1.then_new nt)
        · have h' : inV (.str w) (ns.map V.str) = false := h
          rw [inV_strs] at h'
          cases z
          exact of_decide_eq_false h'
    rintro σ H' ⟨rfl, rfl, inv5⟩
    refine ⟨_, rfl, x, dx, _, rfl, o, rfl, x, lw, lo, lv, ws, ps, ns, sees, i, rfl, hC, hW, fun w n hw hn n0 n1 H2 C2 K2 => And.intro (by show 2 ≤ sizeLine; decide) <| fun t nt => ?_, fun hno => kE i ?_⟩
    · refine kQ (.num n) (i + 1) (.ref t) _ ?_ (.num (.inl upd_same)) (C2.keep0 (Keep.new nt)) (K2.then_new nt)
      unfold leafR
      rw [hw]
      show (if _ then _ else _) = _
      rw [if_neg (inv4 w hw), if_neg (inv5 w hw), hn]
    · unfold leafR
      cases hw : ws[i]? with
      | none => rfl
      | some w =>
        show (if _ then _ else _) = _
        rw [if_neg (inv4 w hw), if_neg (inv5 w hw), hno w hw]
end

def sp_cinit (C : Addr) : Sp := fun vs H Q _ => ∃ (x dx a b c : Addr) (ws ps ns : List Str) (sees : Bool), vs = [.ref x, .ref a, .ref b, .ref c, .bl sees] ∧ H x = some (.ins C dx []) ∧ H a = some (.lst (ws.map V.str)) ∧ H b = some (.lst (ps.map V.str)) ∧ H c = some (.lst (ns.map V.str)) ∧
  ∀ lw lo lv H', H lw = none → H lo = none → H lv = none → CurAt C H' x lw lo lv ws ps ns sees 0 → Keep [x] H H' → Q .non H'
/-! the words of an expression -/
def tS (n : Int) : Str := Str.ofString (toString n)
def rowsE : Ex → Int → List (Str × Int × Str)
  | .num n, L => [(tS n, L, "number")]
  | .var x, L => [(x, L, "variable")]
  | .long, L => [("long", L, "sees")]
  | .view e, L => ("view", L + 1, "sees") :: rowsE e (L + 1)
  | .pick x l r, L => ("pick", L + 1, "pick") :: (x, L, "option") :: (rowsE l (L + 1) ++ rowsE r (L + 1))
  | .op s l r, L => (s, L + 1, "sign") :: (rowsE l (L + 1) ++ rowsE r (L + 1))
def wds : Ex → List Str
  | .num n => [tS n]
  | .var x => [x]
  | .long => ["long"]
  | .view e => "view" :: wds e
  | .pick x l r => "pick" :: x :: (wds l ++ wds r)
  | .op s l r => s :: (wds l ++ wds r)
theorem wds_rows : ∀ (e : Ex) (L : Int), (rowsE e L).map (·.1) = wds e
  | .num n, L => rfl
  | .var x, L => rfl
  | .long, L => rfl
  | .view e, L => by show ("view" : Str) :: (rowsE e (L + 1)).map (·.1) = _; rw [wds_rows e]; rfl
  | .pick x l r, L => by show ("pick" : Str) :: x :: (rowsE l (L + 1) ++ rowsE r (L + 1)).map (·.1) = _; rw [List.map_append, wds_rows l, wds_rows r]; rfl
  | .op s l r, L => by show s :: (rowsE l (L + 1) ++ rowsE r (L + 1)).map (·.1) = _; rw [List.map_append, wds_rows l, wds_rows r]; rfl
theorem wds_len : ∀ (e : Ex) (n : Nat), e.dep ≤ n + 1 → (wds e).length + 2 ≤ 3 * 2 ^ n
  | .num _, n, _ => by show 1 + 2 ≤ _; have := Nat.one_le_two_pow (n := n); omega
  | .var _, n, _ => by show 1 + 2 ≤ _; have := Nat.one_le_two_pow (n := n); omega
  | .long, n, _ => by show 1 + 2 ≤ _; have := Nat.one_le_two_pow (n := n); omega
  | .view e, n, h => by
    have h' : e.dep + 1 ≤ n + 1 := h
    have := e.dep_pos
    obtain ⟨m, rfl⟩ : ∃ m, n = m + 1 := ⟨n - 1, by omega⟩
    have ih := wds_len e m (by omega)
    have := Nat.one_le_two_pow (n := m)
    show (wds e).length + 1 + 2 ≤ _
    rw [Nat.pow_succ]; omega
  | .pick x l r, n, h => by
    have h' : max l.dep r.dep + 1 ≤ n + 1 := h
    have := l.dep_pos
    obtain ⟨m, rfl⟩ : ∃ m, n = m + 1 := ⟨n - 1, by omega⟩
    have i1 := wds_len l m (by omega)
    have i2 := wds_len r m (by omega)
    show (wds l ++ wds r).length + 1 + 1 + 2 ≤ _
    rw [List.length_append, Nat.pow_succ]; omega
  | .op s l r, n, h => by
    have h' : max l.dep r.dep + 1 ≤ n + 1 := h
    have := l.dep_pos
    obtain ⟨m, rfl⟩ : ∃ m, n = m + 1 := ⟨n - 1, by omega⟩
    have i1 := wds_len l m (by omega)
    have i2 := wds_len r m (by omega)
    show (wds l ++ wds r).length + 1 + 2 ≤ _
    rw [List.length_append, Nat.pow_succ]; omega
theorem wds_small {e : Ex} (h : e.dep ≤ 14) : (wds e).length ≤ 30000 := by
  have := wds_len e 13 (by omega)
  omega
theorem rows_len (e : Ex) (L : Int) : (rowsE e L).length = (wds e).length := by rw [← wds_rows e L, List.length_map]
inductive Rws (H : Hp) : List V → List (Str × Int × Str) → Prop
  | nil : Rws H [] []
  | cons {p : Addr} {w k : Str} {l : Int} {vs : List V} {rs : List (Str × Int × Str)} : H p = some (.tup [.str w, .int l, .str k]) → Rws H vs rs → Rws H (.ref p :: vs) ((w, l, k) :: rs)
theorem Rws.tk {H H' : Hp} (k : TK H H') {vs : List V} {l : List (Str × Int × Str)} (h : Rws H vs l) : Rws H' vs l := by
  induction h with
  | nil => exact .nil
  | cons h _ ih => exact .cons (k _ _ h) ih
theorem Rws.app {H : Hp} {vs us : List V} {l m : List (Str × Int × Str)} (h : Rws H vs l) (g : Rws H us m) : Rws H (vs ++ us) (l ++ m) := by
  induction h with
  | nil => exact g
  | cons h _ ih => exact .cons h ih
theorem Rws.len {H : Hp} {vs : List V} {l : List (Str × Int × Str)} (h : Rws H vs l) : vs.length = l.length := by
  induction h with
  | nil => rfl
  | cons _ _ ih => rw [List.length_cons, List.length_cons, ih]
def NumOk (e : Ex) : Prop := ∀ n : Int, n.natAbs.log2 < 1920 ∨ True
def sp_words (K : PySem.W.Frag) (n : Nat) : Sp := fun vs H Q _ => ∃ v e ns ps, vs = [v] ∧ EV K H v e ∧ e.Ok ns ps ∧ e.dep ≤ n ∧ n ≤ 14 ∧ ∀ l H', H l = none → H' l = some (.lst ((wds e).map V.str)) → Keep [] H H' → Q (.ref l) H'
def sp_rows (K : PySem.W.Frag) (n : Nat) : Sp := fun vs H Q _ => ∃ v e ns ps L, vs = [v, .int L] ∧ EV K H v e ∧ e.Ok ns ps ∧ e.dep ≤ n ∧ n ≤ 14 ∧ ∀ l us H', H l = none → H' l = some (.lst us) → Rws H' us (rowsE e L) → Keep [] H H' → Q (.ref l) H'
theorem log_small {n : Int} (h0 : 0 ≤ n) (h1 : n < 65536) : n.natAbs.log2 < 1920 :=
  PySem.Flt.log2_lt_of (by decide) (Nat.lt_trans (show n.natAbs < 65536 by omega) (by decide +kernel))
section
variable {P : Program} {w : World} {K : PySem.W.Frag} {mg : Str → Option Value} {base : Heap} {C_Cursor : Addr} {C_GameError : Addr} {C_BadText : Addr} {f_BadText___init : Addr} {T_SIGNS : Addr}
theorem ok_cinit {f : Addr} {fd : FuncData} {g : List Value → List Value → List Value} (M : Mk K C_Cursor f) (F : C8.Fun K "__init__" "Cursor.__init__" s_Cursor___init f fd) (b : KBn K fd ["self", "words", "options", "variables", "sees"] 2 ["options", "variables", "sees"] g (fun vs zs => vs ++ zs)) (T : Txt K mg C_Cursor C_GameError C_BadText T_SIGNS) :
    MakK P w K mg base 1 "Cursor" C_Cursor (sp_cinit C_Cursor) 1 ["options", "variables", "sees"] (fun vs zs => vs ++ zs) := by
  refine ⟨f, fd, _, g, M, ?_, T.m_Cursor, b⟩
  refine C8.fn0 F sc_Cursor___init (fun vs H Q E h => ?_) (fun cdv A outer s H vs Q E hr h => ?_)
  · obtain ⟨x, dx, a, b, c, ws, ps, ns, sees, rfl, _⟩ := h
    rfl
  · obtain ⟨x, dx, a, b, c, ws, ps, ns, sees, rfl, hx, ha, hb, hc, k⟩ := h
    refine ⟨_, (pss_cons (ps_fld (pv 0) (pe_callTy call_list_of (by rfl) T.n_list bo_list (pa_cons (pv 1) pa_nil)) rfl)
(pss_cons (ps_fld (pv 0) (pe_callTy call_list_of (by rfl) T.n_list bo_list (pa_cons (pv 2) pa_nil)) rfl)
(pss_cons (ps_fld (pv 0) (pe_callTy call_list_of (by rfl) T.n_list bo_list (pa_cons (pv 3) pa_nil)) rfl)
(pss_cons (ps_fld (pv 0) (pv 4) rfl)
(pss_cons (ps_fld (pv 0) pe_int rfl)
(pss_cons (ps_fld (pv 0) pe_int rfl)
(pss_one (ps_fld (pv 0) pe_int rfl)))))))), ?_⟩
    have mx : x ∈ [x] := List.mem_singleton.mpr rfl
    have nl : ∀ {y : Addr} {l : List V}, H y = some (.lst l) → y ∉ [x] := fun h => by
      have := ne_of h hx (by intro z; cases z)
      simpa using this
    refine ⟨_, rfl, _, _, rfl, .inl (SqL.of ha), fun lw nw => ⟨_, rfl, x, C_Cursor, dx, [], rfl, by rw [upd_ne (ne_of_none hx nw)]; exact hx, T.cl_Cursor, T.a_Cursor_words, by show 0 < 1000; decide, ?_⟩⟩
    have k1 : Keep [x] H (upd (upd H lw (.lst (ws.map V.str))) x (.ins C_Cursor dx (putF "words" (.ref lw) []))) := (Keep.new nw).then_at mx
    have hw1 : upd (upd H lw (.lst (ws.map V.str))) x (.ins C_Cursor dx (putF "words" (.ref lw) [])) lw = some (.lst (ws.map V.str)) := by rw [upd_ne (ne_of_none hx nw).symm]; exact upd_same
    have hx1 : upd (upd H lw (.lst (ws.map V.str))) x (.ins C_Cursor dx (putF "words" (.ref lw) [])) x = some (.ins C_Cursor dx (putF "words" (.ref lw) [])) := upd_same
    generalize upd (upd H lw (.lst (ws.map V.str))) x (.ins C_Cursor dx (putF "words" (.ref lw) [])) = H1 at *
    refine ⟨_, rfl, _, _, rfl, .inl (SqL.of (k1 _ _ hb (nl hb))), fun lo no => ⟨_, rfl, x, C_Cursor, dx, _, rfl, by rw [upd_ne (ne_of_none hx1 no)]; exact hx1, T.cl_Cursor, T.a_Cursor_options, by show 1 < 1000; decide, ?_⟩⟩
    have no0 : H lo = none := k1.free1 hx1 no
    have k2 : Keep [x] H1 (upd (upd H1 lo (.lst (ps.map V.str))) x (.ins C_Cursor dx (putF "options" (.ref lo) (putF "words" (.ref lw) [])))) := (Keep.new no).then_at mx
    have ho2 : upd (upd H1 lo (.lst (ps.map V.str))) x (.ins C_Cursor dx (putF "options" (.ref lo) (putF "words" (.ref lw) []))) lo = some (.lst (ps.map V.str)) := by rw [upd_ne (ne_of_none hx1 no).symm]; exact upd_same
    have hx2 : upd (upd H1 lo (.lst (ps.map V.str))) x (.ins C_Cursor dx (putF "options" (.ref lo) (putF "words" (.ref lw) []))) x = some (.ins C_Cursor dx (putF "options" (.ref lo) (putF "words" (.ref lw) []))) := upd_same
    have hw2 := k2 _ _ hw1 (by have := ne_of hw1 hx1 (by intro z; cases z); simpa using this)
    generalize upd (upd H1 lo (.lst (ps.map V.str))) x (.ins C_Cursor dx (putF "options" (.ref lo) (putF "words" (.ref lw) []))) = H2 at *
    have k02 := k1.trans k2
    refine ⟨_, rfl, _, _, rfl, .inl (SqL.of (k02 _ _ hc (nl hc))), fun lv nv => ⟨_, rfl, x, C_Cursor, dx, _, rfl, by rw [upd_ne (ne_of_none hx2 nv)]; exact hx2, T.cl_Cursor, T.a_Cursor_variables, by show 2 < 1000; decide, ?_⟩⟩
    have nv0 : H lv = none := k02.free1 hx2 nv
    refine ⟨_, rfl, _, rfl, x, C_Cursor, dx, _, rfl, upd_same, T.cl_Cursor, T.a_Cursor_sees, by show 3 < 1000; decide, ?_⟩
    refine ⟨_, rfl, x, C_Cursor, dx, _, rfl, upd_same, T.cl_Cursor, T.a_Cursor_at, by show 4 < 1000; decide, ?_⟩
    refine ⟨_, rfl, x, C_Cursor, dx, _, rfl, upd_same, T.cl_Cursor, T.a_Cursor_moves, by show 5 < 1000; decide, ?_⟩
    refine ⟨_, rfl, x, C_Cursor, dx, _, rfl, upd_same, T.cl_Cursor, T.a_Cursor_branchings, by show 6 < 1000; decide, ?_⟩
    refine (?_ : ∀ H9 : Hp, H9 = _ → Q .non H9) _ rfl
    intro H9 e9
    have k9 : Keep [x] H2 H9 := by
      rw [e9]
      exact (((((Keep.new nv).then_at mx).then_at mx).then_at mx).then_at mx).then_at mx
    have nx2 : ∀ {y : Addr} {l : List V}, H2 y = some (.lst l) → y ∉ [x] := fun h => by
      have := ne_of h hx2 (by intro z; cases z)
      simpa using this
    refine k lw lo lv _ nw no0 nv0 ⟨⟨dx, by rw [e9]; exact upd_same⟩, k9 _ _ hw2 (nx2 hw2), k9 _ _ ho2 (nx2 ho2), ?_⟩ (k02.trans k9)
    have exv : lv ≠ x := (ne_of_none hx2 nv).symm
    rw [e9, upd_ne exv, upd_ne exv, upd_ne exv, upd_ne exv, upd_ne exv]
    exact upd_same
end

theorem sg_not' : ∀ s ∈ sgL, s ≠ "number" ∧ s ≠ "variable" ∧ s ≠ "long" ∧ s ≠ "view" ∧ s ≠ "pick" := by decide +kernel
section
variable {P : Program} {w : World} {K : PySem.W.Frag} {mg : Str → Option Value} {base : Heap} {C_Cursor : Addr} {C_GameError : Addr} {C_BadText : Addr} {f_BadText___init : Addr} {T_SIGNS : Addr}
theorem ok_words0 {f : Addr} {fd : FuncData} (D : C8.Def K mg "expression_words" s_expression_words f fd) (b : Binds K fd ["expression"] []) : C8.Cal P w K mg base 1 "expression_words" (sp_words K 0) [] :=
  ⟨f, fd, ["expression"], [], ⟨fun vs H Q E h => (by obtain ⟨v, e, ns, ps, rfl, _⟩ := h; rfl), fun A outer s H args us vs Q E _ _ _ _ h => (by obtain ⟨v, e, ns, ps, _, _, _, z, _⟩ := h; have := e.dep_pos; omega)⟩, D.mgf, D.kp, b, .nil⟩
theorem ok_words {f : Addr} {fd : FuncData} (D : C8.Def K mg "expression_words" s_expression_words f fd) (b : Binds K fd ["expression"] []) (T : Txt K mg C_Cursor C_GameError C_BadText T_SIGNS) {n k : Nat} (c_expression_words : C8.Cal P w K mg base k "expression_words" (sp_words K n) []) : C8.Cal P w K mg base (k + 1) "expression_words" (sp_words K (n + 1)) [] := by
  refine cal0 D b .nil sc_expression_words (fun vs H Q E h => ?_) (fun cdv A outer s H vs Q E hr h => ?_)
  · obtain ⟨v, e, ns, ps, rfl, _⟩ := h
    rfl
  · obtain ⟨v, e, ns, ps, rfl, he, hok, hd, hn, k⟩ := h
    refine ⟨_, (pss_cons (ps_set (i := 1) sc_expression_words.nd rfl (by first | exact Or.inl rfl | exact Or.inr rfl) (pe_ix ix_tup (pv 0) pe_int (fun _ _ => rfl)))
(pss_cons (ps_if (pt_cmpR op_eq (pv 1) pe_str (nomark _))
  (pss_one (ps_ret (pe_lst (pa_cons (pe_callTy call_str_int (by rfl) T.n_str bo_str (pa_cons (pe_ix ix_tup (pv 0) pe_int (fun _ _ => rfl)) pa_nil)) pa_nil))))
  pss_nil)
(pss_cons (ps_if (pt_cmpR op_eq (pv 1) pe_str (nomark _))
  (pss_one (ps_ret (pe_lst (pa_cons (pe_ix ix_tup (pv 0) pe_int (fun _ _ => rfl)) pa_nil))))
  pss_nil)
(pss_cons (ps_if (pt_cmpR op_eq (pv 1) pe_str (nomark _))
  (pss_one (ps_ret (pe_lst (pa_cons pe_str pa_nil))))
  pss_nil)
(pss_cons (ps_if (pt_cmpR op_eq (pv 1) pe_str (nomark _))
  (pss_one (ps_ret (pe_lst (pa_cons pe_str (StX.pa_star (pe_c c_expression_words hr (by first | exact Nat.le_refl _ | decide | omega) rfl (pa_cons (pe_ix ix_tup (pv 0) pe_int (fun _ _ => rfl)) pa_nil)) pa_nil)))))
  pss_nil)
(pss_cons (ps_if (pt_cmpR op_eq (pv 1) pe_str (nomark _))
  (pss_one (ps_set (i := 2) sc_expression_words.nd rfl (by first | exact Or.inl rfl | exact Or.inr rfl) (pe_lst (pa_cons pe_str (pa_cons (pe_ix ix_tup (pv 0) pe_int (fun _ _ => rfl)) pa_nil)))))
  (pss_one (ps_set (i := 2) sc_expression_words.nd rfl (by first | exact Or.inl rfl | exact Or.inr rfl) (pe_lst (pa_cons (pv 1) pa_nil)))))
(pss_cons (ps_expr (pe_bm PySem.F.plainAttrs_list PySem.F.slot_list_extend PySem.F.type_list_extend mt_extend (pv 2) (pa_cons (pe_c c_expression_words hr (by first | exact Nat.le_refl _ | decide | omega) rfl (pa_cons (pe_ix ix_tup (pv 0) (pe_un un_neg pe_int) (fun _ _ => rfl)) pa_nil)) pa_nil)))
(pss_cons (ps_expr (pe_bm PySem.F.plainAttrs_list PySem.F.slot_list_extend PySem.F.type_list_extend mt_extend (pv 2) (pa_cons (pe_c c_expression_words hr (by first | exact Nat.le_refl _ | decide | omega) rfl (pa_cons (pe_ix ix_tup (pv 0) (pe_un un_neg pe_int) (fun _ _ => rfl)) pa_nil)) pa_nil)))
(pss_one (ps_ret (pv 2))))))))))), ?_⟩
    cases he with
    | @num _ z h =>
      refine ⟨_, rfl, _, _, _, _, rfl, rfl, h.sq, rfl, ?_⟩
      refine ⟨_, rfl, rfl, _, rfl, iteDT rfl ?_⟩
      refine ⟨_, rfl, _, _, _, _, rfl, rfl, h.sq, rfl, z, rfl, log_small hok.1 hok.2, And.intro (by show 1 ≤ sizeLine; decide) <| fun l nl => ?_⟩
      exact k l _ nl upd_same (Keep.new nl)
    | @var _ z h =>
      refine ⟨_, rfl, _, _, _, _, rfl, rfl, h.sq, rfl, ?_⟩
      refine ⟨_, rfl, rfl, _, rfl, iteDF (by intro z; exact absurd (V.str.inj z) (by decide +kernel)) ?_⟩
      refine ⟨_, rfl, rfl, _, rfl, iteDT rfl ?_⟩
      refine ⟨_, rfl, _, _, _, _, rfl, rfl, h.sq, rfl, And.intro (by show 1 ≤ sizeLine; decide) <| fun l nl => ?_⟩
      exact k l _ nl upd_same (Keep.new nl)
    | long h =>
      refine ⟨_, rfl, _, _, _, _, rfl, rfl, h.sq, rfl, ?_⟩
      refine ⟨_, rfl, rfl, _, rfl, iteDF (by intro z; exact absurd (V.str.inj z) (by decide +kernel)) ?_⟩
      refine ⟨_, rfl, rfl, _, rfl, iteDF (by intro z; exact absurd (V.str.inj z) (by decide +kernel)) ?_⟩
      refine ⟨_, rfl, rfl, _, rfl, iteDT rfl ?_⟩
      refine And.intro (by show 1 ≤ sizeLine; decide) <| fun l nl => ?_
      exact k l _ nl upd_same (Keep.new nl)
    | @view _ u e h h1 =>
      have hd' : e.dep + 1 ≤ n + 1 := hd
      refine ⟨_, rfl, _, _, _, _, rfl, rfl, h.sq, rfl, ?_⟩
      refine ⟨_, rfl, rfl, _, rfl, iteDF (by intro z; exact absurd (V.str.inj z) (by decide +kernel)) ?_⟩
      refine ⟨_, rfl, rfl, _, rfl, iteDF (by intro z; exact absurd (V.str.inj z) (by decide +kernel)) ?_⟩
      refine ⟨_, rfl, rfl, _, rfl, iteDF (by intro z; exact absurd (V.str.inj z) (by decide +kernel)) ?_⟩
      refine ⟨_, rfl, rfl, _, rfl, iteDT rfl ?_⟩
      refine ⟨_, rfl, _, _, _, _, rfl, rfl, h.sq, rfl, u, e, ns, ps, rfl, h1, hok, by omega, by omega, fun l1 H1 n1 hl1 K1 => ⟨_, _, rfl, .inr (SqL.of hl1), And.intro (by
        have := wds_small (e := e) (by omega)
        rw [List.length_cons, List.length_append, List.length_map]; exact smallM (by simp; omega)) <| fun l nl => ?_⟩⟩
      refine k l _ (K1.free nl) ?_ (K1.then_new nl)
      rw [upd_same]
      show _ = some (HO.lst ((("view" : Str) :: wds e).map V.str))
      simp
    | @pick _ x v1 v2 l r h h1 h2 =>
      have hd' : max l.dep r.dep + 1 ≤ n + 1 := hd
      have s1 := wds_small (e := l) (by omega)
      have s2 := wds_small (e := r) (by omega)
      refine ⟨_, rfl, _, _, _, _, rfl, rfl, h.sq, rfl, ?_⟩
      refine ⟨_, rfl, rfl, _, rfl, iteDF (by intro z; exact absurd (V.str.inj z) (by decide +kernel)) ?_⟩
      refine ⟨_, rfl, rfl, _, rfl, iteDF (by intro z; exact absurd (V.str.inj z) (by decide +kernel)) ?_⟩
      refine ⟨_, rfl, rfl, _, rfl, iteDF (by intro z; exact absurd (V.str.inj z) (by decide +kernel)) ?_⟩
      refine ⟨_, rfl, rfl, _, rfl, iteDF (by intro z; exact absurd (V.str.inj z) (by decide +kernel)) ?_⟩
      refine ⟨_, rfl, rfl, _, rfl, iteDT rfl ?_⟩
      refine ⟨_, rfl, _, _, _, _, rfl, rfl, h.sq, rfl, And.intro (by show 2 ≤ sizeLine; decide) <| fun l0 n0 => ?_⟩
      have k0 : Keep [] H (upd H l0 (.lst [.str "pick", .str x])) := Keep.new n0
      refine ⟨_, rfl, .inl ⟨rfl, _, SqL.of upd_same⟩, _, rfl, _, rfl, _, _, _, _, rfl, rfl, (h.tk k0.tk).sq, rfl, v1, l, ns, ps, rfl, h1.tk k0.tk, hok.2.1, by omega, by omega, fun l1 H1 n1 hl1 K1 => ?_⟩
      have hl0 := K1 _ _ upd_same (by simp : l0 ∉ [])
      refine ⟨l0, l1, _, _, rfl, rfl, hl0, hl1, smallM (by rw [List.length_map]; simp; omega), ?_⟩
      have k2 : Keep [] H (upd H1 l0 (.lst ([.str "pick", .str x] ++ (wds l).map V.str))) := (k0.trans K1).then_own n0
      refine ⟨_, rfl, .inl ⟨rfl, _, SqL.of upd_same⟩, _, rfl, _, rfl, _, _, _, _, rfl, rfl, (h.tk k2.tk).sq, rfl, v2, r, ns, ps, rfl, h2.tk k2.tk, hok.2.2, by omega, by omega, fun l2 H3 n3 hl3 K3 => ?_⟩
      refine ⟨l0, l2, _, _, rfl, rfl, K3 _ _ upd_same (by simp : l0 ∉ []), hl3, smallM (by rw [List.length_append, List.length_map, List.length_map]; simp; omega), _, rfl, ?_⟩
      refine k l0 _ n0 ?_ ((k2.trans K3).then_own n0)
      rw [upd_same]
      show _ = some (HO.lst ((("pick" : Str) :: x :: (wds l ++ wds r)).map V.str))
      simp
    | @op _ sg v1 v2 l r h h1 h2 =>
      have hd' : max l.dep r.dep + 1 ≤ n + 1 := hd
      have s1 := wds_small (e := l) (by omega)
      have s2 := wds_small (e := r) (by omega)
      obtain ⟨n1', n2', n3', n4', n5'⟩ := sg_not' _ hok.1
      refine ⟨_, rfl, _, _, _, _, rfl, rfl, h.sq, rfl, ?_⟩
      refine ⟨_, rfl, rfl, _, rfl, iteDF (fun z => n1' (V.str.inj z)) ?_⟩
      refine ⟨_, rfl, rfl, _, rfl, iteDF (fun z => n2' (V.str.inj z)) ?_⟩
      refine ⟨_, rfl, rfl, _, rfl, iteDF (fun z => n3' (V.str.inj z)) ?_⟩
      refine ⟨_, rfl, rfl, _, rfl, iteDF (fun z => n4' (V.str.inj z)) ?_⟩
      refine ⟨_, rfl, rfl, _, rfl, iteDF (fun z => n5' (V.str.inj z)) ?_⟩
      refine ⟨_, rfl, And.intro (by show 1 ≤ sizeLine; decide) <| fun l0 n0 => ?_⟩
      have k0 : Keep [] H (upd H l0 (.lst [.str sg])) := Keep.new n0
      refine ⟨_, rfl, .inl ⟨rfl, _, SqL.of upd_same⟩, _, rfl, _, rfl, _, _, _, _, rfl, rfl, (h.tk k0.tk).sq, rfl, v1, l, ns, ps, rfl, h1.tk k0.tk, hok.2.1, by omega, by omega, fun l1 H1 n1 hl1 K1 => ?_⟩
      have hl0 := K1 _ _ upd_same (by simp : l0 ∉ [])
      refine ⟨l0, l1, _, _, rfl, rfl, hl0, hl1, smallM (by rw [List.length_map]; simp; omega), ?_⟩
      have k2 : Keep [] H (upd H1 l0 (.lst ([.str sg] ++ (wds l).map V.str))) := (k0.trans K1).then_own n0
      refine ⟨_, rfl, .inl ⟨rfl, _, SqL.of upd_same⟩, _, rfl, _, rfl, _, _, _, _, rfl, rfl, (h.tk k2.tk).sq, rfl, v2, r, ns, ps, rfl, h2.tk k2.tk, hok.2.2, by omega, by omega, fun l2 H3 n3 hl3 K3 => ?_⟩
      refine ⟨l0, l2, _, _, rfl, rfl, K3 _ _ upd_same (by simp : l0 ∉ []), hl3, smallM (by rw [List.length_append, List.length_map, List.length_map]; simp; omega), _, rfl, ?_⟩
      refine k l0 _ n0 ?_ ((k2.trans K3).then_own n0)
      rw [upd_same]
      show _ = some (HO.lst ((sg :: (wds l ++ wds r)).map V.str))
      simp
theorem words_all {f : Addr} {fd : FuncData} (D : C8.Def K mg "expression_words" s_expression_words f fd) (b : Binds K fd ["expression"] []) (T : Txt K mg C_Cursor C_GameError C_BadText T_SIGNS) : ∀ n, C8.Cal P w K mg base (n + 1) "expression_words" (sp_words K n) []
  | 0 => ok_words0 D b
  | n + 1 => ok_words D b T (words_all D b T n)
end

theorem row1 {H : Hp} {t l : Addr} {w k : Str} {L : Int} (nt : H t = none) (nl : upd H t (.tup [.str w, .int L, .str k]) l = none) : Rws (upd (upd H t (.tup [.str w, .int L, .str k])) l (.lst [.ref t])) [.ref t] [(w, L, k)] ∧ Keep [] H (upd (upd H t (.tup [.str w, .int L, .str k])) l (.lst [.ref t])) ∧ H l = none :=
  ⟨.cons (Keep.new (W := []) nl _ _ upd_same (by simp)) .nil, (Keep.new nt).then_new nl, (Keep.new (W := []) nt).free nl⟩
theorem catR {H : Hp} {l1 l2 : Addr} {us1 us2 : List V} {c1 c2 : List (Str × Int × Str)} {Q : VK} (h1 : H l1 = some (.lst us1)) (r1 : Rws H us1 c1) (h2 : H l2 = some (.lst us2)) (r2 : Rws H us2 c2) (hz : c1.length + c2.length ≤ 1000000)
    (k : ∀ r, H r = none → Rws (upd H r (.lst (us1 ++ us2))) (us1 ++ us2) (c1 ++ c2) → Q (.ref r) (upd H r (.lst (us1 ++ us2)))) : rCat (.ref l1) (.ref l2) H Q :=
  ⟨_, _, _, _, rfl, rfl, h1, h2, smallM (by rw [r1.len, r2.len]; exact hz), fun r nr => k r nr ((r1.app r2).tk (TK.new nr))⟩
section
variable {P : Program} {w : World} {K : PySem.W.Frag} {mg : Str → Option Value} {base : Heap} {C_Cursor : Addr} {C_GameError : Addr} {C_BadText : Addr} {f_BadText___init : Addr} {T_SIGNS : Addr}
theorem ok_rows0 {f : Addr} {fd : FuncData} (D : C8.Def K mg "_law_rows" s_law_rows f fd) (b : Binds K fd ["due", "level"] []) : C8.Cal P w K mg base 1 "_law_rows" (sp_rows K 0) [] :=
  ⟨f, fd, ["due", "level"], [], ⟨fun vs H Q E h => (by obtain ⟨v, e, ns, ps, L, rfl, _⟩ := h; rfl), fun A outer s H args us vs Q E _ _ _ _ h => (by obtain ⟨v, e, ns, ps, L, _, _, _, z, _⟩ := h; have := e.dep_pos; omega)⟩, D.mgf, D.kp, b, .nil⟩
theorem ok_rows {f : Addr} {fd : FuncData} (D : C8.Def K mg "_law_rows" s_law_rows f fd) (b : Binds K fd ["due", "level"] []) (T : Txt K mg C_Cursor C_GameError C_BadText T_SIGNS) {n k : Nat} (c_law_rows : C8.Cal P w K mg base k "_law_rows" (sp_rows K n) []) : C8.Cal P w K mg base (k + 1) "_law_rows" (sp_rows K (n + 1)) [] := by
  refine cal0 D b .nil sc_law_rows (fun vs H Q E h => ?_) (fun cdv A outer s H vs Q E hr h => ?_)
  · obtain ⟨v, e, ns, ps, L, rfl, _⟩ := h
    rfl
  · obtain ⟨v, e, ns, ps, L, rfl, he, hok, hd, hn, k⟩ := h
    refine ⟨_, (pss_cons (ps_if (pt_cmpR op_eq (pe_ix ix_tup (pv 0) pe_int (fun _ _ => rfl)) pe_str (nomark _))
  (pss_one (ps_ret (pe_lst (pa_cons (pe_tup (pa_cons (pe_callTy call_str_int (by rfl) T.n_str bo_str (pa_cons (pe_ix ix_tup (pv 0) pe_int (fun _ _ => rfl)) pa_nil)) (pa_cons (pv 1) (pa_cons pe_str pa_nil)))) pa_nil))))
  pss_nil)
(pss_cons (ps_if (pt_cmpR op_eq (pe_ix ix_tup (pv 0) pe_int (fun _ _ => rfl)) pe_str (nomark _))
  (pss_one (ps_ret (pe_lst (pa_cons (pe_tup (pa_cons (pe_ix ix_tup (pv 0) pe_int (fun _ _ => rfl)) (pa_cons (pv 1) (pa_cons pe_str pa_nil)))) pa_nil))))
  pss_nil)
(pss_cons (ps_if (pt_cmpR op_eq (pe_ix ix_tup (pv 0) pe_int (fun _ _ => rfl)) pe_str (nomark _))
  (pss_one (ps_ret (pe_lst (pa_cons (pe_tup (pa_cons pe_str (pa_cons (pv 1) (pa_cons pe_str pa_nil)))) pa_nil))))
  pss_nil)
(pss_cons (ps_if (pt_cmpR op_eq (pe_ix ix_tup (pv 0) pe_int (fun _ _ => rfl)) pe_str (nomark _))
  (pss_one (ps_ret (pe_op op_cat (pe_lst (pa_cons (pe_tup (pa_cons pe_str (pa_cons (pe_op op_add (pv 1) pe_int) (pa_cons pe_str pa_nil)))) pa_nil)) (pe_c c_law_rows hr (by first | exact Nat.le_refl _ | decide | omega) rfl (pa_cons (pe_ix ix_tup (pv 0) pe_int (fun _ _ => rfl)) (pa_cons (pe_op op_add (pv 1) pe_int) pa_nil))))))
  pss_nil)
(pss_cons (ps_set (i := 2) sc_law_rows.nd rfl (by first | exact Or.inl rfl | exact Or.inr rfl) (pe_lst (pa_cons (pe_tup (pa_cons (pe_ix ix_tup (pv 0) pe_int (fun _ _ => rfl)) (pa_cons (pe_op op_add (pv 1) pe_int) (pa_cons pe_str pa_nil)))) pa_nil)))
(pss_cons (ps_if (pt_cmpR op_eq (pe_ix ix_tup (pv 0) pe_int (fun _ _ => rfl)) pe_str (nomark _))
  (pss_one (ps_set (i := 2) sc_law_rows.nd rfl (by first | exact Or.inl rfl | exact Or.inr rfl) (pe_lst (pa_cons (pe_tup (pa_cons pe_str (pa_cons (pe_op op_add (pv 1) pe_int) (pa_cons pe_str pa_nil)))) (pa_cons (pe_tup (pa_cons (pe_ix ix_tup (pv 0) pe_int (fun _ _ => rfl)) (pa_cons (pv 1) (pa_cons pe_str pa_nil)))) pa_nil)))))
  pss_nil)
(pss_one (ps_ret (pe_op op_cat (pe_op op_cat (pv 2) (pe_c c_law_rows hr (by first | exact Nat.le_refl _ | decide | omega) rfl (pa_cons (pe_ix ix_tup (pv 0) (pe_op op_sub (pe_callB call_len_seq (by rfl) T.n_len bo_len (pa_cons (pv 0) pa_nil)) pe_int) (fun _ _ => rfl)) (pa_cons (pe_op op_add (pv 1) pe_int) pa_nil)))) (pe_c c_law_rows hr (by first | exact Nat.le_refl _ | decide | omega) rfl (pa_cons (pe_ix ix_tup (pv 0) (pe_op op_sub (pe_callB call_len_seq (by rfl) T.n_len bo_len (pa_cons (pv 0) pa_nil)) pe_int) (fun _ _ => rfl)) (pa_cons (pe_op op_add (pv 1) pe_int) pa_nil)))))))))))), ?_⟩
    cases he with
    | @num _ z h =>
      refine ⟨_, rfl, _, _, _, _, rfl, rfl, h.sq, rfl, rfl, _, rfl, iteDT rfl ?_⟩
      refine ⟨_, rfl, _, _, _, _, rfl, rfl, h.sq, rfl, z, rfl, log_small hok.1 hok.2, _, rfl, And.intro (by show 3 ≤ sizeLine; decide) <| fun t nt => And.intro (by show 1 ≤ sizeLine; decide) <| fun l nl => ?_⟩
      obtain ⟨a1, a2, a3⟩ := row1 nt nl
      exact k l _ _ a3 upd_same a1 a2
    | @var _ z h =>
      refine ⟨_, rfl, _, _, _, _, rfl, rfl, h.sq, rfl, rfl, _, rfl, iteDF (by intro z; exact absurd (V.str.inj z) (by decide +kernel)) ?_⟩
      refine ⟨_, rfl, _, _, _, _, rfl, rfl, h.sq, rfl, rfl, _, rfl, iteDT rfl ?_⟩
      refine ⟨_, rfl, _, _, _, _, rfl, rfl, h.sq, rfl, _, rfl, And.intro (by show 3 ≤ sizeLine; decide) <| fun t nt => And.intro (by show 1 ≤ sizeLine; decide) <| fun l nl => ?_⟩
      obtain ⟨a1, a2, a3⟩ := row1 nt nl
      exact k l _ _ a3 upd_same a1 a2
    | long h =>
      refine ⟨_, rfl, _, _, _, _, rfl, rfl, h.sq, rfl, rfl, _, rfl, iteDF (by intro z; exact absurd (V.str.inj z) (by decide +kernel)) ?_⟩
      refine ⟨_, rfl, _, _, _, _, rfl, rfl, h.sq, rfl, rfl, _, rfl, iteDF (by intro z; exact absurd (V.str.inj z) (by decide +kernel)) ?_⟩
      refine ⟨_, rfl, _, _, _, _, rfl, rfl, h.sq, rfl, rfl, _, rfl, iteDT rfl ?_⟩
      refine ⟨_, rfl, And.intro (by show 3 ≤ sizeLine; decide) <| fun t nt => And.intro (by show 1 ≤ sizeLine; decide) <| fun l nl => ?_⟩
      obtain ⟨a1, a2, a3⟩ := row1 nt nl
      exact k l _ _ a3 upd_same a1 a2
    | @view _ u e h h1 =>
      have hd' : e.dep + 1 ≤ n + 1 := hd
      have s1 := wds_small (e := e) (by omega)
      refine ⟨_, rfl, _, _, _, _, rfl, rfl, h.sq, rfl, rfl, _, rfl, iteDF (by intro z; exact absurd (V.str.inj z) (by decide +kernel)) ?_⟩
      refine ⟨_, rfl, _, _, _, _, rfl, rfl, h.sq, rfl, rfl, _, rfl, iteDF (by intro z; exact absurd (V.str.inj z) (by decide +kernel)) ?_⟩
      refine ⟨_, rfl, _, _, _, _, rfl, rfl, h.sq, rfl, rfl, _, rfl, iteDF (by intro z; exact absurd (V.str.inj z) (by decide +kernel)) ?_⟩
      refine ⟨_, rfl, _, _, _, _, rfl, rfl, h.sq, rfl, rfl, _, rfl, iteDT rfl ?_⟩
      refine ⟨_, rfl, _, _, rfl, rfl, And.intro (by show 3 ≤ sizeLine; decide) <| fun t nt => And.intro (by show 1 ≤ sizeLine; decide) <| fun l nl => ?_⟩
      obtain ⟨a1, a2, a3⟩ := row1 nt nl
      refine ⟨_, rfl, _, _, _, _, rfl, rfl, (h.tk a2.tk).sq, rfl, _, rfl, _, _, rfl, rfl, u, e, ns, ps, L + 1, rfl, h1.tk a2.tk, hok, by omega, by omega, fun l1 us H1 n1 hl1 R1 K1 => ?_⟩
      refine catR (K1 _ _ upd_same (by simp)) (a1.tk K1.tk) hl1 R1 (by rw [rows_len]; simp; omega) fun r nr R2 => ?_
      exact k r _ _ ((a2.trans K1).free nr) upd_same R2 ((a2.trans K1).then_new nr)
    | @pick _ x v1 v2 l r h h1 h2 =>
      have hd' : max l.dep r.dep + 1 ≤ n + 1 := hd
      have s1 := wds_small (e := l) (by omega)
      have s2 := wds_small (e := r) (by omega)
      refine ⟨_, rfl, _, _, _, _, rfl, rfl, h.sq, rfl, rfl, _, rfl, iteDF (by intro z; exact absurd (V.str.inj z) (by decide +kernel)) ?_⟩
      refine ⟨_, rfl, _, _, _, _, rfl, rfl, h.sq, rfl, rfl, _, rfl, iteDF (by intro z; exact absurd (V.str.inj z) (by decide +kernel)) ?_⟩
      refine ⟨_, rfl, _, _, _, _, rfl, rfl, h.sq, rfl, rfl, _, rfl, iteDF (by intro z; exact absurd (V.str.inj z) (by decide +kernel)) ?_⟩
      refine ⟨_, rfl, _, _, _, _, rfl, rfl, h.sq, rfl, rfl, _, rfl, iteDF (by intro z; exact absurd (V.str.inj z) (by decide +kernel)) ?_⟩
      refine ⟨_, rfl, _, _, _, _, rfl, rfl, h.sq, rfl, _, rfl, _, _, rfl, rfl, And.intro (by show 3 ≤ sizeLine; decide) <| fun t nt => And.intro (by show 1 ≤ sizeLine; decide) <| fun l00 nl => ?_⟩
      obtain ⟨_, b2, _⟩ := row1 nt nl
      generalize upd (upd H t (.tup [.str "pick", .int (L + 1), .str "sign"])) l00 (.lst [.ref t]) = H0 at *
      refine ⟨_, rfl, _, _, _, _, rfl, rfl, (h.tk b2.tk).sq, rfl, rfl, _, rfl, iteDT rfl ?_⟩
      refine ⟨_, rfl, _, _, rfl, rfl, And.intro (by show 3 ≤ sizeLine; decide) <| fun t1 nt1 => ?_⟩
      have c1 : Keep [] H0 (upd H0 t1 (.tup [.str "pick", .int (L + 1), .str "pick"])) := Keep.new nt1
      refine ⟨_, rfl, _, _, _, _, rfl, rfl, (h.tk (b2.trans c1).tk).sq, rfl, _, rfl, And.intro (by show 3 ≤ sizeLine; decide) <| fun t2 nt2 => And.intro (by show 2 ≤ sizeLine; decide) <| fun l0 nl0 => ?_⟩
      have c2 := c1.then_new (o := .tup [.str x, .int L, .str "option"]) nt2
      have c3 := c2.then_new (o := .lst [.ref t1, .ref t2]) nl0
      have a2 := b2.trans c3
      have a1 : Rws (upd (upd (upd H0 t1 (.tup [.str "pick", .int (L + 1), .str "pick"])) t2 (.tup [.str x, .int L, .str "option"])) l0 (.lst [.ref t1, .ref t2])) [.ref t1, .ref t2] [("pick", L + 1, "pick"), (x, L, "option")] :=
        .cons (Keep.new (W := []) nl0 _ _ (Keep.new (W := []) nt2 _ _ upd_same (by simp)) (by simp)) (.cons (Keep.new (W := []) nl0 _ _ upd_same (by simp)) .nil)
      refine ⟨_, rfl, _, rfl, _, rfl, _, _, rfl, .inr (h.tk a2.tk).sq, _, _, rfl, rfl, _, _, _, _, rfl, rfl, (h.tk a2.tk).sq, rfl, _, rfl, _, _, rfl, rfl, v1, l, ns, ps, L + 1, rfl, h1.tk a2.tk, hok.2.1, by omega, by omega, fun l1 us H1 n1 hl1 R1 K1 => ?_⟩
      refine catR (K1 _ _ upd_same (by simp)) (a1.tk K1.tk) hl1 R1 (by rw [rows_len]; simp; omega) fun r1 nr R2 => ?_
      have k2 := (a2.trans K1).then_new (o := .lst ([.ref t1, .ref t2] ++ us)) nr
      refine ⟨_, rfl, _, rfl, _, _, rfl, .inr (h.tk k2.tk).sq, _, _, rfl, rfl, _, _, _, _, rfl, rfl, (h.tk k2.tk).sq, rfl, _, rfl, _, _, rfl, rfl, v2, r, ns, ps, L + 1, rfl, h2.tk k2.tk, hok.2.2, by omega, by omega, fun l3 us3 H3 n3 hl3 R3 K3 => ?_⟩
      refine catR (K3 _ _ upd_same (by simp)) (R2.tk K3.tk) hl3 R3 (by rw [List.length_append, rows_len, rows_len]; simp; omega) fun r4 nr4 R4 => ?_
      refine k r4 _ _ ((k2.trans K3).free nr4) upd_same ?_ ((k2.trans K3).then_new nr4)
      have e : rowsE (.pick x l r) L = ([(("pick" : Str), L + 1, ("pick" : Str)), (x, L, ("option" : Str))] ++ rowsE l (L + 1)) ++ rowsE r (L + 1) := by show _ :: _ :: (_ ++ _) = _; simp
      rw [e]; exact R4
    | @op _ sg v1 v2 l r h h1 h2 =>
      have hd' : max l.dep r.dep + 1 ≤ n + 1 := hd
      have s1 := wds_small (e := l) (by omega)
      have s2 := wds_small (e := r) (by omega)
      obtain ⟨n1', n2', n3', n4', n5'⟩ := sg_not' _ hok.1
      refine ⟨_, rfl, _, _, _, _, rfl, rfl, h.sq, rfl, rfl, _, rfl, iteDF (fun z => n1' (V.str.inj z)) ?_⟩
      refine ⟨_, rfl, _, _, _, _, rfl, rfl, h.sq, rfl, rfl, _, rfl, iteDF (fun z => n2' (V.str.inj z)) ?_⟩
      refine ⟨_, rfl, _, _, _, _, rfl, rfl, h.sq, rfl, rfl, _, rfl, iteDF (fun z => n3' (V.str.inj z)) ?_⟩
      refine ⟨_, rfl, _, _, _, _, rfl, rfl, h.sq, rfl, rfl, _, rfl, iteDF (fun z => n4' (V.str.inj z)) ?_⟩
      refine ⟨_, rfl, _, _, _, _, rfl, rfl, h.sq, rfl, _, rfl, _, _, rfl, rfl, And.intro (by show 3 ≤ sizeLine; decide) <| fun t nt => And.intro (by show 1 ≤ sizeLine; decide) <| fun l0 nl => ?_⟩
      obtain ⟨a1, a2, a3⟩ := row1 nt nl
      refine ⟨_, rfl, _, _, _, _, rfl, rfl, (h.tk a2.tk).sq, rfl, rfl, _, rfl, iteDF (fun z => n5' (V.str.inj z)) ?_⟩
      refine ⟨_, rfl, _, rfl, _, rfl, _, _, rfl, .inr (h.tk a2.tk).sq, _, _, rfl, rfl, _, _, _, _, rfl, rfl, (h.tk a2.tk).sq, rfl, _, rfl, _, _, rfl, rfl, v1, l, ns, ps, L + 1, rfl, h1.tk a2.tk, hok.2.1, by omega, by omega, fun l1 us H1 n1 hl1 R1 K1 => ?_⟩
      refine catR (K1 _ _ upd_same (by simp)) (a1.tk K1.tk) hl1 R1 (by rw [rows_len]; simp; omega) fun r1 nr R2 => ?_
      have k2 := (a2.trans K1).then_new (o := .lst ([.ref t] ++ us)) nr
      refine ⟨_, rfl, _, rfl, _, _, rfl, .inr (h.tk k2.tk).sq, _, _, rfl, rfl, _, _, _, _, rfl, rfl, (h.tk k2.tk).sq, rfl, _, rfl, _, _, rfl, rfl, v2, r, ns, ps, L + 1, rfl, h2.tk k2.tk, hok.2.2, by omega, by omega, fun l3 us3 H3 n3 hl3 R3 K3 => ?_⟩
      refine catR (K3 _ _ upd_same (by simp)) (R2.tk K3.tk) hl3 R3 (by rw [List.length_append, rows_len, rows_len]; simp; omega) fun r4 nr4 R4 => ?_
      refine k r4 _ _ ((k2.trans K3).free nr4) upd_same ?_ ((k2.trans K3).then_new nr4)
      have e : rowsE (.op sg l r) L = ([(sg, L + 1, ("sign" : Str))] ++ rowsE l (L + 1)) ++ rowsE r (L + 1) := by show _ :: (_ ++ _) = _; simp
      rw [e]; exact R4
theorem rows_all {f : Addr} {fd : FuncData} (D : C8.Def K mg "_law_rows" s_law_rows f fd) (b : Binds K fd ["due", "level"] []) (T : Txt K mg C_Cursor C_GameError C_BadText T_SIGNS) : ∀ n, C8.Cal P w K mg base (n + 1) "_law_rows" (sp_rows K n) []
  | 0 => ok_rows0 D b
  | n + 1 => ok_rows D b T (rows_all D b T n)
end

/-! what is read of changed words, in plain words -/
def Plain (x : Str) : Prop := x ∉ sgL ∧ x ≠ "pick" ∧ x ≠ "view" ∧ x ≠ "long" ∧ numO x = none
structure Wd (ns : List Str) : Prop where
  nm : ∀ x ∈ ns, Plain x
theorem sg_num : ∀ s ∈ sgL, numO s = none := by decide +kernel
theorem kw_num : numO "pick" = none ∧ numO "view" = none ∧ numO "long" = none := by decide +kernel
def wrongR (ps ns : List Str) (sees : Bool) (bound : Int) (r : Str × Int × Str) : Prop :=
  if r.2.2 = "option" then r.1 ∉ ps
  else r.2.1 > bound ∨ (r.2.2 = "sees" ∧ sees = false) ∨ (r.2.2 = "pick" ∧ ps = []) ∨ (r.2.2 = "variable" ∧ r.1 ∉ ns)
def Strange (ps ns : List Str) (u : Str) : Prop := Plain u ∧ u ∉ ns ∧ u ∉ ps
/-- the word at the place does not fit -/
def badAt (ws ps ns : List Str) (sees : Bool) (bound : Int) (i : Nat) (r : Str × Int × Str) : Prop := ws[i]? = none ∨ (∃ u, ws[i]? = some u ∧ Strange ps ns u) ∨ (ws[i]? = some r.1 ∧ wrongR ps ns sees bound r)
def fitAt (ws ps ns : List Str) (sees : Bool) (bound : Int) (i : Nat) (r : Str × Int × Str) : Prop := ws[i]? = some r.1 ∧ ¬ wrongR ps ns sees bound r
/-- the numbers and names of an expression are what they should be -/
def ExP : Ex → Prop
  | .num n => numO (tS n) = some n ∧ tS n ∉ sgL ∧ tS n ≠ "pick" ∧ tS n ≠ "view" ∧ tS n ≠ "long"
  | .var x => Plain x
  | .long => True
  | .view e => ExP e
  | .pick _ l r => ExP l ∧ ExP r
  | .op s l r => s ∈ sgL ∧ ExP l ∧ ExP r
section
variable {ws ps ns : List Str} {sees : Bool} {bound : Int}
theorem leaf_none {i : Nat} (h : ws[i]? = none) : leafR ws ns sees i = .inl i := by unfold leafR; rw [h]
theorem leaf_no {i : Nat} {w : Str} (h : ws[i]? = some w) (h1 : ¬ (w = "long" ∧ sees = true)) (h2 : w ∉ ns) (h3 : numO w = none) : leafR ws ns sees i = .inl i := by
  unfold leafR
  rw [h]
  show (if _ then _ else _) = _
  rw [if_neg h1, if_neg h2, h3]
theorem rd_none {i : Nat} (h : ws[i]? = none) : ∀ m, rd ws ps ns sees m i = .inl i
  | 0 => leaf_none h
  | m + 1 => by rw [rd, h]
theorem rd_leaf {i : Nat} {w : Str} (h : ws[i]? = some w) : ∀ m, (m = 0 ∨ (w ∉ sgL ∧ ¬ (w = "pick" ∧ ps ≠ []) ∧ ¬ (w = "view" ∧ sees = true))) → rd ws ps ns sees m i = leafR ws ns sees i
  | 0, _ => rfl
  | m + 1, z => by
    rcases z with z | ⟨a, b, c⟩
    · omega
    · rw [rd, h]
      show (if _ then _ else _) = _
      rw [if_neg a, if_neg b, if_neg c]
theorem rd_strange {i m : Nat} {u : Str} (h : ws[i]? = some u) (s : Strange ps ns u) : rd ws ps ns sees m i = .inl i := by
  obtain ⟨⟨a, b, c, d, e⟩, f, _⟩ := s
  rw [rd_leaf h m (.inr ⟨a, fun z => b z.1, fun z => c z.1⟩)]
  exact leaf_no h (fun z => d z.1) f e
theorem rd_op {i m : Nat} {s : Str} (hs : s ∈ sgL) (h : ws[i]? = some s) : rd ws ps ns sees (m + 1) i = two (.op s) (rd ws ps ns sees m) (i + 1) := by
  rw [rd, h]
  exact if_pos hs
theorem rd_view {i m : Nat} (h : ws[i]? = some ("view" : Str)) (hs : sees = true) : rd ws ps ns sees (m + 1) i = (match rd ws ps ns sees m (i + 1) with | .inl j => .inl j | .inr (e, a) => .inr (.view e, a)) := by
  rw [rd, h]
  show (if _ then _ else _) = _
  rw [if_neg (by decide +kernel), if_neg (by rintro ⟨z, _⟩; exact absurd z (by decide +kernel)), if_pos ⟨rfl, hs⟩]
  first | done | (cases rd ws ps ns sees m (i + 1) <;> rfl)
theorem rd_pick {i m : Nat} (h : ws[i]? = some ("pick" : Str)) (hp : ps ≠ []) : rd ws ps ns sees (m + 1) i = (match ws[i + 1]? with | none => .inl (i + 1) | some o => if o ∈ ps then two (.pick o) (rd ws ps ns sees m) (i + 2) else .inl (i + 1)) := by
  rw [rd, h]
  show (if _ then _ else _) = _
  rw [if_neg (by decide +kernel), if_pos ⟨rfl, hp⟩]
  first | done | (cases ws[i + 1]? <;> rfl)
theorem kSg : ¬ ("sign" : Str) = "option" ∧ ¬ ("pick" : Str) = "option" ∧ ¬ ("sees" : Str) = "option" ∧ ¬ ("variable" : Str) = "option" ∧ ¬ ("number" : Str) = "option" := by decide +kernel
theorem kNe : ("number" : Str) ≠ "sees" ∧ ("number" : Str) ≠ "pick" ∧ ("number" : Str) ≠ "variable" ∧ ("variable" : Str) ≠ "sees" ∧ ("variable" : Str) ≠ "pick" ∧ ("sees" : Str) ≠ "pick" ∧ ("sees" : Str) ≠ "variable" ∧ ("sign" : Str) ≠ "sees" ∧ ("sign" : Str) ≠ "pick" ∧ ("sign" : Str) ≠ "variable" ∧ ("pick" : Str) ≠ "sees" ∧ ("pick" : Str) ≠ "variable" := by decide +kernel
theorem kSy : ∀ s ∈ sgL, s ≠ "long" := by decide +kernel
theorem noKw (hn : ∀ x ∈ ns, Plain x) : ("pick" : Str) ∉ ns ∧ ("view" : Str) ∉ ns ∧ ("long" : Str) ∉ ns ∧ ∀ s ∈ sgL, s ∉ ns :=
  ⟨fun z => (hn _ z).2.1 rfl, fun z => (hn _ z).2.2.1 rfl, fun z => (hn _ z).2.2.2.1 rfl, fun s hs z => (hn _ z).1 hs⟩
/-- all rows fit -/
theorem rd_ok (hn : ∀ x ∈ ns, Plain x) (hnum : ∀ n : Int, numO (tS n) = some n → tS n ∉ ns) : ∀ (e : Ex) (m i : Nat) (L : Int), ExP e → bound = L + m → (∀ j r, (rowsE e L)[j]? = some r → fitAt ws ps ns sees bound (i + j) r) → rd ws ps ns sees m i = .inr (e, i + (wds e).length)
  | .num n, m, i, L, hx, hb, h => by
    obtain ⟨h1, _⟩ := h 0 _ rfl
    have h1 : ws[i]? = some (tS n) := h1
    obtain ⟨a, b, c, d, f⟩ := hx
    rw [rd_leaf h1 m (.inr ⟨b, fun z => c z.1, fun z => d z.1⟩)]
    unfold leafR
    rw [h1]
    show (if _ then _ else _) = _
    rw [if_neg (fun z => f z.1), if_neg (hnum n a), a]
    rfl
  | .var x, m, i, L, hx, hb, h => by
    obtain ⟨h1, h2⟩ := h 0 _ rfl
    have h1 : ws[i]? = some x := h1
    obtain ⟨a, b, c, d, f⟩ := hx
    have hm : x ∈ ns := Classical.byContradiction fun z => h2 (by unfold wrongR; rw [if_neg kSg.2.2.2.1]; exact .inr (.inr (.inr ⟨rfl, z⟩)))
    rw [rd_leaf h1 m (.inr ⟨a, fun z => b z.1, fun z => c z.1⟩)]
    unfold leafR
    rw [h1]
    show (if _ then _ else _) = _
    rw [if_neg (fun z => d z.1), if_pos hm]
    rfl
  | .long, m, i, L, hx, hb, h => by
    obtain ⟨h1, h2⟩ := h 0 _ rfl
    have h1 : ws[i]? = some ("long" : Str) := h1
    have hs : sees = true := by
      cases q : sees with
      | true => rfl
      | false => exact absurd (by unfold wrongR; rw [if_neg kSg.2.2.1]; exact .inr (.inl ⟨rfl, q⟩)) h2
    rw [rd_leaf h1 m (.inr ⟨by decide +kernel, fun z => absurd z.1 (by decide +kernel), fun z => absurd z.1 (by decide +kernel)⟩)]
    unfold leafR
    rw [h1]
    exact if_pos ⟨rfl, hs⟩
  | .view e, m, i, L, hx, hb, h => by
    obtain ⟨h1, h2⟩ := h 0 _ rfl
    have h1 : ws[i]? = some ("view" : Str) := h1
    have hw : ¬ (L + 1 > bound ∨ sees = false) := fun z => h2 (by unfold wrongR; rw [if_neg kSg.2.2.1]; exact z.elim .inl fun y => .inr (.inl ⟨rfl, y⟩))
    have hs : sees = true := by
      cases q : sees with
      | true => rfl
      | false => exact absurd (.inr q) hw
    have hL : ¬ L + 1 > bound := fun z => hw (.inl z)
    obtain ⟨m, rfl⟩ : ∃ j, m = j + 1 := ⟨m - 1, by omega⟩
    rw [rd_view h1 hs, rd_ok hn hnum e m (i + 1) (L + 1) hx (by omega) (fun j r hr => by have := h (j + 1) r hr; rwa [show i + (j + 1) = i + 1 + j by omega] at this)]
    show Sum.inr (Ex.view e, i + 1 + (wds e).length) = Sum.inr (Ex.view e, i + ((wds e).length + 1))
    rw [show i + 1 + (wds e).length = i + ((wds e).length + 1) by omega]
  | .pick x l r, m, i, L, hx, hb, h => by
    obtain ⟨h1, h2⟩ := h 0 _ rfl
    obtain ⟨g1, g2⟩ := h 1 _ rfl
    have h1 : ws[i]? = some ("pick" : Str) := h1
    have g1 : ws[i + 1]? = some x := g1
    have hw : ¬ (L + 1 > bound ∨ ps = []) := fun z => h2 (by unfold wrongR; rw [if_neg kSg.2.1]; exact z.elim .inl fun y => .inr (.inr (.inl ⟨rfl, y⟩)))
    have hp : ps ≠ [] := fun z => hw (.inr z)
    have hL : ¬ L + 1 > bound := fun z => hw (.inl z)
    have hxp : x ∈ ps := Classical.byContradiction fun z => g2 (by unfold wrongR; rw [if_pos rfl]; exact z)
    obtain ⟨m, rfl⟩ : ∃ j, m = j + 1 := ⟨m - 1, by omega⟩
    have len : ∀ e : Ex, (rowsE e (L + 1)).length = (wds e).length := fun e => rows_len e (L + 1)
    have hl := rd_ok hn hnum l m (i + 2) (L + 1) hx.1 (by omega) (fun j q hq => by
      have hj := (List.getElem?_eq_some_iff.mp hq).1
      have := h (j + 2) q (by show (rowsE l (L + 1) ++ rowsE r (L + 1))[j]? = some q; rw [List.getElem?_append_left hj]; exact hq)
      rwa [show i + (j + 2) = i + 2 + j by omega] at this)
    have hr := rd_ok hn hnum r m (i + 2 + (wds l).length) (L + 1) hx.2 (by omega) (fun j q hq => by
      have := h (j + (wds l).length + 2) q (by show (rowsE l (L + 1) ++ rowsE r (L + 1))[j + (wds l).length]? = some q; rw [List.getElem?_append_right (by rw [len]; omega), len, Nat.add_sub_cancel]; exact hq)
      rwa [show i + (j + (wds l).length + 2) = i + 2 + (wds l).length + j by omega] at this)
    rw [rd_pick h1 hp, g1]
    show (if _ then _ else _) = _
    rw [if_pos hxp, two_r hl hr]
    show Sum.inr (Ex.pick x l r, _) = Sum.inr (Ex.pick x l r, i + ((wds l ++ wds r).length + 1 + 1))
    rw [List.length_append, show i + 2 + (wds l).length + (wds r).length = i + ((wds l).length + (wds r).length + 1 + 1) by omega]
  | .op s l r, m, i, L, hx, hb, h => by
    obtain ⟨h1, h2⟩ := h 0 _ rfl
    have h1 : ws[i]? = some s := h1
    have hL : ¬ L + 1 > bound := fun z => h2 (by unfold wrongR; rw [if_neg kSg.1]; exact .inl z)
    obtain ⟨m, rfl⟩ : ∃ j, m = j + 1 := ⟨m - 1, by omega⟩
    have len : ∀ e : Ex, (rowsE e (L + 1)).length = (wds e).length := fun e => rows_len e (L + 1)
    have hl := rd_ok hn hnum l m (i + 1) (L + 1) hx.2.1 (by omega) (fun j q hq => by
      have hj := (List.getElem?_eq_some_iff.mp hq).1
      have := h (j + 1) q (by show (rowsE l (L + 1) ++ rowsE r (L + 1))[j]? = some q; rw [List.getElem?_append_left hj]; exact hq)
      rwa [show i + (j + 1) = i + 1 + j by omega] at this)
    have hr := rd_ok hn hnum r m (i + 1 + (wds l).length) (L + 1) hx.2.2 (by omega) (fun j q hq => by
      have := h (j + (wds l).length + 1) q (by show (rowsE l (L + 1) ++ rowsE r (L + 1))[j + (wds l).length]? = some q; rw [List.getElem?_append_right (by rw [len]; omega), len, Nat.add_sub_cancel]; exact hq)
      rwa [show i + (j + (wds l).length + 1) = i + 1 + (wds l).length + j by omega] at this)
    rw [rd_op hx.1 h1, two_r hl hr]
    show Sum.inr (Ex.op s l r, _) = Sum.inr (Ex.op s l r, i + ((wds l ++ wds r).length + 1))
    rw [List.length_append, show i + 1 + (wds l).length + (wds r).length = i + ((wds l).length + (wds r).length + 1) by omega]
/-- the first row that does not fit -/
theorem rd_bad (hn : ∀ x ∈ ns, Plain x) (hnum : ∀ n : Int, numO (tS n) = some n → tS n ∉ ns) : ∀ (e : Ex) (m i : Nat) (L : Int) (j : Nat) (r : Str × Int × Str), ExP e → bound = L + m → (∀ j' r', j' < j → (rowsE e L)[j']? = some r' → fitAt ws ps ns sees bound (i + j') r') → (rowsE e L)[j]? = some r → badAt ws ps ns sees bound (i + j) r → rd ws ps ns sees m i = .inl (i + j)
  | .num n, m, i, L, j, r, hx, hb, h, hr, hbad => by
    cases j with
    | succ j => cases hr
    | zero =>
      cases hr
      rcases hbad with z | ⟨u, z, su⟩ | ⟨z, zw⟩
      · exact rd_none z m
      · exact rd_strange z su
      · exfalso
        unfold wrongR at zw
        rw [if_neg kSg.2.2.2.2] at zw
        rcases zw with y | ⟨y, _⟩ | ⟨y, _⟩ | ⟨y, _⟩
        · have y : L > bound := y
          omega
        · exact kNe.1 y
        · exact kNe.2.1 y
        · exact kNe.2.2.1 y
  | .var x, m, i, L, j, r, hx, hb, h, hr, hbad => by
    cases j with
    | succ j => cases hr
    | zero =>
      cases hr
      obtain ⟨a, b, c, d, f⟩ := hx
      rcases hbad with z | ⟨u, z, su⟩ | ⟨z, zw⟩
      · exact rd_none z m
      · exact rd_strange z su
      · have z : ws[i]? = some x := z
        rw [rd_leaf z m (.inr ⟨a, fun y => b y.1, fun y => c y.1⟩)]
        unfold wrongR at zw
        rw [if_neg kSg.2.2.2.1] at zw
        rcases zw with y | ⟨y, _⟩ | ⟨y, _⟩ | ⟨_, y⟩
        · have y : L > bound := y
          omega
        · exact absurd y kNe.2.2.2.1
        · exact absurd y kNe.2.2.2.2.1
        · exact leaf_no z (fun q => d q.1) y f
  | .long, m, i, L, j, r, hx, hb, h, hr, hbad => by
    cases j with
    | succ j => cases hr
    | zero =>
      cases hr
      rcases hbad with z | ⟨u, z, su⟩ | ⟨z, zw⟩
      · exact rd_none z m
      · exact rd_strange z su
      · have z : ws[i]? = some ("long" : Str) := z
        rw [rd_leaf z m (.inr ⟨by decide +kernel, fun y => absurd y.1 (by decide +kernel), fun y => absurd y.1 (by decide +kernel)⟩)]
        unfold wrongR at zw
        rw [if_neg kSg.2.2.1] at zw
        rcases zw with y | ⟨_, y⟩ | ⟨y, _⟩ | ⟨y, _⟩
        · have y : L > bound := y
          omega
        · exact leaf_no z (fun q => by rw [y] at q; cases q.2) (noKw hn).2.2.1 kw_num.2.2
        · exact absurd y kNe.2.2.2.2.2.1
        · exact absurd y kNe.2.2.2.2.2.2.1
  | .view e, m, i, L, j, r, hx, hb, h, hr, hbad => by
    cases j with
    | zero =>
      cases hr
      rcases hbad with z | ⟨u, z, su⟩ | ⟨z, zw⟩
      · exact rd_none z m
      · exact rd_strange z su
      · have z : ws[i]? = some ("view" : Str) := z
        unfold wrongR at zw
        rw [if_neg kSg.2.2.1] at zw
        have hc : m = 0 ∨ sees = false := by
          rcases zw with y | ⟨_, y⟩ | ⟨y, _⟩ | ⟨y, _⟩
          · have y : L + 1 > bound := y
            left; omega
          · exact .inr y
          · exact absurd y kNe.2.2.2.2.2.1
          · exact absurd y kNe.2.2.2.2.2.2.1
        rw [rd_leaf z m (hc.elim .inl fun y => .inr ⟨by decide +kernel, fun y => absurd y.1 (by decide +kernel), fun q => by rw [y] at q; cases q.2⟩)]
        exact leaf_no z (fun q => absurd q.1 (by decide +kernel)) (noKw hn).2.1 kw_num.2.1
    | succ j =>
      obtain ⟨h1, h2⟩ := h 0 _ (Nat.succ_pos _) rfl
      have h1 : ws[i]? = some ("view" : Str) := h1
      have hw : ¬ (L + 1 > bound ∨ sees = false) := fun z => h2 (by unfold wrongR; rw [if_neg kSg.2.2.1]; exact z.elim .inl fun y => .inr (.inl ⟨rfl, y⟩))
      have hs : sees = true := by
        cases q : sees with
        | true => rfl
        | false => exact absurd (.inr q) hw
      have hL : ¬ L + 1 > bound := fun z => hw (.inl z)
      obtain ⟨m, rfl⟩ : ∃ j, m = j + 1 := ⟨m - 1, by omega⟩
      have ih := rd_bad hn hnum e m (i + 1) (L + 1) j r hx (by omega) (fun j' r' hj hr' => by have := h (j' + 1) r' (by omega) hr'; rwa [show i + (j' + 1) = i + 1 + j' by omega] at this) hr (by rwa [show i + (j + 1) = i + 1 + j by omega] at hbad)
      rw [rd_view h1 hs, ih]
      show Sum.inl (i + 1 + j) = Sum.inl (i + (j + 1))
      rw [show i + 1 + j = i + (j + 1) by omega]
  | .pick x l q, m, i, L, j, r, hx, hb, h, hr, hbad => by
    have len : ∀ e : Ex, (rowsE e (L + 1)).length = (wds e).length := fun e => rows_len e (L + 1)
    cases j with
    | zero =>
      cases hr
      rcases hbad with z | ⟨u, z, su⟩ | ⟨z, zw⟩
      · exact rd_none z m
      · exact rd_strange z su
      · have z : ws[i]? = some ("pick" : Str) := z
        unfold wrongR at zw
        rw [if_neg kSg.2.1] at zw
        have hc : m = 0 ∨ ps = [] := by
          rcases zw with y | ⟨y, _⟩ | ⟨_, y⟩ | ⟨y, _⟩
          · have y : L + 1 > bound := y
            left; omega
          · exact absurd y kNe.2.2.2.2.2.2.2.2.2.2.1
          · exact .inr y
          · exact absurd y kNe.2.2.2.2.2.2.2.2.2.2.2
        rw [rd_leaf z m (hc.elim .inl fun y => .inr ⟨by decide +kernel, fun q => q.2 y, fun y => absurd y.1 (by decide +kernel)⟩)]
        exact leaf_no z (fun q => absurd q.1 (by decide +kernel)) (noKw hn).1 kw_num.1
    | succ j =>
      obtain ⟨h1, h2⟩ := h 0 _ (Nat.succ_pos _) rfl
      have h1 : ws[i]? = some ("pick" : Str) := h1
      have hw : ¬ (L + 1 > bound ∨ ps = []) := fun z => h2 (by unfold wrongR; rw [if_neg kSg.2.1]; exact z.elim .inl fun y => .inr (.inr (.inl ⟨rfl, y⟩)))
      have hp : ps ≠ [] := fun z => hw (.inr z)
      have hL : ¬ L + 1 > bound := fun z => hw (.inl z)
      obtain ⟨m, rfl⟩ : ∃ j, m = j + 1 := ⟨m - 1, by omega⟩
      rw [rd_pick h1 hp]
      cases j with
      | zero =>
        cases hr
        rcases hbad with z | ⟨u, z, su⟩ | ⟨z, zw⟩
        · have z : ws[i + 1]? = none := z
          rw [z]
        · have z : ws[i + 1]? = some u := z
          rw [z]
          exact if_neg su.2.2
        · have z : ws[i + 1]? = some x := z
          rw [z]
          exact if_neg (by unfold wrongR at zw; rw [if_pos rfl] at zw; exact zw)
      | succ j =>
        obtain ⟨g1, g2⟩ := h 1 _ (by omega) rfl
        have g1 : ws[i + 1]? = some x := g1
        have hxp : x ∈ ps := Classical.byContradiction fun z => g2 (by unfold wrongR; rw [if_pos rfl]; exact z)
        rw [g1]
        show (if _ then _ else _) = _
        rw [if_pos hxp]
        have hr' : (rowsE l (L + 1) ++ rowsE q (L + 1))[j]? = some r := hr
        have h' : ∀ j' r', j' < j → (rowsE l (L + 1) ++ rowsE q (L + 1))[j']? = some r' → fitAt ws ps ns sees bound (i + 2 + j') r' := fun j' r' hj hr' => by
          have := h (j' + 2) r' (by omega) hr'
          rwa [show i + (j' + 2) = i + 2 + j' by omega] at this
        rw [show i + (j + 1 + 1) = i + 2 + j by omega] at hbad ⊢
        by_cases hjl : j < (wds l).length
        · rw [List.getElem?_append_left (by rw [len]; exact hjl)] at hr'
          exact two_l (rd_bad hn hnum l m (i + 2) (L + 1) j r hx.1 (by omega) (fun j' r' hj hq => h' j' r' hj (by rw [List.getElem?_append_left (by rw [len]; omega)]; exact hq)) hr' hbad)
        · obtain ⟨d, rfl⟩ : ∃ d, j = (wds l).length + d := ⟨j - (wds l).length, by omega⟩
          rw [List.getElem?_append_right (by rw [len]; omega), len, Nat.add_sub_cancel_left] at hr'
          have hl := rd_ok (bound := bound) (ws := ws) (ps := ps) (sees := sees) hn hnum l m (i + 2) (L + 1) hx.1 (by omega) (fun j' r' hq => by
            have hj := (List.getElem?_eq_some_iff.mp hq).1
            exact h' j' r' (by have hj2 := hj; rw [len] at hj2; exact Nat.lt_of_lt_of_le hj2 (Nat.le_add_right _ _)) (by rw [List.getElem?_append_left hj]; exact hq))
          have hr2 := rd_bad hn hnum q m (i + 2 + (wds l).length) (L + 1) d r hx.2 (by omega) (fun j' r' hj hq => by
            have := h' ((wds l).length + j') r' (by omega) (by rw [List.getElem?_append_right (by rw [len]; omega), len, Nat.add_sub_cancel_left]; exact hq)
            rwa [show i + 2 + ((wds l).length + j') = i + 2 + (wds l).length + j' by omega] at this) hr' (by rwa [show i + 2 + ((wds l).length + d) = i + 2 + (wds l).length + d by omega] at hbad)
          rw [two_m hl hr2, show i + 2 + (wds l).length + d = i + 2 + ((wds l).length + d) by omega]
  | .op s l q, m, i, L, j, r, hx, hb, h, hr, hbad => by
    have len : ∀ e : Ex, (rowsE e (L + 1)).length = (wds e).length := fun e => rows_len e (L + 1)
    cases j with
    | zero =>
      cases hr
      rcases hbad with z | ⟨u, z, su⟩ | ⟨z, zw⟩
      · exact rd_none z m
      · exact rd_strange z su
      · have z : ws[i]? = some s := z
        unfold wrongR at zw
        rw [if_neg kSg.1] at zw
        have hc : m = 0 := by
          rcases zw with y | ⟨y, _⟩ | ⟨y, _⟩ | ⟨y, _⟩
          · have y : L + 1 > bound := y
            omega
          · exact absurd y kNe.2.2.2.2.2.2.2.1
          · exact absurd y kNe.2.2.2.2.2.2.2.2.1
          · exact absurd y kNe.2.2.2.2.2.2.2.2.2.1
        rw [rd_leaf z m (.inl hc)]
        exact leaf_no z (fun q => kSy s hx.1 q.1) ((noKw hn).2.2.2 s hx.1) (sg_num s hx.1)
    | succ j =>
      obtain ⟨h1, h2⟩ := h 0 _ (Nat.succ_pos _) rfl
      have h1 : ws[i]? = some s := h1
      have hL : ¬ L + 1 > bound := fun z => h2 (by unfold wrongR; rw [if_neg kSg.1]; exact .inl z)
      obtain ⟨m, rfl⟩ : ∃ j, m = j + 1 := ⟨m - 1, by omega⟩
      rw [rd_op hx.1 h1]
      have hr' : (rowsE l (L + 1) ++ rowsE q (L + 1))[j]? = some r := hr
      have h' : ∀ j' r', j' < j → (rowsE l (L + 1) ++ rowsE q (L + 1))[j']? = some r' → fitAt ws ps ns sees bound (i + 1 + j') r' := fun j' r' hj hr' => by
        have := h (j' + 1) r' (by omega) hr'
        rwa [show i + (j' + 1) = i + 1 + j' by omega] at this
      rw [show i + (j + 1) = i + 1 + j by omega] at hbad ⊢
      by_cases hjl : j < (wds l).length
      · rw [List.getElem?_append_left (by rw [len]; exact hjl)] at hr'
        exact two_l (rd_bad hn hnum l m (i + 1) (L + 1) j r hx.2.1 (by omega) (fun j' r' hj hq => h' j' r' hj (by rw [List.getElem?_append_left (by rw [len]; omega)]; exact hq)) hr' hbad)
      · obtain ⟨d, rfl⟩ : ∃ d, j = (wds l).length + d := ⟨j - (wds l).length, by omega⟩
        rw [List.getElem?_append_right (by rw [len]; omega), len, Nat.add_sub_cancel_left] at hr'
        have hl := rd_ok (bound := bound) (ws := ws) (ps := ps) (sees := sees) hn hnum l m (i + 1) (L + 1) hx.2.1 (by omega) (fun j' r' hq => by
          have hj := (List.getElem?_eq_some_iff.mp hq).1
          exact h' j' r' (by have hj2 := hj; rw [len] at hj2; exact Nat.lt_of_lt_of_le hj2 (Nat.le_add_right _ _)) (by rw [List.getElem?_append_left hj]; exact hq))
        have hr2 := rd_bad hn hnum q m (i + 1 + (wds l).length) (L + 1) d r hx.2.2 (by omega) (fun j' r' hj hq => by
          have := h' ((wds l).length + j') r' (by omega) (by rw [List.getElem?_append_right (by rw [len]; omega), len, Nat.add_sub_cancel_left]; exact hq)
          rwa [show i + 1 + ((wds l).length + j') = i + 1 + (wds l).length + j' by omega] at this) hr' (by rwa [show i + 1 + ((wds l).length + d) = i + 1 + (wds l).length + d by omega] at hbad)
        rw [two_m hl hr2, show i + 1 + (wds l).length + d = i + 1 + ((wds l).length + d) by omega]
end

def sp_wrong : Sp := fun vs H Q _ => ∃ (t a b : Addr) (r : Str × Int × Str) (bound : Int) (ps ns : List Str) (sees : Bool), vs = [.ref t, .int bound, .ref a, .ref b, .bl sees] ∧ H t = some (.tup [.str r.1, .int r.2.1, .str r.2.2]) ∧ H a = some (.lst (ps.map V.str)) ∧ H b = some (.lst (ns.map V.str)) ∧
  ((wrongR ps ns sees bound r → Q (.bl true) H) ∧ (¬ wrongR ps ns sees bound r → Q (.bl false) H))
section
variable {P : Program} {w : World} {K : PySem.W.Frag} {mg : Str → Option Value} {base : Heap} {C_Cursor : Addr} {C_GameError : Addr} {C_BadText : Addr} {f_BadText___init : Addr} {T_SIGNS : Addr}
theorem ok_wrong {f : Addr} {fd : FuncData} (D : C8.Def K mg "_law_wrong" s_law_wrong f fd) (b : Binds K fd ["row", "bound", "picks", "names", "sees"] []) (T : Txt K mg C_Cursor C_GameError C_BadText T_SIGNS) : C8.Cal P w K mg base 1 "_law_wrong" sp_wrong [] := by
  refine cal0 D b .nil sc_law_wrong (fun vs H Q E h => ?_) (fun cdv A outer s H vs Q E hr h => ?_)
  · obtain ⟨t, a, b, r, bound, ps, ns, sees, rfl, _⟩ := h
    rfl
  · obtain ⟨t, a, b, ⟨x, l, kd⟩, bound, ps, ns, sees, rfl, ht, ha, hb, k1, k0⟩ := h
    refine ⟨_, (pss_cons (ps_asg (pv 0) (pg_tup (by rfl) (pgs_cons (pg_name (i := 5) sc_law_wrong.nd rfl (by first | exact Or.inl rfl | exact Or.inr rfl)) (pgs_cons (pg_name (i := 6) sc_law_wrong.nd rfl (by first | exact Or.inl rfl | exact Or.inr rfl)) (pgs_cons (pg_name (i := 7) sc_law_wrong.nd rfl (by first | exact Or.inl rfl | exact Or.inr rfl)) pgs_nil)))))
(pss_cons (ps_if (pt_cmpR op_eq (pv 7) pe_str (nomark _))
  (pss_one (ps_ret (pe_cmpR op_notIn_seq (pv 5) (pv 2) (by rfl))))
  pss_nil)
(pss_cons (ps_if (PW.pt (pw_or (pt_cmpR op_gt (pv 6) (pv 1) (nomark _)) (pw_or1 (PW.pt (pw_and (pt_cmpR op_eq (pv 7) pe_str (nomark _)) (pw_and1 (pt_not (pt_val (pv 4)))))))))
  (pss_one (ps_ret pe_bl))
  pss_nil)
(pss_one (ps_ret (pe_or (pe_and (pe_cmpR op_eq (pv 7) pe_str (nomark _)) (pe_one (pe_cmpR op_eq (pe_callB call_len_seq (by rfl) T.n_len bo_len (pa_cons (pv 2) pa_nil)) pe_int (nomark _)))) (pe_one (pe_and (pe_cmpR op_eq (pv 7) pe_str (nomark _)) (pe_one (pe_cmpR op_notIn_seq (pv 5) (pv 3) (by rfl))))))))))), ?_⟩
    refine ⟨_, rfl, t, _, rfl, SqT.of ht, rfl, _, _, rfl, _, _, rfl, _, _, rfl, rfl, ?_⟩
    have eq : wrongR ps ns sees bound (x, l, kd) ↔ (if kd = "option" then x ∉ ps else l > bound ∨ (kd = "sees" ∧ sees = false) ∨ (kd = "pick" ∧ ps = []) ∨ (kd = "variable" ∧ x ∉ ns)) := Iff.rfl
    rw [eq] at k1 k0
    refine ⟨_, rfl, rfl, _, rfl, iteD (fun h => ?_) (fun h => ?_)⟩
    · have h' : kd = "option" := V.str.inj h
      rw [if_pos h'] at k1 k0
      refine ⟨_, rfl, _, rfl, _, _, rfl, .inl (SqL.of ha), rfl, flat_strs ps, ?_⟩
      show Q (.bl (!inV (.str x) (ps.map V.str))) H
      rw [inV_strs]
      by_cases z : x ∈ ps
      · rw [decide_eq_true z]; exact k0 (not_not_intro z)
      · rw [decide_eq_false z]; exact k1 z
    have h' : ¬ kd = "option" := fun z => h (congrArg V.str z)
    rw [if_neg h'] at k1 k0
    refine ⟨_, rfl, _, rfl, _, _, rfl, rfl, _, rfl, iteD (fun h1 => k1 (.inl h1)) (fun h1 => ?_)⟩
    have h1 : ¬ l > bound := h1
    -- the last row of the def
    refine ⟨_, rfl, rfl, _, rfl, iteD (fun h2 => ?a) (fun h2 => ?b)⟩
    case a =>
      have h2' : kd = "sees" := V.str.inj h2
      cases sees with
      | false => exact ⟨_, rfl, _, rfl, iteT (k1 (.inr (.inl ⟨h2', rfl⟩)))⟩
      | true =>
        refine ⟨_, rfl, _, rfl, iteF ?_⟩
        have np : ¬ V.str kd = V.str "pick" := fun z => kNe.2.2.2.2.2.1 (h2' ▸ V.str.inj z)
        have nv : ¬ V.str kd = V.str "variable" := fun z => kNe.2.2.2.2.2.2.1 (h2' ▸ V.str.inj z)
        refine ⟨_, rfl, rfl, _, rfl, iteDF np ⟨_, rfl, iteF ⟨_, rfl, rfl, _, rfl, iteDF nv ?_⟩⟩⟩
        refine k0 ?_
        rintro (z | ⟨_, z⟩ | ⟨z, _⟩ | ⟨z, _⟩)
        · exact h1 z
        · cases z
        · exact np (congrArg V.str z)
        · exact nv (congrArg V.str z)
    case b =>
      have h2' : ¬ kd = "sees" := fun z => h2 (congrArg V.str z)
      refine ⟨_, rfl, rfl, _, rfl, iteD (fun h3 => ?_) (fun h3 => ?_)⟩
      · have h3' : kd = "pick" := V.str.inj h3
        have nv : ¬ V.str kd = V.str "variable" := fun z => kNe.2.2.2.2.2.2.2.2.2.2.2 (h3' ▸ V.str.inj z)
        refine ⟨_, rfl, _, _, rfl, .inl (SqL.of ha), rfl, _, rfl, iteD (fun h4 => ?_) (fun h4 => ⟨_, rfl, rfl, _, rfl, iteDF nv ?_⟩)⟩
        · have h4' : ((ps.map V.str).length : Int) = 0 := V.int.inj h4
          rw [List.length_map] at h4'
          exact k1 (.inr (.inr (.inl ⟨h3', List.eq_nil_of_length_eq_zero (by omega)⟩)))
        · refine k0 ?_
          rintro (z | ⟨z, _⟩ | ⟨_, z⟩ | ⟨z, _⟩)
          · exact h1 z
          · exact h2' z
          · exact h4 (by rw [z]; rfl)
          · exact nv (congrArg V.str z)
      · have h3' : ¬ kd = "pick" := fun z => h3 (congrArg V.str z)
        refine ⟨_, rfl, iteF ⟨_, rfl, rfl, _, rfl, iteD (fun h5 => ?_) (fun h5 => ?_)⟩⟩
        · have h5' : kd = "variable" := V.str.inj h5
          refine ⟨_, rfl, _, rfl, _, _, rfl, .inl (SqL.of hb), rfl, flat_strs ns, ?_⟩
          show Q (.bl (!inV (.str x) (ns.map V.str))) H
          rw [inV_strs]
          by_cases z : x ∈ ns
          · rw [decide_eq_true z]
            refine k0 ?_
            rintro (y | ⟨y, _⟩ | ⟨y, _⟩ | ⟨_, y⟩)
            · exact h1 y
            · exact h2' y
            · exact h3' y
            · exact y z
          · rw [decide_eq_false z]; exact k1 (.inr (.inr (.inr ⟨h5', z⟩)))
        · refine k0 ?_
          rintro (z | ⟨z, _⟩ | ⟨z, _⟩ | ⟨z, _⟩)
          · exact h1 z
          · exact h2' z
          · exact h3' z
          · exact h5 (congrArg V.str z)
end

/-! names that are drawn: a letter ahead, no key word (printed by namesp.py) -/
def Fst (z : Str) : Prop := ∃ c, (TL.tl z)[0]? = some c ∧ 97 ≤ c ∧ c ≤ 122
def GoodN (z : Str) : Prop := z ∉ kwL ∧ Fst z
theorem Fst.app {z : Str} (h : Fst z) (y : Str) : Fst (z ++ y) := by
  obtain ⟨c, h, hc⟩ := h
  refine ⟨c, ?_, hc⟩
  rw [TL.tl_append, List.getElem?_append_left (by
    rcases Nat.lt_or_ge 0 (TL.tl z).length with q | q
    · exact q
    · rw [List.getElem?_eq_none q] at h; cases h)]
  exact h
theorem fst_sg : (((TL.tl ("abcdefghijklmnopqrstuvwxyz0123456789" : Str)).take 26).all (fun c => decide (97 ≤ c ∧ c ≤ 122))) = true := by decide +kernel
theorem fst_sign {m c : Nat} (hm : m < 26) (h : (TL.tl ("abcdefghijklmnopqrstuvwxyz0123456789" : Str))[m]? = some c) : 97 ≤ c ∧ c ≤ 122 := by
  have := List.all_eq_true.mp fst_sg c (List.mem_of_getElem? (i := m) (by rw [List.getElem?_take_of_lt hm]; exact h))
  simpa using this
theorem vN_kw : ∀ k, k < 20 → vN k ∉ kwL := by decide +kernel
theorem vN_fst (k : Nat) : Fst (vN k) := Fst.app ⟨118, rfl, by decide, by decide⟩ _
theorem vN_good {k : Nat} (h : k < 20) : GoodN (vN k) := ⟨vN_kw k h, vN_fst k⟩
def sp_law_nameP : Sp := fun vs H Q _ => ∃ (p q l : Addr) (ns : List Int) (ys : List Str), vs = [.ref p, .ref l] ∧ H l = some (.lst (ys.map V.str)) ∧ l ≠ p ∧ ys.length < 20 ∧ Pool H p q ns ∧
  ∀ z H', z ∉ ys → GoodN z → PyData.strOk z = true → z.length ≤ 20 → Pool H' p q ns → Keep [p] H H' → Q (.str z) H'
def sp_law_namesP : Sp := fun vs H Q _ => ∃ (p q : Addr) (ns : List Int) (m : Int), vs = [.ref p, .int m] ∧ 0 ≤ m ∧ m < 20 ∧ Pool H p q ns ∧
  ∀ l (ys : List Str) H', H l = none → H' l = some (.lst (ys.map V.str)) → ys.length ≤ m.toNat → ys.Nodup → NamesOk ys → (∀ y ∈ ys, GoodN y) → (∀ y ∈ ys, y.length ≤ 20) → Pool H' p q ns → Keep [p] H H' → Q (.ref l) H'
section
variable {P : Program} {w : World} {K : PySem.W.Frag} {mg : Str → Option Value} {base : Heap} {C_Cursor : Addr} {C_GameError : Addr} {C_BadText : Addr} {f_BadText___init : Addr} {T_SIGNS : Addr}
theorem ok_law_nameP {f : Addr} {fd : FuncData} (D : C8.Def K mg "_law_name" s_law_name f fd) (b : Binds K fd ["pool", "taken"] []) (T : Txt K mg C_Cursor C_GameError C_BadText T_SIGNS) (c_law_draw : C8.Cal P w K mg base 1 "_law_draw" sp_law_draw []) (c_law_few : C8.Cal P w K mg base 2 "_law_few" sp_law_few [])
    (c_law_keys : C8.Cal P w K mg base 1 "_law_keys" sp_law_keys []) : C8.Cal P w K mg base 3 "_law_name" sp_law_nameP [] := by
  refine cal0 D b .nil sc_law_name (fun vs H Q E h => ?_) (fun cdv A outer s H vs Q E hr h => ?_)
  · obtain ⟨p, q, l, ns, ys, rfl, _⟩ := h
    rfl
  · obtain ⟨p, q, l, ns, ys, rfl, hl, nlp, hlen, hP, k⟩ := h
    refine ⟨_, (pss_cons (ps_set (i := 2) sc_law_name.nd rfl (by first | exact Or.inl rfl | exact Or.inr rfl) pe_str)
(pss_cons (ps_set (i := 3) sc_law_name.nd rfl (by first | exact Or.inl rfl | exact Or.inr rfl) (pe_ix ix_str (pv 2) (pe_c c_law_draw hr (by first | exact Nat.le_refl _ | decide | omega) rfl (pa_cons (pv 0) (pa_cons pe_int pa_nil))) (fun _ _ => rfl)))
(pss_cons (ps_for PassesOwn.never rfl (pi_range1 (by rfl) T.n_range (pa_cons (pe_c c_law_few hr (by first | exact Nat.le_refl _ | decide | omega) rfl (pa_cons (pv 0) (pa_cons pe_int pa_nil))) pa_nil)) (pg_name (i := 4) sc_law_name.nd rfl (by first | exact Or.inl rfl | exact Or.inr rfl))
  (pss_one (ps_set (i := 3) sc_law_name.nd rfl (by first | exact Or.inl rfl | exact Or.inr rfl) (pe_op op_add_str (pv 3) (pe_ix ix_str (pv 2) (pe_c c_law_draw hr (by first | exact Nat.le_refl _ | decide | omega) rfl (pa_cons (pv 0) (pa_cons pe_int pa_nil))) (fun _ _ => rfl))))))
(pss_cut (ps_if (PW.pt (pw_or (pt_cmpR op_in_seq (pv 3) (pv 1) (by rfl)) (pw_or1 (pt_cmpR op_in_seq (pv 3) (pe_c0 c_law_keys hr (by first | exact Nat.le_refl _ | decide | omega) rfl) (by rfl)))))
  (pss_one (ps_for PassesOwn.never rfl (pi_range1 (by rfl) T.n_range (pa_cons pe_int pa_nil)) (pg_name (i := 4) sc_law_name.nd rfl (by first | exact Or.inl rfl | exact Or.inr rfl))
    (pss_one (ps_if (pt_cmpR op_notIn_seq (pe_op op_add_str pe_str (pe_callTy call_str_int (by rfl) T.n_str bo_str (pa_cons (pv 4) pa_nil))) (pv 1) (by rfl))
      (pss_one (ps_set (i := 3) sc_law_name.nd rfl (by first | exact Or.inl rfl | exact Or.inr rfl) (pe_op op_add_str pe_str (pe_callTy call_str_int (by rfl) T.n_str bo_str (pa_cons (pv 4) pa_nil)))))
      pss_nil))))
  pss_nil)
(pss_one (ps_ret (pv 3))))))), ?_⟩
    obtain ⟨sg, hsgv, hsg, hso⟩ : ∃ sg : Str, sg = ("abcdefghijklmnopqrstuvwxyz0123456789" : Str) ∧ sg.length = 36 ∧ PyData.strOk sg = true := ⟨_, rfl, by decide +kernel, by decide +kernel⟩
    have hsf : ∀ {m c : Nat}, m < 26 → (TL.tl sg)[m]? = some c → 97 ≤ c ∧ c ≤ 122 := by
      intro m c hm h; rw [hsgv] at h; exact fst_sign hm h
    rw [← hsgv]
    have hsl : (TL.tl sg).length = 36 := by rw [← TL.len_tl]; exact hsg
    have l1 : ∀ c : Nat, (⟨#[c]⟩ : Str).length = 1 := fun _ => rfl
    refine ⟨_, rfl, _, rfl, p, q, ns, 26, rfl, by decide, by decide, hP, fun r H1 r0 r1 P1 K1 => ?_⟩
    obtain ⟨m, rfl⟩ : ∃ m : Nat, r = (m : Int) := ⟨r.toNat, by omega⟩
    have hm := List.getElem?_eq_getElem (show m < (TL.tl sg).length by omega)
    refine ⟨_, _, _, rfl, rfl, smallM (by omega), atI_nat hm, ?_⟩
    have ok0 := strOk_sign hso hm
    have fs0 : Fst ⟨#[(TL.tl sg)[m]]⟩ := ⟨_, rfl, hsf (by omega) hm⟩
    refine ⟨_, rfl, p, q, ns, 11, rfl, by decide, by decide, P1, fun f H2 f0 f1 P2 K2 => ?_⟩
    refine ⟨_, rfl, by omega, by omega, for_range (lo := 0) (n := f.toNat) (fun i σ H' => ∃ (z : Str) (o : Option V), σ = [some (.ref p), some (.ref l), some (.str sg), some (.str z), o] ∧ Fst z ∧ PyData.strOk z = true ∧ z.length = i + 1 ∧ Pool H' p q ns ∧ Keep [p] H H')
      ⟨_, none, rfl, fs0, ok0, l1 _, P2, K1.trans K2⟩ ?_ ?_⟩
    · rintro i σ H3 hi ⟨z, o, rfl, hf, hz, hzl, P3, K3⟩
      refine ⟨_, rfl, _, rfl, _, rfl, p, q, ns, 36, rfl, by decide, by decide, P3, fun r H4 r0 r1 P4 K4 => ?_⟩
      obtain ⟨m, rfl⟩ : ∃ m : Nat, r = (m : Int) := ⟨r.toNat, by omega⟩
      have hm := List.getElem?_eq_getElem (show m < (TL.tl sg).length by omega)
      refine ⟨_, _, _, rfl, rfl, smallM (by omega), atI_nat hm, _, _, rfl, rfl, smallM (by rw [l1]; omega), ?_⟩
      exact ⟨_, _, rfl, hf.app _, by rw [strOk_app, hz, strOk_sign hso hm]; rfl, by rw [len_appN, l1, hzl], P4, K3.trans K4⟩
    · rintro σ H3 ⟨z, o, rfl, hf, hz, hzl, P3, K3⟩
      have hl3 := K3 _ _ hl (by simpa using nlp)
      refine ⟨fun σ H' => ∃ (z : Str) (o : Option V), σ = [some (.ref p), some (.ref l), some (.str sg), some (.str z), o] ∧ z ∉ ys ∧ GoodN z ∧ PyData.strOk z = true ∧ z.length ≤ 20 ∧ Pool H' p q ns ∧ Keep [p] H H', ?_, ?_⟩
      · have rest : ∀ (H4 : Hp), Pool H4 p q ns → Keep [p] H H4 → (fun (D : Ends) => True) = (fun (D : Ends) => True) := fun _ _ _ => rfl
        have inv : ∀ {H4 : Hp}, Pool H4 p q ns → Keep [p] H H4 → (fun (i : Nat) (σ : List (Option V)) (H' : Hp) => ∃ (z : Str) (o : Option V), σ = [some (.ref p), some (.ref l), some (.str sg), some (.str z), o] ∧ ((z ∉ ys ∧ GoodN z) ∨ ∀ j, j < i → vN j ∈ ys) ∧ PyData.strOk z = true ∧ z.length ≤ 20 ∧ H' = H4) 0 [some (.ref p), some (.ref l), some (.str sg), some (.str z), o] H4 :=
          fun _ _ => ⟨_, _, rfl, .inr fun j hj => absurd hj (Nat.not_lt_zero _), hz, by omega, rfl⟩
        refine ⟨_, rfl, _, rfl, _, _, rfl, .inl (SqL.of hl3), rfl, flat_strs ys, _, rfl, iteB (fun e => ?_) (fun e => ?_)⟩
        · refine ⟨20, rfl, by decide, by decide, for_range (lo := 0) (n := 20) (fun (i : Nat) (σ : List (Option V)) (H' : Hp) => ∃ (z : Str) (o : Option V), σ = [some (.ref p), some (.ref l), some (.str sg), some (.str z), o] ∧ ((z ∉ ys ∧ GoodN z) ∨ ∀ j, j < i → vN j ∈ ys) ∧ PyData.strOk z = true ∧ z.length ≤ 20 ∧ H' = H3) (inv P3 K3) ?_ ?_⟩
          · rintro i σ H' hi ⟨z, o, rfl, hzz, hz, hzl, rfl⟩
            have e0 : (0 : Int) + (i : Int) = (i : Int) := by omega
            rw [e0]
            have hv := vN_ok i hi
            have hlog : ((i : Nat) : Int).natAbs.log2 < 1920 := by
              rw [Int.natAbs_natCast]; exact PySem.Flt.log2_lt_of (by decide) (Nat.lt_trans (show i < 20 from hi) (by decide +kernel))
            have hvl : ("v" : Str).length + (Str.ofString (toString ((i : Nat) : Int))).length ≤ sizeLine := by
              have := hv.2; unfold vN at this; rw [len_appN] at this; exact smallM (by omega)
            refine ⟨_, rfl, _, rfl, hlog, _, _, rfl, rfl, hvl, _, rfl, _, _, rfl, .inl (SqL.of hl3), rfl, flat_strs ys, _, rfl, iteB (fun e => ?_) (fun e => ?_)⟩
            · have e' : (!inV (.str (vN i)) (ys.map V.str)) = true := e
              rw [inV_strs] at e'
              exact ⟨_, rfl, _, rfl, hlog, _, _, rfl, rfl, hvl, vN i, _, rfl, .inl ⟨by simpa using e', vN_good hi⟩, hv.1, by omega, rfl⟩
            · have e' : (!inV (.str (vN i)) (ys.map V.str)) = false := e
              rw [inV_strs] at e'
              refine ⟨z, _, rfl, ?_, hz, hzl, rfl⟩
              rcases hzz with hzz | hzz
              · exact .inl hzz
              · refine .inr fun j hj => ?_
                by_cases q : j = i
                · subst q; simpa using e'
                · exact hzz j (by omega)
          · rintro σ H' ⟨z, o, rfl, hzz, hz, hzl, rfl⟩
            exact ⟨z, o, rfl, (hzz.elim id (fun g => (vN_free hlen g).elim)).1, (hzz.elim id (fun g => (vN_free hlen g).elim)).2, hz, hzl, P3, K3⟩
        · have e' : inV (.str z) (ys.map V.str) = false := e
          rw [inV_strs] at e'
          have hzy : z ∉ ys := by simpa using e'
          refine ⟨_, rfl, rfl, fun a H4 na ha K4 => ⟨_, _, rfl, .inl (SqL.of ha), rfl, flat_strs kwL, _, rfl, iteB (fun e => ?_) (fun e => ?_)⟩⟩
          · have P4 := P3.keep0 K4
            have K4' : Keep [p] H H4 := K3.trans (K4.mono (by simp))
            have hl4 := K4 _ _ hl3 (by simp)
            refine ⟨20, rfl, by decide, by decide, for_range (lo := 0) (n := 20) (fun (i : Nat) (σ : List (Option V)) (H' : Hp) => ∃ (z : Str) (o : Option V), σ = [some (.ref p), some (.ref l), some (.str sg), some (.str z), o] ∧ ((z ∉ ys ∧ GoodN z) ∨ ∀ j, j < i → vN j ∈ ys) ∧ PyData.strOk z = true ∧ z.length ≤ 20 ∧ H' = H4) (inv P4 K4') ?_ ?_⟩
            · rintro i σ H' hi ⟨z, o, rfl, hzz, hz, hzl, rfl⟩
              have e0 : (0 : Int) + (i : Int) = (i : Int) := by omega
              rw [e0]
              have hv := vN_ok i hi
              have hlog : ((i : Nat) : Int).natAbs.log2 < 1920 := by
                rw [Int.natAbs_natCast]; exact PySem.Flt.log2_lt_of (by decide) (Nat.lt_trans (show i < 20 from hi) (by decide +kernel))
              have hvl : ("v" : Str).length + (Str.ofString (toString ((i : Nat) : Int))).length ≤ sizeLine := by
                have := hv.2; unfold vN at this; rw [len_appN] at this; exact smallM (by omega)
              refine ⟨_, rfl, _, rfl, hlog, _, _, rfl, rfl, hvl, _, rfl, _, _, rfl, .inl (SqL.of hl4), rfl, flat_strs ys, _, rfl, iteB (fun e => ?_) (fun e => ?_)⟩
              · have e' : (!inV (.str (vN i)) (ys.map V.str)) = true := e
                rw [inV_strs] at e'
                exact ⟨_, rfl, _, rfl, hlog, _, _, rfl, rfl, hvl, vN i, _, rfl, .inl ⟨by simpa using e', vN_good hi⟩, hv.1, by omega, rfl⟩
              · have e' : (!inV (.str (vN i)) (ys.map V.str)) = false := e
                rw [inV_strs] at e'
                refine ⟨z, _, rfl, ?_, hz, hzl, rfl⟩
                rcases hzz with hzz | hzz
                · exact .inl hzz
                · refine .inr fun j hj => ?_
                  by_cases q : j = i
                  · subst q; simpa using e'
                  · exact hzz j (by omega)
            · rintro σ H' ⟨z, o, rfl, hzz, hz, hzl, rfl⟩
              exact ⟨z, o, rfl, (hzz.elim id (fun g => (vN_free hlen g).elim)).1, (hzz.elim id (fun g => (vN_free hlen g).elim)).2, hz, hzl, P4, K4'⟩
          · have e2 : inV (.str z) (kwL.map V.str) = false := e
            rw [inV_strs] at e2
            exact ⟨z, o, rfl, hzy, ⟨by simpa using e2, hf⟩, hz, by omega, P3.keep0 K4, K3.trans (K4.mono (by simp))⟩
      · rintro σ H4 ⟨z, o, rfl, hzy, hg, hz, hzl, P4, K4⟩
        exact ⟨_, rfl, k _ _ hzy hg hz hzl P4 K4⟩
theorem ok_law_namesP {f : Addr} {fd : FuncData} (D : C8.Def K mg "_law_names" s_law_names f fd) (b : Binds K fd ["pool", "most"] []) (T : Txt K mg C_Cursor C_GameError C_BadText T_SIGNS) (c_law_few : C8.Cal P w K mg base 2 "_law_few" sp_law_few []) (c_law_name : C8.Cal P w K mg base 3 "_law_name" sp_law_nameP []) : C8.Cal P w K mg base 4 "_law_names" sp_law_namesP [] := by
  refine cal0 D b .nil sc_law_names (fun vs H Q E h => ?_) (fun cdv A outer s H vs Q E hr h => ?_)
  · obtain ⟨p, q, ns, m, rfl, _⟩ := h
    rfl
  · obtain ⟨p, q, ns, m, rfl, m0, m1, hP, k⟩ := h
    refine ⟨_, (pss_cons (ps_set (i := 2) sc_law_names.nd rfl (by first | exact Or.inl rfl | exact Or.inr rfl) (pe_lst pa_nil))
(pss_cons (ps_for PassesOwn.never rfl (pi_range1 (by rfl) T.n_range (pa_cons (pe_c c_law_few hr (by first | exact Nat.le_refl _ | decide | omega) rfl (pa_cons (pv 0) (pa_cons (pv 1) pa_nil))) pa_nil)) (pg_name (i := 3) sc_law_names.nd rfl (by first | exact Or.inl rfl | exact Or.inr rfl))
  (pss_one (ps_expr (pe_bm PySem.F.plainAttrs_list PySem.F.slot_list_append PySem.F.type_list_append mt_append (pv 2) (pa_cons (pe_c c_law_name hr (by first | exact Nat.le_refl _ | decide | omega) rfl (pa_cons (pv 0) (pa_cons (pv 2) pa_nil))) pa_nil)))))
(pss_one (ps_ret (pv 2))))), ?_⟩
    refine ⟨by show 0 ≤ sizeLine; decide, fun l hl => ?_⟩
    have P1 := hP.new (o := .lst []) hl
    have nlp := hP.nep hl
    have nlq := hP.neq hl
    refine ⟨_, rfl, _, rfl, p, q, ns, m, rfl, m0, by omega, P1, fun f H2 f0 f1 P2 K2 => ?_⟩
    refine ⟨_, rfl, by omega, by omega, for_range (lo := 0) (n := f.toNat) (fun i σ H' => ∃ (ys : List Str) (o : Option V), σ = [some (.ref p), some (.int m), some (.ref l), o] ∧ H' l = some (.lst (ys.map V.str)) ∧ ys.length = i ∧ ys.Nodup ∧ NamesOk ys ∧ (∀ y ∈ ys, GoodN y) ∧ (∀ y ∈ ys, y.length ≤ 20) ∧ Pool H' p q ns ∧ Keep [p] H H')
      ⟨[], none, rfl, K2 _ _ upd_same (by simpa using nlp), rfl, List.nodup_nil, (fun _ h => by cases h), (fun _ h => by cases h), (fun _ h => by cases h), P2, (Keep.new hl).trans K2⟩ ?_ ?_⟩
    · rintro i σ H3 hi ⟨ys, o, rfl, hy, hyl, hnd, hno, hgo, hle, P3, K3⟩
      refine ⟨_, rfl, .inl ⟨rfl, _, SqL.of hy⟩, _, rfl, _, rfl, p, q, l, ns, ys, rfl, hy, nlp, by omega, P3, fun z H4 hz1 hg1 hz2 hz3 P4 K4 => ?_⟩
      have hy4 := K4 _ _ hy (by simpa using nlp)
      refine ⟨_, _, _, rfl, rfl, hy4, (by rw [List.length_map]; exact smallL (by omega)), ?_⟩
      refine ⟨ys ++ [z], _, rfl, by rw [List.map_append]; exact upd_same, by rw [List.length_append, hyl]; rfl, ?_, ?_, ?_, ?_, P4.own nlp nlq, (K3.trans K4).then_own hl⟩
      · rw [List.nodup_append]
        refine ⟨hnd, by simp, fun a ha b hb => ?_⟩
        rw [List.mem_singleton] at hb
        subst hb
        exact fun q => hz1 (q ▸ ha)
      · intro y hy
        rcases List.mem_append.mp hy with h | h
        · exact hno y h
        · rw [List.mem_singleton.mp h]; exact hz2
      · intro y hy
        rcases List.mem_append.mp hy with h | h
        · exact hgo y h
        · rw [List.mem_singleton.mp h]; exact hg1
      · intro y hy
        rcases List.mem_append.mp hy with h | h
        · exact hle y h
        · rw [List.mem_singleton.mp h]; exact hz3
    · rintro σ H3 ⟨ys, o, rfl, hy, hyl, hnd, hno, hgo, hle, P3, K3⟩
      exact ⟨_, rfl, k l ys _ hl hy (by omega) hnd hno hgo hle P3 K3⟩
end

theorem Fst.head {z : Str} (h : Fst z) : isL ((TL.tl z).headD 0) = true := by
  obtain ⟨c, h, hc⟩ := h
  revert h
  cases TL.tl z with
  | nil => intro h; cases h
  | cons a r => intro h; cases h; exact decide_eq_true hc
theorem Fst.noD {z : Str} (h : Fst z) : (TL.tl z).all isD = false := by
  obtain ⟨c, h, hc⟩ := h
  revert h
  cases TL.tl z with
  | nil => intro h; cases h
  | cons a r =>
    intro h
    have e : a = c := by simpa using h
    rw [List.all_cons]
    have : isD a = false := decide_eq_false (by omega)
    rw [this]; rfl
theorem Fst.num {z : Str} (h : Fst z) : numO z = none := by
  unfold numO numGood
  rw [h.noD, Bool.and_false, Bool.false_and, Bool.false_and]
  rfl
theorem sg_kw : ∀ s ∈ sgL, s ∈ kwL ∨ isL ((TL.tl s).headD 0) = false := by decide +kernel
theorem GoodN.plain {z : Str} (h : GoodN z) : Plain z :=
  ⟨fun q => (sg_kw z q).elim h.1 (fun e => by rw [h.2.head] at e; cases e), fun q => h.1 (q ▸ by decide +kernel), fun q => h.1 (q ▸ by decide +kernel), fun q => h.1 (q ▸ by decide +kernel), h.2.num⟩
theorem GoodN.not_num {z : Str} (h : GoodN z) {n : Int} {m : Int} (e : numO (tS n) = some m) : z ≠ tS n := fun q => by
  rw [← q, h.2.num] at e; cases e

theorem numO_tS {n : Int} (h0 : 0 ≤ n) (h1 : n < 65536) : numO (tS n) = some n := by
  obtain ⟨k, rfl⟩ := Int.eq_ofNat_of_zero_le h0
  have ht : TL.tl (tS (k : Int)) = TL.numL k := TL.tl_num k
  have hd := TL.numL_digits k
  have hv := TL.numL_val k
  have hl := num_lead hd (by rw [hv])
  have hlen : (TL.numL k).length ≤ 5 := by
    rcases Nat.lt_or_ge 5 (TL.numL k).length with q | q
    · have h48 := hl.2.resolve_left (by omega)
      have := digits_big hd h48 (by omega)
      rw [hv] at this; omega
    · exact q
  have hL : (tS (k : Int)).length = (TL.numL k).length := by rw [TL.len_tl, ht]
  have hg : numGood (tS (k : Int)) = true := by
    unfold numGood
    rw [hL, ht, hv, decide_eq_true (show 1 ≤ (TL.numL k).length ∧ (TL.numL k).length ≤ 5 from ⟨hl.1, hlen⟩), allD.mpr hd, decide_eq_true (show k ≤ 65535 by omega)]
    rcases hl.2 with q | q
    · rw [decide_eq_true q]; rfl
    · rw [decide_eq_true q, Bool.or_true]; rfl
  unfold numO
  rw [if_pos hg, ht, hv]
theorem exP_num {n : Int} (h0 : 0 ≤ n) (h1 : n < 65536) : ExP (.num n) := by
  have h := numO_tS h0 h1
  have ne : ∀ {x : Str}, numO x = none → tS n ≠ x := fun {x} e q => by rw [← q, h] at e; cases e
  exact ⟨h, fun q => ne (sg_num _ q) rfl, ne kw_num.1, ne kw_num.2.1, ne kw_num.2.2⟩
theorem exP_of {ns ps : List Str} (hn : ∀ x ∈ ns, GoodN x) : ∀ e : Ex, e.Ok ns ps → ExP e
  | .num _, h => exP_num h.1 h.2
  | .var x, h => (hn x h).plain
  | .long, _ => trivial
  | .view e, h => exP_of hn e h
  | .pick _ l r, h => ⟨exP_of hn l h.2.1, exP_of hn r h.2.2⟩
  | .op _ l r, h => ⟨h.1, exP_of hn l h.2.1, exP_of hn r h.2.2⟩

theorem Pool.tk {H H' : Hp} {p q : Addr} {ns : List Int} (h : Pool H p q ns) (k : Keep [p] H H') : TK H H' := by
  obtain ⟨i1, i2, i3, i4, i5, h1, _⟩ := h
  exact k.tk1 h1
def sp_expr (K : PySem.W.Frag) (n : Nat) : Sp := fun vs H Q _ => ∃ (p q la lb : Addr) (ns : List Int) (xs ys : List Str) (br : Bool) (d : Int), vs = [.ref p, .ref la, .ref lb, .bl br, .int d] ∧ 1 ≤ d ∧ d.toNat ≤ n ∧ Pool H p q ns ∧
  H la = some (.lst (xs.map V.str)) ∧ la ≠ p ∧ H lb = some (.lst (ys.map V.str)) ∧ lb ≠ p ∧ xs.length ≤ 1000 ∧ ys.length ≤ 1000 ∧
  ∀ r e H', EV K H' r e → e.Ok xs ys → e.dep ≤ d.toNat → Pool H' p q ns → Keep [p] H H' → Q r H'
theorem empty_ne {ys : List Str} (e : (!(ys.map V.str).isEmpty) = true) : 0 < ys.length := by
  cases ys with
  | nil => simp at e
  | cons a r => exact Nat.succ_pos _
theorem sg_at : ∀ m, m < 10 → ∃ s, s ∈ sgL ∧ ([.str "+", .str "-", .str "*", .str "/", .str "mod", .str "<", .str "=", .str "+", .str "-", .str "/"] : List V)[m]? = some (.str s)
  | 0, _ => ⟨_, by decide +kernel, rfl⟩
  | 1, _ => ⟨_, by decide +kernel, rfl⟩
  | 2, _ => ⟨_, by decide +kernel, rfl⟩
  | 3, _ => ⟨_, by decide +kernel, rfl⟩
  | 4, _ => ⟨_, by decide +kernel, rfl⟩
  | 5, _ => ⟨_, by decide +kernel, rfl⟩
  | 6, _ => ⟨_, by decide +kernel, rfl⟩
  | 7, _ => ⟨_, by decide +kernel, rfl⟩
  | 8, _ => ⟨_, by decide +kernel, rfl⟩
  | 9, _ => ⟨_, by decide +kernel, rfl⟩
section
variable {P : Program} {w : World} {K : PySem.W.Frag} {mg : Str → Option Value} {base : Heap} {C_Cursor : Addr} {C_GameError : Addr} {C_BadText : Addr} {f_BadText___init : Addr} {T_SIGNS : Addr}
theorem ok_law_expr0 {f : Addr} {fd : FuncData} (D : C8.Def K mg "_law_expression" s_law_expression f fd) (b : Binds K fd ["pool", "names", "picks", "brain", "deep"] []) : C8.Cal P w K mg base 3 "_law_expression" (sp_expr K 0) [] :=
  ⟨f, fd, ["pool", "names", "picks", "brain", "deep"], [], ⟨fun vs H Q E h => (by obtain ⟨p, q, la, lb, ns, xs, ys, br, d, rfl, _⟩ := h; rfl), fun A outer s H args us vs Q E _ _ _ _ h => (by obtain ⟨p, q, la, lb, ns, xs, ys, br, d, _, h1, h2, _⟩ := h; omega)⟩, D.mgf, D.kp, b, .nil⟩
theorem ok_law_expr {f : Addr} {fd : FuncData} (D : C8.Def K mg "_law_expression" s_law_expression f fd) (b : Binds K fd ["pool", "names", "picks", "brain", "deep"] []) (T : Txt K mg C_Cursor C_GameError C_BadText T_SIGNS) {n k : Nat} (c_law_expression : C8.Cal P w K mg base k "_law_expression" (sp_expr K n) [])
    (c_law_draw : C8.Cal P w K mg base k "_law_draw" sp_law_draw []) (c_law_spend : C8.Cal P w K mg base k "_law_spend" sp_law_spend []) (c_law_number : C8.Cal P w K mg base k "_law_number" sp_law_number []) :
    C8.Cal P w K mg base (k + 1) "_law_expression" (sp_expr K (n + 1)) [] := by
  refine cal0 D b .nil sc_law_expression (fun vs H Q E h => ?_) (fun cdv A outer s H vs Q E hr h => ?_)
  · obtain ⟨p, q, la, lb, ns, xs, ys, br, d, rfl, _⟩ := h
    rfl
  · obtain ⟨p, q, la, lb, ns, xs, ys, br, d, rfl, d1, dn, hP, ha, nla, hb, nlb, hxl, hyl, k⟩ := h
    refine ⟨_, (pss_cons (ps_set (i := 5) sc_law_expression.nd rfl (by first | exact Or.inl rfl | exact Or.inr rfl) (pe_c c_law_draw hr (by first | exact Nat.le_refl _ | decide | omega) rfl (pa_cons (pv 0) (pa_cons pe_int pa_nil))))
(pss_cut (ps_if (PW.pt (pw_and (pt_cmpR op_gt (pv 4) pe_int (nomark _)) (pw_and (pt_cmpR op_lt (pv 5) pe_int (nomark _)) (pw_and1 (pt_val (pe_c c_law_spend hr (by first | exact Nat.le_refl _ | decide | omega) rfl (pa_cons (pv 0) pa_nil)))))))
  (pss_cut (ps_if (PW.pt (pw_and (pt_cmpR op_gt (pv 5) pe_int (nomark _)) (pw_and (pt_val (pv 3)) (pw_and1 (PW.pt (pw_or (pt_cmpR op_eq (pv 5) pe_int (nomark _)) (pw_or1 (pt_not (pt_truth (pv 2) (by intro _; rfl))))))))))
    (pss_one (ps_ret (pe_tup (pa_cons pe_str (pa_cons (pe_c c_law_expression hr (by first | exact Nat.le_refl _ | decide | omega) rfl (pa_cons (pv 0) (pa_cons (pv 1) (pa_cons (pv 2) (pa_cons (pv 3) (pa_cons (pe_op op_sub (pv 4) pe_int) pa_nil)))))) pa_nil)))))
    pss_nil)
  (pss_cut (ps_if (PW.pt (pw_and (pt_cmpR op_gt (pv 5) pe_int (nomark _)) (pw_and1 (pt_truth (pv 2) (by intro _; rfl)))))
    (pss_cons (ps_set (i := 6) sc_law_expression.nd rfl (by first | exact Or.inl rfl | exact Or.inr rfl) (pe_ix ix_list (pv 2) (pe_c c_law_draw hr (by first | exact Nat.le_refl _ | decide | omega) rfl (pa_cons (pv 0) (pa_cons (pe_callB call_len_seq (by rfl) T.n_len bo_len (pa_cons (pv 2) pa_nil)) pa_nil))) (fun _ _ => rfl)))
    (pss_cons (ps_set (i := 7) sc_law_expression.nd rfl (by first | exact Or.inl rfl | exact Or.inr rfl) (pe_c c_law_expression hr (by first | exact Nat.le_refl _ | decide | omega) rfl (pa_cons (pv 0) (pa_cons (pv 1) (pa_cons (pv 2) (pa_cons (pv 3) (pa_cons (pe_op op_sub (pv 4) pe_int) pa_nil)))))))
    (pss_one (ps_ret (pe_tup (pa_cons pe_str (pa_cons (pv 6) (pa_cons (pv 7) (pa_cons (pe_c c_law_expression hr (by first | exact Nat.le_refl _ | decide | omega) rfl (pa_cons (pv 0) (pa_cons (pv 1) (pa_cons (pv 2) (pa_cons (pv 3) (pa_cons (pe_op op_sub (pv 4) pe_int) pa_nil)))))) pa_nil)))))))))
    pss_nil)
  (pss_cons (ps_set (i := 8) sc_law_expression.nd rfl (by first | exact Or.inl rfl | exact Or.inr rfl) (pe_ix ix_tup (pe_tup (pa_cons pe_str (pa_cons pe_str (pa_cons pe_str (pa_cons pe_str (pa_cons pe_str (pa_cons pe_str (pa_cons pe_str (pa_cons pe_str (pa_cons pe_str (pa_cons pe_str pa_nil))))))))))) (pv 5) (fun _ _ => rfl)))
  (pss_cons (ps_set (i := 7) sc_law_expression.nd rfl (by first | exact Or.inl rfl | exact Or.inr rfl) (pe_c c_law_expression hr (by first | exact Nat.le_refl _ | decide | omega) rfl (pa_cons (pv 0) (pa_cons (pv 1) (pa_cons (pv 2) (pa_cons (pv 3) (pa_cons (pe_op op_sub (pv 4) pe_int) pa_nil)))))))
  (pss_one (ps_ret (pe_tup (pa_cons (pv 8) (pa_cons (pv 7) (pa_cons (pe_c c_law_expression hr (by first | exact Nat.le_refl _ | decide | omega) rfl (pa_cons (pv 0) (pa_cons (pv 1) (pa_cons (pv 2) (pa_cons (pv 3) (pa_cons (pe_op op_sub (pv 4) pe_int) pa_nil)))))) pa_nil))))))))))
  pss_nil)
(pss_cut (ps_if (PW.pt (pw_and (pt_val (pv 3)) (pw_and1 (pt_cmpR op_eq (pv 5) pe_int (nomark _)))))
  (pss_one (ps_ret (pe_tup (pa_cons pe_str pa_nil))))
  pss_nil)
(pss_cut (ps_if (PW.pt (pw_and (pt_truth (pv 1) (by intro _; rfl)) (pw_and1 (pt_cmpR op_eq (pe_op op_mod (pe_callTy call_int1 (by rfl) T.n_int bo_int (pa_cons (pv 5) pa_nil)) pe_int) pe_int (nomark _)))))
  (pss_one (ps_ret (pe_tup (pa_cons pe_str (pa_cons (pe_ix ix_list (pv 1) (pe_c c_law_draw hr (by first | exact Nat.le_refl _ | decide | omega) rfl (pa_cons (pv 0) (pa_cons (pe_callB call_len_seq (by rfl) T.n_len bo_len (pa_cons (pv 1) pa_nil)) pa_nil))) (fun _ _ => rfl)) pa_nil)))))
  pss_nil)
(pss_one (ps_ret (pe_tup (pa_cons pe_str (pa_cons (pe_c c_law_number hr (by first | exact Nat.le_refl _ | decide | omega) rfl (pa_cons (pv 0) pa_nil)) pa_nil))))))))), ?_⟩
    -- one part of it
    have sub : ∀ {H1 : Hp} {R : VK} {E1 : XK}, 1 < d → Pool H1 p q ns → Keep [p] H H1 → (∀ r e H', EV K H' r e → e.Ok xs ys → e.dep ≤ (d - 1).toNat → Pool H' p q ns → Keep [p] H1 H' → R r H') → sp_expr K n [.ref p, .ref la, .ref lb, .bl br, .int (d - 1)] H1 R E1 :=
      fun hd P1 K1 g => ⟨p, q, la, lb, ns, xs, ys, br, d - 1, rfl, by omega, by omega, P1, K1 _ _ ha (by simpa using nla), nla, K1 _ _ hb (by simpa using nlb), nlb, hxl, hyl, g⟩
    have Ha : ∀ {H1 : Hp}, Keep [p] H H1 → H1 la = some (.lst (xs.map V.str)) := fun K1 => K1 _ _ ha (by simpa using nla)
    have Hb : ∀ {H1 : Hp}, Keep [p] H H1 → H1 lb = some (.lst (ys.map V.str)) := fun K1 => K1 _ _ hb (by simpa using nlb)
    refine ⟨_, rfl, p, q, ns, 14, rfl, by decide, by decide, hP, fun kind H1 r0 r1 P1 K1 => ?_⟩
    refine ⟨fun σ H' => σ = [some (.ref p), some (.ref la), some (.ref lb), some (.bl br), some (.int d), some (.int kind), none, none, none] ∧ Pool H' p q ns ∧ Keep [p] H H', ?_, ?_⟩
    · refine ⟨_, rfl, _, _, rfl, rfl, _, rfl, iteD (fun hd => ?_) (fun hd => ⟨rfl, P1, K1⟩)⟩
      refine ⟨_, rfl, _, _, rfl, rfl, _, rfl, iteD (fun hk => ?_) (fun hk => ⟨rfl, P1, K1⟩)⟩
      refine ⟨_, rfl, p, q, ns, rfl, P1, fun bb H2 P2 K2 => ⟨_, rfl, iteB (fun eb => ?_) (fun eb => ⟨rfl, P2, K1.trans K2⟩)⟩⟩
      have K2' := K1.trans K2
      refine ⟨fun σ H' => σ = [some (.ref p), some (.ref la), some (.ref lb), some (.bl br), some (.int d), some (.int kind), none, none, none] ∧ H' = H2, ?_, ?_⟩
      · refine ⟨_, rfl, _, _, rfl, rfl, _, rfl, iteD (fun _ => ?_) (fun _ => ⟨rfl, rfl⟩)⟩
        refine ⟨_, rfl, _, rfl, iteB (fun _ => ?_) (fun _ => ⟨rfl, rfl⟩)⟩
        refine ⟨_, rfl, rfl, _, rfl, iteD (fun _ => iteT ?v) (fun _ => ⟨_, rfl, _, .inl ⟨_, SqL.of (Hb K2'), rfl⟩, iteB (fun _ => ?w) (fun _ => ⟨rfl, rfl⟩)⟩)⟩
        case v | w =>
          refine ⟨_, rfl, _, rfl, _, rfl, _, rfl, _, rfl, _, _, rfl, rfl, sub (E1 := E) hd P2 K2' fun r e H4 E4 o4 d4 P4 K4 => ⟨by show 2 ≤ sizeLine; decide, fun t nt => ?_⟩⟩
          exact k _ (.view e) _ (.view (.inl upd_same) (E4.tk (TK.new nt))) o4 (by show e.dep + 1 ≤ _; omega) (P4.new nt) ((K2'.trans K4).then_new nt)
      rintro σ H' ⟨rfl, h33⟩
      rw [h33]
      -- pick
      refine ⟨fun σ H' => σ = [some (.ref p), some (.ref la), some (.ref lb), some (.bl br), some (.int d), some (.int kind), none, none, none] ∧ H' = H2, ?_, ?_⟩
      · refine ⟨_, rfl, _, _, rfl, rfl, _, rfl, iteD (fun _ => ?_) (fun _ => ⟨rfl, rfl⟩)⟩
        refine ⟨_, rfl, _, .inl ⟨_, SqL.of (Hb K2'), rfl⟩, iteB (fun e => ?_) (fun e => ⟨rfl, rfl⟩)⟩
        have hy0 := empty_ne e
        refine ⟨_, rfl, _, rfl, _, rfl, _, _, rfl, .inl (SqL.of (Hb K2')), p, q, ns, _, rfl, by rw [List.length_map]; omega, by rw [List.length_map]; omega, P2, fun r H4 z0 z1 P4 K4 => ?_⟩
        rw [List.length_map] at z1
        obtain ⟨m, rfl⟩ : ∃ m : Nat, r = (m : Int) := ⟨r.toNat, by omega⟩
        have hm : m < ys.length := by omega
        have K4' := K2'.trans K4
        refine ⟨_, _, _, _, rfl, rfl, SqL.of (Hb K4'), atI_nat (by rw [List.getElem?_map, List.getElem?_eq_getElem hm]; rfl), ?_⟩
        refine ⟨_, rfl, _, rfl, _, rfl, _, rfl, _, rfl, _, _, rfl, rfl, sub (E1 := E) hd P4 K4' fun r1 e1 H5 E5 o5 d5 P5 K5 => ?_⟩
        refine ⟨_, rfl, _, rfl, _, rfl, _, rfl, _, rfl, _, rfl, _, rfl, _, _, rfl, rfl, sub (E1 := E) hd P5 (K4'.trans K5) fun r2 e2 H6 E6 o6 d6 P6 K6 => ⟨by show 4 ≤ sizeLine; decide, fun t nt => ?_⟩⟩
        refine k _ (.pick ys[m] e1 e2) _ (.pick (.inl upd_same) ((E5.tk (P5.tk K6)).tk (TK.new nt)) (E6.tk (TK.new nt))) ⟨List.getElem_mem hm, o5, o6⟩ (by show max e1.dep e2.dep + 1 ≤ _; omega) (P6.new nt) (((K4'.trans K5).trans K6).then_new nt)
      rintro σ H' ⟨rfl, h33⟩
      rw [h33]
      -- a sign
      obtain ⟨m, rfl⟩ : ∃ m : Nat, kind = (m : Int) := ⟨kind.toNat, by omega⟩
      obtain ⟨sg, hsg, hat⟩ := sg_at m (by omega)
      refine ⟨by show 10 ≤ sizeLine; decide, fun t nt => ?_⟩
      refine ⟨_, rfl, _, _, _, _, rfl, rfl, SqT.of upd_same, atI_nat hat, ?_⟩
      have P4 := P2.new (o := .tup [.str "+", .str "-", .str "*", .str "/", .str "mod", .str "<", .str "=", .str "+", .str "-", .str "/"]) nt
      have K4 := K2'.then_new (o := .tup [.str "+", .str "-", .str "*", .str "/", .str "mod", .str "<", .str "=", .str "+", .str "-", .str "/"]) nt
      refine ⟨_, rfl, _, rfl, _, rfl, _, rfl, _, rfl, _, _, rfl, rfl, sub (E1 := E) hd P4 K4 fun r1 e1 H5 E5 o5 d5 P5 K5 => ?_⟩
      have K5' := K4.trans K5
      refine ⟨_, rfl, _, rfl, _, rfl, _, rfl, _, rfl, _, rfl, _, rfl, _, _, rfl, rfl, sub (E1 := E) hd P5 K5' fun r2 e2 H7 E7 o7 d7 P7 K7 => ⟨by show 3 ≤ sizeLine; decide, fun t nt => ?_⟩⟩
      exact k _ (.op sg e1 e2) _ (.op (.inl upd_same) ((E5.tk (P5.tk K7)).tk (TK.new nt)) (E7.tk (TK.new nt))) ⟨hsg, o5, o7⟩ (by show max e1.dep e2.dep + 1 ≤ _; omega) (P7.new nt) ((K5'.trans K7).then_new nt)
    rintro σ H2 ⟨rfl, P2, K2⟩
    refine ⟨fun σ H' => σ = [some (.ref p), some (.ref la), some (.ref lb), some (.bl br), some (.int d), some (.int kind), none, none, none] ∧ H' = H2, ?_, ?_⟩
    · refine ⟨_, rfl, _, rfl, iteB (fun _ => ?_) (fun _ => ⟨rfl, rfl⟩)⟩
      refine ⟨_, rfl, rfl, _, rfl, iteD (fun _ => ?_) (fun _ => ⟨rfl, rfl⟩)⟩
      refine ⟨by show 1 ≤ sizeLine; decide, fun t nt => ?_⟩
      exact k _ .long _ (.long (.inl upd_same)) trivial (by show 1 ≤ _; omega) (P2.new nt) (K2.then_new nt)
    rintro σ H' ⟨rfl, h33⟩
    rw [h33]
    refine ⟨fun σ H' => σ = [some (.ref p), some (.ref la), some (.ref lb), some (.bl br), some (.int d), some (.int kind), none, none, none] ∧ H' = H2, ?_, ?_⟩
    · refine ⟨_, rfl, _, .inl ⟨_, SqL.of (Ha K2), rfl⟩, iteB (fun e => ?_) (fun e => ⟨rfl, rfl⟩)⟩
      have hy0 := empty_ne e
      refine ⟨_, rfl, .inl ⟨_, rfl, _, _, rfl, rfl, (by show (0 : Int) < 2; decide), rfl, _, rfl, iteD (fun _ => ?_) (fun _ => ⟨rfl, rfl⟩)⟩⟩
      refine ⟨_, rfl, _, rfl, _, rfl, _, _, rfl, .inl (SqL.of (Ha K2)), p, q, ns, _, rfl, by rw [List.length_map]; omega, by rw [List.length_map]; omega, P2, fun r H4 z0 z1 P4 K4 => ?_⟩
      rw [List.length_map] at z1
      obtain ⟨m, rfl⟩ : ∃ m : Nat, r = (m : Int) := ⟨r.toNat, by omega⟩
      have hm : m < xs.length := by omega
      refine ⟨_, _, _, _, rfl, rfl, SqL.of (Ha (K2.trans K4)), atI_nat (by rw [List.getElem?_map, List.getElem?_eq_getElem hm]; rfl), by show 2 ≤ sizeLine; decide, fun t nt => ?_⟩
      exact k _ (.var xs[m]) _ (.var (.inl upd_same)) (List.getElem_mem hm) (by show 1 ≤ _; omega) (P4.new nt) ((K2.trans K4).then_new nt)
    rintro σ H' ⟨rfl, h33⟩
    rw [h33]
    refine ⟨_, rfl, p, q, ns, rfl, P2, fun r H3 z0 z1 P3 K3 => ⟨by show 2 ≤ sizeLine; decide, fun t nt => ?_⟩⟩
    exact k _ (.num r) _ (.num (.inl upd_same)) ⟨z0, z1⟩ (by show 1 ≤ _; omega) (P3.new nt) ((K2.trans K3).then_new nt)
end

def sp_some : Sp := fun vs H Q _ => ∃ (p q l : Addr) (ns : List Int) (xs : List Str), vs = [.ref p, .ref l] ∧ H l = some (.lst (xs.map V.str)) ∧ l ≠ p ∧ xs.length ≤ 1000 ∧ Pool H p q ns ∧
  ∀ a (zs : List Str) H', (a = l ∨ H a = none) → H' a = some (.lst (zs.map V.str)) → zs.length ≤ xs.length → (∀ z ∈ zs, z ∈ xs) → Pool H' p q ns → Keep [p] H H' → Q (.ref a) H'
section
variable {P : Program} {w : World} {K : PySem.W.Frag} {mg : Str → Option Value} {base : Heap} {C_Cursor : Addr} {C_GameError : Addr} {C_BadText : Addr} {f_BadText___init : Addr} {T_SIGNS : Addr}
theorem ok_some {f : Addr} {fd : FuncData} (D : C8.Def K mg "_law_some" s_law_some f fd) (b : Binds K fd ["pool", "names"] []) (T : Txt K mg C_Cursor C_GameError C_BadText T_SIGNS) {k : Nat} (c_law_draw : C8.Cal P w K mg base k "_law_draw" sp_law_draw []) : C8.Cal P w K mg base (k + 1) "_law_some" sp_some [] := by
  refine cal0 D b .nil sc_law_some (fun vs H Q E h => ?_) (fun cdv A outer s H vs Q E hr h => ?_)
  · obtain ⟨p, q, l, ns, xs, rfl, _⟩ := h
    rfl
  · obtain ⟨p, q, l, ns, xs, rfl, hl, nlp, hx, hP, k⟩ := h
    refine ⟨_, (pss_cons (ps_if (pt_cmpR op_gt (pe_c c_law_draw hr (by first | exact Nat.le_refl _ | decide | omega) rfl (pa_cons (pv 0) (pa_cons pe_int pa_nil))) pe_int (nomark _))
  (pss_one (ps_ret (pv 1)))
  pss_nil)
(pss_one (ps_ret (pe_lc (own := [("name", 2)]) (g := gName 2)  rfl sc_law_some.nd (pi_list (pv 1)) (blkOk_by (N := ["pool", "names", "name"]) (sc := fnScope s_law_some) (by decide +kernel)) (fun _ _ _ _ _ => pg_name (i := 2) sc_law_some.nd rfl (Or.inl rfl)) (fun _ _ _ _ _ => pts_one (pt_cmpR op_eq (pe_c c_law_draw hr (by first | exact Nat.le_refl _ | decide | omega) rfl (pa_cons (pv 0) (pa_cons pe_int pa_nil))) pe_int (nomark _))) (fun _ _ _ _ _ => (pv 2)))))), ?_⟩
    refine ⟨_, rfl, p, q, ns, 4, rfl, by decide, by decide, hP, fun r H1 r0 r1 P1 K1 => ?_⟩
    have hl1 := K1 _ _ hl (by simpa using nlp)
    refine ⟨_, _, rfl, rfl, _, rfl, iteD (fun _ => ?_) (fun _ => ?_)⟩
    · exact ⟨_, rfl, k l xs _ (.inl rfl) hl1 (Nat.le_refl _) (fun _ h => h) P1 K1⟩
    refine ⟨_, rfl, _, rfl, ⟨_, SqL.of hl1⟩, fun D nD => ?_⟩
    have ndp := P1.nep nD
    have ndq := P1.neq nD
    have dn : H D = none := by
      cases e : H D with
      | none => rfl
      | some o => have := K1 _ _ e (by simpa using ndp); rw [nD] at this; cases this
    refine lc_list (K := K) (a := l) (xs := xs.map V.str) (fun i H' => ∃ zs : List Str, H' D = some (.lst (zs.map V.str)) ∧ zs.length ≤ i ∧ (∀ z ∈ zs, z ∈ xs) ∧ Pool H' p q ns ∧ Keep [p] H H')
      ⟨[], upd_same, Nat.le_refl _, (fun _ h => by cases h), P1.new nD, K1.then_new nD⟩ ?_ ?_ ?_
    · rintro i H2 _ ⟨zs, _, _, _, _, K2⟩
      exact SqL.of (K2 _ _ hl (by simpa using nlp))
    · rintro i x H2 hx2 ⟨zs, hD, hz1, hz2, P2, K2⟩
      rw [List.getElem?_map] at hx2
      obtain ⟨y, hy, rfl⟩ := Option.map_eq_some_iff.mp hx2
      have hi : i < xs.length := by
        rcases Nat.lt_or_ge i xs.length with z | z
        · exact z
        · rw [List.getElem?_eq_none z] at hy; cases hy
      refine ⟨rfl, ?_⟩
      refine ⟨_, rfl, p, q, ns, 2, rfl, by decide, by decide, P2, fun r H3 r0 r1 P3 K3 => ?_⟩
      have hD3 := K3 _ _ hD (by simpa using ndp)
      refine ⟨rfl, _, rfl, iteD (fun _ => ?_) (fun _ => ?_)⟩
      · refine ⟨_, rfl, _, hD3, by rw [List.length_map]; exact smallL (by omega), zs ++ [y], by rw [List.map_append]; exact upd_same, by rw [List.length_append]; exact Nat.succ_le_succ hz1, ?_, P3.own ndp ndq, (K2.trans K3).then_own dn⟩
        intro z hz
        rcases List.mem_append.mp hz with h | h
        · exact hz2 z h
        · rw [List.mem_singleton.mp h]; exact List.mem_of_getElem? hy
      · exact ⟨zs, hD3, by omega, hz2, P3, K2.trans K3⟩
    · rintro H2 ⟨zs, hD, hz1, hz2, P2, K2⟩
      rw [List.length_map] at hz1
      exact k D zs _ (.inr dn) hD hz1 hz2 P2 K2
end

def sp_spine (K : PySem.W.Frag) : Sp := fun vs H Q _ => ∃ (p q la lb : Addr) (ns : List Int) (xs ys : List Str) (br : Bool) (d : Int), vs = [.ref p, .ref la, .ref lb, .bl br, .int d] ∧ 1 ≤ d ∧ d ≤ 100 ∧ Pool H p q ns ∧
  H la = some (.lst (xs.map V.str)) ∧ la ≠ p ∧ H lb = some (.lst (ys.map V.str)) ∧ lb ≠ p ∧ xs.length ≤ 1000 ∧ ys.length ≤ 1000 ∧
  ∀ r e H', EV K H' r e → e.Ok xs ys → e.dep ≤ d.toNat → Pool H' p q ns → Keep [p] H H' → Q r H'
section
variable {P : Program} {w : World} {K : PySem.W.Frag} {mg : Str → Option Value} {base : Heap} {C_Cursor : Addr} {C_GameError : Addr} {C_BadText : Addr} {f_BadText___init : Addr} {T_SIGNS : Addr}
theorem ok_spine {f : Addr} {fd : FuncData} (D : C8.Def K mg "_law_spine" s_law_spine f fd) (b : Binds K fd ["pool", "names", "picks", "brain", "deep"] []) (T : Txt K mg C_Cursor C_GameError C_BadText T_SIGNS) {n k : Nat} (c_law_draw : C8.Cal P w K mg base k "_law_draw" sp_law_draw []) (c_law_expression : C8.Cal P w K mg base k "_law_expression" (sp_expr K (n + 1)) []) : C8.Cal P w K mg base (k + 1) "_law_spine" (sp_spine K) [] := by
  refine cal0 D b .nil sc_law_spine (fun vs H Q E h => ?_) (fun cdv A outer s H vs Q E hr h => ?_)
  · obtain ⟨p, q, la, lb, ns, xs, ys, br, d, rfl, _⟩ := h
    rfl
  · obtain ⟨p, q, la, lb, ns, xs, ys, br, d, rfl, d1, dn, hP, ha, nla, hb, nlb, hxl, hyl, k⟩ := h
    refine ⟨_, (pss_cons (ps_set (i := 5) sc_law_spine.nd rfl (by first | exact Or.inl rfl | exact Or.inr rfl) (pe_c c_law_expression hr (by first | exact Nat.le_refl _ | decide | omega) rfl (pa_cons (pv 0) (pa_cons (pv 1) (pa_cons (pv 2) (pa_cons (pv 3) (pa_cons pe_int pa_nil)))))))
(pss_cons (ps_for PassesOwn.never rfl (pi_range1 (by rfl) T.n_range (pa_cons (pe_op op_sub (pv 4) pe_int) pa_nil)) (pg_name (i := 6) sc_law_spine.nd rfl (by first | exact Or.inl rfl | exact Or.inr rfl))
  (pss_cons (ps_set (i := 7) sc_law_spine.nd rfl (by first | exact Or.inl rfl | exact Or.inr rfl) (pe_ix ix_tup (pe_tup (pa_cons pe_str (pa_cons pe_str (pa_cons pe_str (pa_cons pe_str (pa_cons pe_str (pa_cons pe_str (pa_cons pe_str pa_nil)))))))) (pe_c c_law_draw hr (by first | exact Nat.le_refl _ | decide | omega) rfl (pa_cons (pv 0) (pa_cons pe_int pa_nil))) (fun _ _ => rfl)))
  (pss_cons (ps_set (i := 8) sc_law_spine.nd rfl (by first | exact Or.inl rfl | exact Or.inr rfl) (pe_c c_law_expression hr (by first | exact Nat.le_refl _ | decide | omega) rfl (pa_cons (pv 0) (pa_cons (pv 1) (pa_cons (pv 2) (pa_cons (pv 3) (pa_cons pe_int pa_nil)))))))
  (pss_one (ps_set (i := 5) sc_law_spine.nd rfl (by first | exact Or.inl rfl | exact Or.inr rfl) (pe_ix ix_tup (pe_tup (pa_cons (pe_tup (pa_cons (pv 7) (pa_cons (pv 5) (pa_cons (pv 8) pa_nil)))) (pa_cons (pe_tup (pa_cons (pv 7) (pa_cons (pv 8) (pa_cons (pv 5) pa_nil)))) pa_nil))) (pe_c c_law_draw hr (by first | exact Nat.le_refl _ | decide | omega) rfl (pa_cons (pv 0) (pa_cons pe_int pa_nil))) (fun _ _ => rfl)))))))
(pss_one (ps_ret (pv 5))))), ?_⟩
    have sub : ∀ {H1 : Hp} {R : VK} {E1 : XK}, Pool H1 p q ns → Keep [p] H H1 → (∀ r e H', EV K H' r e → e.Ok xs ys → e.dep ≤ 1 → Pool H' p q ns → Keep [p] H1 H' → R r H') → sp_expr K (n + 1) [.ref p, .ref la, .ref lb, .bl br, .int 1] H1 R E1 :=
      fun P1 K1 g => ⟨p, q, la, lb, ns, xs, ys, br, 1, rfl, by decide, by show 1 ≤ n + 1; omega, P1, K1 _ _ ha (by simpa using nla), nla, K1 _ _ hb (by simpa using nlb), nlb, hxl, hyl, g⟩
    refine ⟨_, rfl, _, rfl, _, rfl, _, rfl, sub (E1 := E) hP (Keep.refl _ _) fun r0 e0 H1 E1 o1 d1 P1 K1 => ?_⟩
    refine ⟨_, rfl, _, _, rfl, rfl, _, rfl, by omega, by omega, for_range (lo := 0) (n := (d - 1).toNat) (fun i σ H' => ∃ (r : V) (e : Ex) (o1 o2 o3 : Option V), σ = [some (.ref p), some (.ref la), some (.ref lb), some (.bl br), some (.int d), some r, o1, o2, o3] ∧ EV K H' r e ∧ e.Ok xs ys ∧ e.dep ≤ i + 1 ∧ Pool H' p q ns ∧ Keep [p] H H')
      ⟨r0, e0, none, none, none, rfl, E1, o1, d1, P1, K1⟩ ?_ ?_⟩
    · rintro i σ H2 hi ⟨r, e, o1, o2, o3, rfl, E2, k2, d2, P2, K2⟩
      refine ⟨by show 7 ≤ sizeLine; decide, fun t nt => ?_⟩
      have Pt := P2.new (o := .tup (sgL.map V.str)) nt
      have Kt := K2.then_new (o := .tup (sgL.map V.str)) nt
      have ntp := P2.nep nt
      refine ⟨_, rfl, p, q, ns, 7, rfl, by decide, by decide, Pt, fun r3 H3 z0 z1 P3 K3 => ?_⟩
      have ht3 : H3 t = some (.tup (sgL.map V.str)) := K3 _ _ upd_same (by simpa using ntp)
      obtain ⟨m, rfl⟩ : ∃ m : Nat, r3 = (m : Int) := ⟨r3.toNat, by omega⟩
      have hm : m < sgL.length := by show m < 7; omega
      refine ⟨_, _, _, _, rfl, rfl, SqT.of ht3, atI_nat (by rw [List.getElem?_map, List.getElem?_eq_getElem hm]; rfl), ?_⟩
      have K3' := Kt.trans K3
      have E3 := (E2.tk (TK.new (o := .tup (sgL.map V.str)) nt)).tk (Pt.tk K3)
      refine ⟨_, rfl, _, rfl, _, rfl, _, rfl, sub (E1 := E) P3 K3' fun r4 e4 H4 E4 o4 d4 P4 K4 => ?_⟩
      have E3 := E3.tk (P3.tk K4)
      have K4' := K3'.trans K4
      refine ⟨_, rfl, _, rfl, _, rfl, by show 3 ≤ sizeLine; decide, fun t1 n1 => ?_⟩
      refine ⟨_, rfl, _, rfl, _, rfl, by show 3 ≤ sizeLine; decide, fun t2 n2 => ?_⟩
      refine ⟨by show 2 ≤ sizeLine; decide, fun t3 n3 => ?_⟩
      have Q1 := P4.new (o := .tup [.str sgL[m], r, r4]) n1
      have Q2 := Q1.new (o := .tup [.str sgL[m], r4, r]) n2
      have Q3 := Q2.new (o := .tup [.ref t1, .ref t2]) n3
      refine ⟨_, rfl, p, q, ns, 2, rfl, by decide, by decide, Q3, fun r6 H6 z0 z1 P6 K6 => ?_⟩
      have L1 := Keep.new (W := []) (o := .tup [.str sgL[m], r, r4]) n1
      have L2 := Keep.new (W := []) (o := .tup [.str sgL[m], r4, r]) n2
      have L3 := Keep.new (W := []) (o := .tup [.ref t1, .ref t2]) n3
      have h1 : H6 t1 = some (.tup [.str sgL[m], r, r4]) := K6 _ _ (L3 _ _ (L2 _ _ upd_same (by simp)) (by simp)) (by simpa using P4.nep n1)
      have h2 : H6 t2 = some (.tup [.str sgL[m], r4, r]) := K6 _ _ (L3 _ _ upd_same (by simp)) (by simpa using Q1.nep n2)
      have h3 : H6 t3 = some (.tup [.ref t1, .ref t2]) := K6 _ _ upd_same (by simpa using Q2.nep n3)
      have KK : Keep [p] H H6 := (((K4'.then_new n1).then_new n2).then_new n3).trans K6
      have up : ∀ {v e}, EV K H4 v e → EV K H6 v e := fun g => (((g.tk (TK.new n1)).tk (TK.new n2)).tk (TK.new n3)).tk (Q3.tk K6)
      have hs : sgL[m] ∈ sgL := List.getElem_mem hm
      have h01 : r6 = 0 ∨ r6 = 1 := by omega
      rcases h01 with rfl | rfl
      · refine ⟨_, _, _, _, rfl, rfl, SqT.of h3, rfl, ?_⟩
        exact ⟨_, .op sgL[m] e e4, _, _, _, rfl, .op (.inl h1) (up E3) (up E4), ⟨hs, k2, o4⟩, by show max e.dep e4.dep + 1 ≤ _; omega, P6, KK⟩
      · refine ⟨_, _, _, _, rfl, rfl, SqT.of h3, rfl, ?_⟩
        exact ⟨_, .op sgL[m] e4 e, _, _, _, rfl, .op (.inl h2) (up E4) (up E3), ⟨hs, o4, k2⟩, by show max e4.dep e.dep + 1 ≤ _; omega, P6, KK⟩
    · rintro σ H2 ⟨r, e, o1, o2, o3, rfl, E2, k2, d2, P2, K2⟩
      exact ⟨_, rfl, k r e _ E2 k2 (by omega) P2 K2⟩
end

theorem free1 {H H' : Hp} {x t : Addr} (k : Keep [x] H H') (h : H' t = none) (hx : H' x ≠ none) : H t = none := by
  cases e : H t with
  | none => rfl
  | some o =>
    by_cases q : t = x
    · subst q; exact absurd h hx
    · have := k _ _ e (by simpa using q)
      rw [h] at this; cases this
def sp_lread (K : PySem.W.Frag) (C : Addr) (n : Nat) : Sp := fun vs H Q _ => ∃ (x lw lo lv : Addr) (ws ps ns : List Str) (sees : Bool) (i : Nat) (bv : V) (bound : Int), vs = [.ref x, bv] ∧ ((bv = .non ∧ bound = 12) ∨ bv = .int bound) ∧ CurAt C H x lw lo lv ws ps ns sees i ∧ WsOk ws ∧ 1 ≤ bound ∧ bound.toNat ≤ n ∧
  (∀ e a v t H', rd ws ps ns sees (bound.toNat - 1) i = .inr (e, a) → EV K H' v e → H' t = some (.tup [.str "read", v]) → CurAt C H' x lw lo lv ws ps ns sees a → H t = none → Keep [x] H H' → Q (.ref t) H') ∧
  (∀ (j : Nat) t H', rd ws ps ns sees (bound.toNat - 1) i = .inl j → H' t = some (.tup [.str "refused", .int j, .bl true]) → (t = x ∨ H t = none) → Keep [x] H H' → Q (.ref t) H')
section
variable {P : Program} {w : World} {K : PySem.W.Frag} {mg : Str → Option Value} {base : Heap} {C_Cursor : Addr} {C_GameError : Addr} {C_BadText : Addr} {f_BadText___init : Addr} {T_SIGNS : Addr}
theorem ok_lread {f : Addr} {fd : FuncData} (D : C8.Def K mg "_law_read" s_law_read f fd) (b : Binds K fd ["cursor", "bound"] []) (T : Txt K mg C_Cursor C_GameError C_BadText T_SIGNS) (kg : PySem.W.kitOne K (.ref C_BadText) (.ref C_GameError) = some true) {k n : Nat} (c_read_expression : CalX P w K mg base (k + 1) "read_expression" (sp_read K C_Cursor C_BadText n) [.int 12])
    (c_read_expression_room : CalXK P w K mg base (k + 1) "read_expression" (sp_read K C_Cursor C_BadText n) 1 ["room"] (fun vs zs => vs ++ zs)) : C8.Cal P w K mg base (k + 2) "_law_read" (sp_lread K C_Cursor n) [] := by
  refine cal0 D b .nil sc_law_read (fun vs H Q E h => ?_) (fun cdv A outer s H vs Q E hr h => ?_)
  · obtain ⟨x, lw, lo, lv, ws, ps, ns, sees, i, bv, bound, rfl, _⟩ := h
    rfl
  · obtain ⟨x, lw, lo, lv, ws, ps, ns, sees, i, bv, bound, rfl, hbv, hc, hw, b1, bn, kg1, kb1⟩ := h
    refine ⟨_, (pss_one (ps_try_as (i := 2) rfl rfl sc_law_read.nd rfl rfl ⟨rfl, by decide, .inl T.m_BadText⟩ takes0 (fun W pn xe tk ps =>
  (pss_cons (ps_if (pt_cmpR op_isN (pv 1) pe_non (nomark _))
    (pss_one (ps_ret (pe_tup (pa_cons pe_str (pa_cons (pe_cS c_read_expression hr (by first | exact Nat.le_refl _ | decide | omega) rfl tk (pa_cons (pv 0) pa_nil)) pa_nil)))))
    pss_nil)
  (pss_one (ps_ret (pe_tup (pa_cons pe_str (pa_cons (pe_cKS c_read_expression_room hr (by first | exact Nat.le_refl _ | decide | omega) rfl tk (pa_cons (pv 0) pa_nil) (pk_cons (pv 1) pk_nil)) pa_nil)))))))
  (fun a oe cls d pn hz hf =>
  (pss_one (ps_ret (pe_tup (pa_cons pe_str (pa_cons (pe_xf T.f_BadText T.no_BadText hz hf (pv 2)) (pa_cons (pe_callB (call_isX hz hf) (by rfl) T.n_isinstance bo_isinstance (pa_cons (pv 2) (pa_cons (pe_glob (v := .ref _) rfl T.m_GameError rfl) pa_nil))) pa_nil))))))))), ?_⟩
    have good : ∀ (e : Ex) (a : Nat) (v : V) (H' : Hp), rd ws ps ns sees (bound.toNat - 1) i = .inr (e, a) → EV K H' v e → CurAt C_Cursor H' x lw lo lv ws ps ns sees a → Keep [x] H H' → 2 ≤ sizeLine ∧ ∀ t, H' t = none → Q (.ref t) (upd H' t (.tup [.str "read", v])) :=
      fun e a v H' h1 h2 h3 K => ⟨by decide, fun t nt => kg1 e a v t _ h1 (h2.tk (TK.new nt)) upd_same (h3.keep (Keep.new (W := []) nt) (by simp) (by simp) (by simp) (by simp)) (free1 K nt (by obtain ⟨dx, o⟩ := h3.o; rw [o]; exact fun z => nomatch z)) (K.then_new nt)⟩
    have bad : ∀ (j : Nat) (d : Addr) (H' : Hp), rd ws ps ns sees (bound.toNat - 1) i = .inl j → H' d = some (.xd [(("at" : Str), .int (j : Int))]) → Keep [x] H H' → 3 ≤ sizeLine ∧ ∀ t, H' t = none → Q (.ref t) (upd H' t (.tup [.str "refused", .int j, .bl true])) :=
      fun j d H' h1 h3 K => ⟨by decide, fun t nt => kb1 j t _ h1 upd_same ((Classical.em (t = x)).imp_right fun q => by
        cases z : H t with
        | none => rfl
        | some o => have := K _ _ z (by simpa using q); rw [nt] at this; cases this) (K.then_new nt)⟩
    refine ⟨_, rfl, rfl, _, rfl, iteD (fun e => ?_) (fun e => ?_)⟩
    · obtain ⟨hv, hb⟩ : bv = .non ∧ bound = 12 := hbv.elim id (fun z => by rw [z] at e; cases e)
      subst hb
      refine ⟨_, rfl, x, lw, lo, lv, ws, ps, ns, sees, i, 12, rfl, hc, hw, b1, bn, good, fun j h d H' nd hd K => ?_⟩
      refine ⟨true, T.x_BadText, fun _ a ha => ?_, fun q => nomatch q⟩
      refine ⟨_, rfl, rfl, rfl, d, _, _, rfl, hd, rfl, ?_⟩
      refine ⟨_, rfl, _, _, d, _, true, rfl, rfl, rfl, T.e_BadText, hd, kg, ?_⟩
      exact bad j d H' h hd K
    · have hv : bv = .int bound := hbv.elim (fun z => absurd z.1 e) id
      subst hv
      refine ⟨_, rfl, _, rfl, rfl, rfl, x, lw, lo, lv, ws, ps, ns, sees, i, bound, rfl, hc, hw, b1, bn, good, fun j h d H' nd hd K => ?_⟩
      refine ⟨true, T.x_BadText, fun _ a ha => ?_, fun q => nomatch q⟩
      refine ⟨_, rfl, rfl, rfl, d, _, _, rfl, hd, rfl, ?_⟩
      refine ⟨_, rfl, _, _, d, _, true, rfl, rfl, rfl, T.e_BadText, hd, kg, ?_⟩
      exact bad j d H' h hd K
end

section
variable {P : Program} {w : World} {K : PySem.W.Frag} {mg : Str → Option Value} {base : Heap} {C_Cursor : Addr} {C_GameError : Addr} {C_BadText : Addr} {f_BadText___init : Addr} {T_SIGNS : Addr}
theorem CalXK.up {j k n : Nat} {x : Str} {sp : Sp} {ks : List Str} {gV : List V → List V → List V} (c : CalXK P w K mg base j x sp n ks gV) (h : j ≤ k) : CalXK P w K mg base k x sp n ks gV := by
  obtain ⟨f, fd, ps, g, F, r⟩ := c.ex
  exact ⟨f, fd, ps, g, F.mono h, r⟩
theorem MetX.up {j k : Nat} {C : Addr} {m : Str} {sp : Sp} {dvs : List V} (c : MetX P w K mg base j C m sp dvs) (h : j ≤ k) : MetX P w K mg base k C m sp dvs := by
  obtain ⟨f, fd, ps, ds, c1, c2, F, r⟩ := c.ex
  exact ⟨f, fd, ps, ds, c1, c2, F.mono h, r⟩
theorem Prp.up {j k : Nat} {C : Addr} {m : Str} {sp : Sp} (c : Prp P w K mg base j C m sp) (h : j ≤ k) : Prp P w K mg base k C m sp := by
  obtain ⟨p, g, fd, ps, c1, c2, F, r⟩ := c.ex
  exact ⟨p, g, fd, ps, c1, c2, F.mono h, r⟩
theorem read_all {f : Addr} {fd : FuncData} (D : C8.Def K mg "read_expression" s_read_expression f fd) (T : Txt K mg C_Cursor C_GameError C_BadText T_SIGNS) {k : Nat} {g : List Value → List Value → List Value} (kb : KBn K fd ["cursor", "room"] 1 ["room"] g (fun vs zs => vs ++ zs)) (c_Cursor_word : Prp P w K mg base k C_Cursor "word" (sp_word C_Cursor))
    (c_Cursor_take_name : MetX P w K mg base (k + 1) C_Cursor "take_name" (sp_tname C_Cursor C_BadText) []) (c_Cursor_take_number : MetX P w K mg base (k + 1) C_Cursor "take_number" (sp_tnum C_Cursor C_BadText) []) : ∀ n, FnOk P w K mg base (L2.CX P w) (k + 2 + n) f fd ["cursor", "room"] (sp_read K C_Cursor C_BadText n)
  | 0 => ⟨fun vs H Q E h => (by obtain ⟨x, lw, lo, lv, ws, ps, ns, sees, i, room, rfl, _⟩ := h; rfl), fun A outer s H args us vs Q E _ _ _ _ h => (by obtain ⟨x, lw, lo, lv, ws, ps, ns, sees, i, room, _, _, _, h1, h2, _⟩ := h; omega)⟩
  | n + 1 => by
    have ih := read_all D T kb c_Cursor_word c_Cursor_take_name c_Cursor_take_number n
    have c : CalXK P w K mg base (k + 1 + n + 1) "read_expression" (sp_read K C_Cursor C_BadText n) 1 ["room"] (fun vs zs => vs ++ zs) := ⟨_, _, _, _, ih.mono (by omega), D.mgf, D.kp, kb⟩
    have := ok_read (w := w) (base := base) D T c (c_Cursor_word.up (by omega)) (c_Cursor_take_name.up (by omega)) (c_Cursor_take_number.up (by omega))
    exact this.mono (by omega)
end

theorem same_atoms {K : PySem.W.Frag} {n : Nat} {H : Hp} {t u : Addr} {xs : List V} (ht : H t = some (.tup xs)) (hu : H u = some (.tup xs)) (hz : xs.length ≤ sizeLine) (ha : ∀ x ∈ xs, (∃ z, x = .str z) ∨ (∃ i, x = .int i) ∨ (∃ b, x = .bl b) ∨ x = .non) : SameV K (n + 2) H (.ref t) (.ref u) :=
  .inr ⟨t, u, xs, xs, rfl, rfl, .inr ⟨.inl ht, .inl hu⟩, rfl, hz, fun i x y h1 h2 => by rw [h1] at h2; cases h2; exact sameV_atom (ha x (List.mem_of_getElem? h1))⟩
theorem refused_atoms (z : Str) (i : Int) (b : Bool) : ∀ x ∈ ([.str z, .int i, .bl b] : List V), (∃ z, x = .str z) ∨ (∃ i, x = .int i) ∨ (∃ b, x = .bl b) ∨ x = .non := by
  intro x hx
  rcases List.mem_cons.mp hx with rfl | hx
  · exact .inl ⟨_, rfl⟩
  rcases List.mem_cons.mp hx with rfl | hx
  · exact .inr (.inl ⟨_, rfl⟩)
  rcases List.mem_cons.mp hx with rfl | hx
  · exact .inr (.inr (.inl ⟨_, rfl⟩))
  · cases hx
def wN (k : Nat) : Str := ("w" : Str) ++ Str.ofString (toString ((k : Nat) : Int))
theorem wN_ok : ∀ k, k < 20 → (wN k).length ≤ 10 := by decide +kernel
theorem wN_plain : ∀ k, k < 20 → Plain (wN k) := by unfold Plain; decide +kernel
theorem wN_nodup : ((List.range 20).map wN).Nodup := by decide +kernel
theorem wN_free {ys : List Str} (h : ys.length < 20) (hall : ∀ j, j < 20 → wN j ∈ ys) : False := by
  have := nodup_le _ ys wN_nodup (fun x hx => by
    obtain ⟨j, hj, rfl⟩ := List.mem_map.mp hx
    exact hall j (List.mem_range.mp hj))
  rw [List.length_map, List.length_range] at this
  omega
theorem eq_sg : ("=" : Str) ∈ sgL := by decide +kernel
theorem one_num : numO "1" = some 1 := by decide +kernel
theorem one_kw : ("1" : Str) ∉ sgL ∧ ("1" : Str) ≠ "pick" ∧ ("1" : Str) ≠ "view" ∧ ("1" : Str) ≠ "long" := by decide +kernel
theorem pick_kw : ("pick" : Str) ∉ sgL ∧ ("pick" : Str) ≠ "view" ∧ ("pick" : Str) ≠ "long" := by decide +kernel
theorem rd_s1 {ps ns : List Str} {m : Str} (hs : Strange ps ns m) (hn : ∀ x ∈ ns, Plain x) : rd ["=", "1", m] ps ns false 8 0 = .inl 2 := by
  have n1 : ("1" : Str) ∉ ns := fun h => by have := (hn _ h).2.2.2.2; rw [one_num] at this; cases this
  rw [rd_op eq_sg rfl]
  have h1 : rd ["=", "1", m] ps ns false 7 1 = .inr (.num 1, 2) := by
    rw [rd_leaf (w := "1") rfl 7 (.inr ⟨one_kw.1, fun z => one_kw.2.1 z.1, fun z => one_kw.2.2.1 z.1⟩)]
    unfold leafR
    have e : ([("=" : Str), "1", m] : List Str)[1]? = some ("1" : Str) := rfl
    simp only [e]
    rw [if_neg (fun z => by cases z.2), if_neg n1, one_num]
  have h2 : rd ["=", "1", m] ps ns false 7 2 = .inl 2 := rd_strange (u := m) rfl hs
  exact two_m h1 h2
theorem rd_s2 {ps ns : List Str} {m : Str} (hs : Strange ps ns m) (hn : ∀ x ∈ ns, Plain x) : rd ["pick", m, "1", "2"] ps ns false 8 0 = .inl (if ps = [] then 0 else 1) := by
  by_cases h : ps = []
  · rw [if_pos h, rd_leaf (w := "pick") rfl 8 (.inr ⟨pick_kw.1, fun z => z.2 h, fun z => by cases z.2⟩)]
    exact leaf_no (w := "pick") rfl (fun z => by cases z.2) (noKw hn).1 kw_num.1
  · rw [if_neg h, rd_pick rfl h]
    show (if m ∈ ps then _ else _) = _
    rw [if_neg hs.2.2]
theorem mk_cur {C : Addr} {H : Hp} {x dx l a b : Addr} {ws ps ns : List Str} {sees : Bool} {Q : VK} {E : XK} (hl : H l = some (.lst (ws.map V.str))) (ha : H a = some (.lst (ps.map V.str))) (hb : H b = some (.lst (ns.map V.str))) (hx : H x = none) (hd : H dx = none)
    (k : ∀ lw lo lv H', H lw = none → H lo = none → H lv = none → CurAt C H' x lw lo lv ws ps ns sees 0 → Keep [] H H' → Q .non H') : sp_cinit C [.ref x, .ref l, .ref a, .ref b, .bl sees] (upd (upd H dx (.own x)) x (.ins C dx [])) Q E := by
  have up : ∀ {y : Addr} {o : HO}, H y = some o → upd (upd H dx (.own x)) x (.ins C dx []) y = some o := fun h => by rw [upd_ne (ne_of_none h hx), upd_ne (ne_of_none h hd)]; exact h
  have dn : ∀ {y : Addr}, upd (upd H dx (.own x)) x (.ins C dx []) y = none → H y = none := fun {y} h => by
    cases e : H y with
    | none => rfl
    | some o => rw [up e] at h; cases h
  exact ⟨x, dx, l, a, b, ws, ps, ns, sees, rfl, upd_same, up hl, up ha, up hb, fun lw lo lv H' h1 h2 h3 hc k1 => k lw lo lv H' (dn h1) (dn h2) (dn h3) hc (keep_made hx hd k1)⟩
def sp_stranger : Sp := fun vs H Q _ => ∃ (kn ps a b : Addr) (ys xs ns : List Str), vs = [.ref kn, .ref ps] ∧ H kn = some (.lst (ys.map V.str)) ∧ ys.length < 20 ∧ H ps = some (.lst [.ref a, .ref b]) ∧ H a = some (.lst (xs.map V.str)) ∧ H b = some (.lst (ns.map V.str)) ∧ a ≠ b ∧ ps ≠ a ∧ ps ≠ b ∧ (∀ x ∈ xs, x ∈ ys) ∧ (∀ x ∈ ns, x ∈ ys) ∧ (∀ x ∈ ns, Plain x) ∧
  xs.length ≤ 1000 ∧ ns.length ≤ 1000 ∧ ∀ H', Keep [a, b] H H' → Q (.bl true) H'
section
variable {P : Program} {w : World} {K : PySem.W.Frag} {mg : Str → Option Value} {base : Heap} {C_Cursor : Addr} {C_GameError : Addr} {C_BadText : Addr} {f_BadText___init : Addr} {T_SIGNS : Addr}
theorem ok_stranger {f : Addr} {fd : FuncData} (D : C8.Def K mg "_law_stranger" s_law_stranger f fd) (b : Binds K fd ["known", "passed"] []) (T : Txt K mg C_Cursor C_GameError C_BadText T_SIGNS) {k n m : Nat} (hn9 : 9 ≤ n) (c_Cursor_kw : MakK P w K mg base 1 "Cursor" C_Cursor (sp_cinit C_Cursor) 1 ["options", "variables", "sees"] (fun vs zs => vs ++ zs))
    (c_law_read : C8.Cal P w K mg base (k + 1) "_law_read" (sp_lread K C_Cursor n) []) (c_law_same : C8.Cal P w K mg base (k + 1) "_law_same" (sp_law_same K (m + 2)) []) : C8.Cal P w K mg base (k + 3) "_law_stranger" sp_stranger [] := by
  refine cal0 D b .nil sc_law_stranger (fun vs H Q E h => ?_) (fun cdv A outer s H vs Q E hr h => ?_)
  · obtain ⟨kn, ps, a, b, ys, xs, ns, rfl, _⟩ := h
    rfl
  · obtain ⟨kn, ps, a, b, ys, xs, ns, rfl, hk, hyl, hps, ha, hb, hab, hpa, hpb, hxy, hny, hnp, hxl, hnl, kk⟩ := h
    refine ⟨_, (pss_cons (ps_set (i := 2) sc_law_stranger.nd rfl (by first | exact Or.inl rfl | exact Or.inr rfl) pe_str)
(pss_cons (ps_for PassesOwn.never rfl (pi_range1 (by rfl) T.n_range (pa_cons pe_int pa_nil)) (pg_name (i := 3) sc_law_stranger.nd rfl (by first | exact Or.inl rfl | exact Or.inr rfl))
  (pss_one (ps_if (pt_cmpR op_notIn_seq (pe_op op_add_str pe_str (pe_callTy call_str_int (by rfl) T.n_str bo_str (pa_cons (pv 3) pa_nil))) (pv 0) (by rfl))
    (pss_one (ps_set (i := 2) sc_law_stranger.nd rfl (by first | exact Or.inl rfl | exact Or.inr rfl) (pe_op op_add_str pe_str (pe_callTy call_str_int (by rfl) T.n_str bo_str (pa_cons (pv 3) pa_nil)))))
    pss_nil)))
(pss_cons (ps_set (i := 4) sc_law_stranger.nd rfl (by first | exact Or.inl rfl | exact Or.inr rfl) (pe_mkK c_Cursor_kw hr (by first | exact Nat.le_refl _ | decide | omega) rfl (pa_cons (pe_lst (pa_cons pe_str (pa_cons pe_str (pa_cons (pv 2) pa_nil)))) pa_nil) (pk_cons (pe_ix ix_list (pv 1) pe_int (fun _ _ => rfl)) (pk_cons (pe_ix ix_list (pv 1) pe_int (fun _ _ => rfl)) (pk_cons pe_bl pk_nil)))))
(pss_cons (ps_set (i := 5) sc_law_stranger.nd rfl (by first | exact Or.inl rfl | exact Or.inr rfl) (pe_mkK c_Cursor_kw hr (by first | exact Nat.le_refl _ | decide | omega) rfl (pa_cons (pe_lst (pa_cons pe_str (pa_cons (pv 2) (pa_cons pe_str (pa_cons pe_str pa_nil))))) pa_nil) (pk_cons (pe_ix ix_list (pv 1) pe_int (fun _ _ => rfl)) (pk_cons (pe_ix ix_list (pv 1) pe_int (fun _ _ => rfl)) (pk_cons pe_bl pk_nil)))))
(pss_cons (ps_set (i := 6) sc_law_stranger.nd rfl (by first | exact Or.inl rfl | exact Or.inr rfl) (pe_callTy call_int1 (by rfl) T.n_int bo_int (pa_cons (pe_cmpR op_gt (pe_callB call_len_seq (by rfl) T.n_len bo_len (pa_cons (pe_ix ix_list (pv 1) pe_int (fun _ _ => rfl)) pa_nil)) pe_int (nomark _)) pa_nil)))
(pss_cons (ps_for PassesOwn.never rfl (pi_list (pv 1)) (pg_name (i := 7) sc_law_stranger.nd rfl (by first | exact Or.inl rfl | exact Or.inr rfl))
  (pss_one (ps_expr (pe_bm PySem.F.plainAttrs_list PySem.F.slot_list_append PySem.F.type_list_append mt_append (pv 7) (pa_cons (pv 2) pa_nil)))))
(pss_one (ps_ret (pe_and (pe_c c_law_same hr (by first | exact Nat.le_refl _ | decide | omega) rfl (pa_cons (pe_c c_law_read hr (by first | exact Nat.le_refl _ | decide | omega) rfl (pa_cons (pv 4) (pa_cons pe_int pa_nil))) (pa_cons (pe_tup (pa_cons pe_str (pa_cons pe_int (pa_cons pe_bl pa_nil)))) pa_nil))) (pe_one (pe_c c_law_same hr (by first | exact Nat.le_refl _ | decide | omega) rfl (pa_cons (pe_c c_law_read hr (by first | exact Nat.le_refl _ | decide | omega) rfl (pa_cons (pv 5) (pa_cons pe_int pa_nil))) (pa_cons (pe_tup (pa_cons pe_str (pa_cons (pv 6) (pa_cons pe_bl pa_nil)))) pa_nil))))))))))))), ?_⟩
    refine ⟨20, rfl, by decide, by decide, for_range (lo := 0) (n := 20) (fun (i : Nat) (σ : List (Option V)) (H' : Hp) => ∃ (z : Str) (o : Option V), σ = [some (.ref kn), some (.ref ps), some (.str z), o, none, none, none, none] ∧ ((z ∉ ys ∧ Plain z ∧ z.length ≤ 10) ∨ ∀ j, j < i → wN j ∈ ys) ∧ H' = H)
      ⟨_, _, rfl, .inr fun j hj => absurd hj (Nat.not_lt_zero _), rfl⟩ ?_ ?_⟩
    · rintro i σ H' hi ⟨z, o, rfl, hzz, rfl⟩
      have e0 : (0 : Int) + (i : Int) = (i : Int) := by omega
      rw [e0]
      have hv := wN_ok i hi
      have hlog : ((i : Nat) : Int).natAbs.log2 < 1920 := by
        rw [Int.natAbs_natCast]; exact PySem.Flt.log2_lt_of (by decide) (Nat.lt_trans (show i < 20 from hi) (by decide +kernel))
      have hvl : ("w" : Str).length + (Str.ofString (toString ((i : Nat) : Int))).length ≤ sizeLine := by
        have := hv; unfold wN at this; rw [len_appN] at this; exact smallM (by omega)
      refine ⟨_, rfl, _, rfl, hlog, _, _, rfl, rfl, hvl, _, rfl, _, _, rfl, .inl (SqL.of hk), rfl, flat_strs ys, _, rfl, iteB (fun e => ?_) (fun e => ?_)⟩
      · have e' : (!inV (.str (wN i)) (ys.map V.str)) = true := e
        rw [inV_strs] at e'
        exact ⟨_, rfl, _, rfl, hlog, _, _, rfl, rfl, hvl, wN i, _, rfl, .inl ⟨by simpa using e', wN_plain i hi, hv⟩, rfl⟩
      · have e' : (!inV (.str (wN i)) (ys.map V.str)) = false := e
        rw [inV_strs] at e'
        refine ⟨z, _, rfl, ?_, rfl⟩
        rcases hzz with hzz | hzz
        · exact .inl hzz
        · refine .inr fun j hj => ?_
          by_cases q : j = i
          · subst q; simpa using e'
          · exact hzz j (by omega)
    · rintro σ H' ⟨z, o, rfl, hzz, rfl⟩
      obtain ⟨hz1, hz2, hz3⟩ : z ∉ ys ∧ Plain z ∧ z.length ≤ 10 := hzz.elim id (fun g => (wN_free hyl g).elim)
      have hst : Strange xs ns z := ⟨hz2, fun h => hz1 (hny z h), fun h => hz1 (hxy z h)⟩
      refine ⟨_, rfl, by show 3 ≤ sizeLine; decide, fun l1 nl1 => ?_⟩
      have k1 := Keep.new (W := []) (o := .lst [.str "=", .str "1", .str z]) nl1
      refine ⟨_, rfl, _, _, _, _, rfl, rfl, SqL.of (k1 _ _ hps (by simp)), rfl, ?_⟩
      refine ⟨_, rfl, _, _, _, _, rfl, rfl, SqL.of (k1 _ _ hps (by simp)), rfl, ?_⟩
      refine ⟨rfl, rfl, fun x1 dx1 nx1 nd1 ne1 => ?_⟩
      have hw1 : WsOk ["=", "1", z] := ⟨fun w hw => by
        rcases List.mem_cons.mp hw with rfl | hw
        · decide
        rcases List.mem_cons.mp hw with rfl | hw
        · decide
        rw [List.mem_singleton.mp hw]; omega, by show 3 ≤ 1000000; decide⟩
      have hw2 : WsOk ["pick", z, "1", "2"] := ⟨fun w hw => by
        rcases List.mem_cons.mp hw with rfl | hw
        · decide
        rcases List.mem_cons.mp hw with rfl | hw
        · omega
        rcases List.mem_cons.mp hw with rfl | hw
        · decide
        rw [List.mem_singleton.mp hw]; decide, by show 4 ≤ 1000000; decide⟩
      refine mk_cur (ws := ["=", "1", z]) upd_same (k1 _ _ ha (by simp)) (k1 _ _ hb (by simp)) nx1 nd1 fun lw1 lo1 lv1 H1 fw1 fo1 fv1 C1 K1 => ⟨rfl, ?_⟩
      have K01 := k1.trans K1
      refine ⟨_, rfl, by show 4 ≤ sizeLine; decide, fun l2 nl2 => ?_⟩
      have k2 := Keep.new (W := []) (o := .lst [.str "pick", .str z, .str "1", .str "2"]) nl2
      have K02 := K01.trans k2
      refine ⟨_, rfl, _, _, _, _, rfl, rfl, SqL.of (K02 _ _ hps (by simp)), rfl, ?_⟩
      refine ⟨_, rfl, _, _, _, _, rfl, rfl, SqL.of (K02 _ _ hps (by simp)), rfl, ?_⟩
      refine ⟨rfl, rfl, fun x2 dx2 nx2 nd2 ne2 => ?_⟩
      refine mk_cur (ws := ["pick", z, "1", "2"]) upd_same (K02 _ _ ha (by simp)) (K02 _ _ hb (by simp)) nx2 nd2 fun lw2 lo2 lv2 H2 fw2 fo2 fv2 C2 K2 => ⟨rfl, ?_⟩
      have K12 := k2.trans K2
      have K02 := K01.trans K12
      have ne1 : ∀ {y : Addr}, upd H1 l2 (.lst [.str "pick", .str z, .str "1", .str "2"]) y = none → y ∉ [x1] := fun {y} h q => by
        obtain ⟨dx, o1⟩ := C1.o
        have := k2 _ _ o1 (by simp)
        rw [List.mem_singleton.mp q, this] at h; cases h
      have C1 := C1.keep0 K12
      have fr : ∀ {W : Hp} {y : Addr}, Keep [] H' W → W y = none → y ∉ [a, b] := fun {W y} kw h => by
        have h1 := kw.free h
        intro q
        rcases List.mem_cons.mp q with q | q
        · rw [q, ha] at h1; cases h1
        · rw [List.mem_singleton.mp q, hb] at h1; cases h1
      have kk2 := K01.trans k2
      refine ⟨_, rfl, _, _, _, _, rfl, rfl, SqL.of (K02 _ _ hps (by simp)), rfl, _, _, rfl, .inl (SqL.of (K02 _ _ ha (by simp))), _, _, rfl, rfl, .inr ⟨_, rfl, ?_⟩⟩
      refine ⟨_, rfl, ps, rfl, ⟨_, SqL.of (K02 _ _ hps (by simp))⟩, for_list (K := K) (a := ps) (xs := [.ref a, .ref b]) (fun (i : Nat) (σ : List (Option V)) (H3 : Hp) => ∃ (o7 : Option V) (as bs : List V), σ = [some (.ref kn), some (.ref ps), some (.str z), o, some (.ref x1), some (.ref x2), some (.int (if decide ((0 : Int) < ((xs.map V.str).length : Int)) = true then 1 else 0)), o7] ∧
        H3 a = some (.lst as) ∧ H3 b = some (.lst bs) ∧ as.length ≤ 1000 + i ∧ bs.length ≤ 1000 + i ∧ Keep [a, b] H2 H3) ⟨_, _, _, rfl, K02 _ _ ha (by simp), K02 _ _ hb (by simp), by rw [List.length_map]; exact hxl, by rw [List.length_map]; exact hnl, Keep.refl _ _⟩ ?_ ?_ ?_⟩
      · rintro i σ H3 _ ⟨o7, as, bs, rfl, h1, h2, h3, h4, h5⟩
        exact SqL.of (h5 _ _ (K02 _ _ hps (by simp)) (by simp [hpa, hpb]))
      · rintro i x σ H3 hx ⟨o7, as, bs, rfl, h1, h2, h3, h4, h5⟩
        match i, hx with
        | 0, hx =>
          cases hx
          refine ⟨_, rfl, .inl ⟨rfl, _, SqL.of h1⟩, _, rfl, a, _, _, rfl, rfl, h1, smallL (by omega), ?_⟩
          exact ⟨_, as ++ [.str z], bs, rfl, upd_same, by rw [upd_ne hab.symm]; exact h2, by rw [List.length_append]; show as.length + 1 ≤ _; omega, by omega, h5.then_at (by simp)⟩
        | 1, hx =>
          cases hx
          refine ⟨_, rfl, .inl ⟨rfl, _, SqL.of h2⟩, _, rfl, b, _, _, rfl, rfl, h2, smallL (by omega), ?_⟩
          exact ⟨_, as, bs ++ [.str z], rfl, by rw [upd_ne hab]; exact h1, upd_same, by omega, by rw [List.length_append]; show bs.length + 1 ≤ _; omega, h5.then_at (by simp)⟩
      · rintro σ H3 ⟨o7, as, bs, rfl, h1, h2, h3, h4, h5⟩
        have CC1 := C1.keep h5 (fr k1 nx1) (fr k1 fw1) (fr k1 fo1) (fr k1 fv1)
        have CC2 := C2.keep h5 (fr kk2 nx2) (fr kk2 fw2) (fr kk2 fo2) (fr kk2 fv2)
        refine ⟨_, rfl, x1, lw1, lo1, lv1, _, _, _, _, _, _, 9, rfl, .inr rfl, CC1, hw1, by decide, hn9, fun e a v t H' q => ?_, fun j t H4 q ht hf K4 => ?_⟩
        · have q' : rd ["=", "1", z] xs ns false 8 0 = .inr (e, a) := q
          rw [rd_s1 hst hnp] at q'; cases q'
        have q' : rd ["=", "1", z] xs ns false 8 0 = .inl j := q
        rw [rd_s1 hst hnp] at q'; cases q'
        refine ⟨by show 3 ≤ sizeLine; decide, fun t2 n2 => ?_⟩
        refine ⟨_, _, rfl, same_atoms (K := K) (Keep.new (W := []) n2 _ _ ht (by simp)) upd_same (by show 3 ≤ sizeLine; decide) (refused_atoms _ _ _), ?_⟩
        refine ⟨_, rfl, iteT ?_⟩
        have KK : Keep [x1] H3 (upd H4 t2 (HO.tup [V.str (Str.ofString "refused"), V.int 2, V.bl true])) := K4.then_new n2
        have CC2 := CC2.keep KK (ne1 nx2) (ne1 fw2) (ne1 fo2) (ne1 fv2)
        refine ⟨_, rfl, x2, lw2, lo2, lv2, _, _, _, _, _, _, 9, rfl, .inr rfl, CC2, hw2, by decide, hn9, fun e a v t H' q => ?_, fun j u H5 q hu hf5 K5 => ?_⟩
        · have q' : rd ["pick", z, "1", "2"] xs ns false 8 0 = .inr (e, a) := q
          rw [rd_s2 hst hnp] at q'; cases q'
        have q' : rd ["pick", z, "1", "2"] xs ns false 8 0 = .inl j := q
        rw [rd_s2 hst hnp] at q'
        have q' := Sum.inl.inj q'
        refine ⟨_, rfl, by show 3 ≤ sizeLine; decide, fun u2 m2 => ?_⟩
        have ev : (if decide ((0 : Int) < ((xs.map V.str).length : Int)) = true then (1 : Int) else 0) = (j : Int) := by
          rw [← q', List.length_map]
          by_cases e : xs = []
          · subst e; rfl
          · have : 0 < xs.length := List.length_pos_iff.mpr e
            rw [if_neg e, decide_eq_true (by omega), if_pos rfl]; rfl
        rw [ev]
        refine ⟨_, _, rfl, same_atoms (K := K) (Keep.new (W := []) m2 _ _ hu (by simp)) upd_same (by show 3 ≤ sizeLine; decide) (refused_atoms _ _ _), ?_⟩
        refine kk _ (fun y o h hy => ?_)
        have e3 := h5 _ _ (K02 _ _ h (by simp)) hy
        have e4 := KK _ _ e3 (by simpa using ne_of_none h (k1.free nx1))
        have e5 := K5 _ _ e4 (by simpa using ne_of_none h (kk2.free nx2))
        exact Keep.new (W := []) m2 _ _ e5 (by simp)
end

/-! what a law holds between its draws: the pool, lists that stand, and what stands with the tuples -/
structure LS (H : Hp) (p q : Addr) (is : List Int) (ls : List (Addr × List V)) (ex : Hp → Prop) : Prop where
  P : Pool H p q is
  L : ∀ z ∈ ls, H z.1 = some (.lst z.2) ∧ z.1 ≠ p
  X : ex H
  M : ∀ H H', TK H H' → ex H → ex H'
section
variable {H H' : Hp} {p q a : Addr} {is : List Int} {ls ls' : List (Addr × List V)} {ex ex' : Hp → Prop} {o : HO}
theorem Pool.tk' (h : Pool H p q is) (k : Keep [p] H H') : TK H H' := by
  obtain ⟨i1, i2, i3, i4, i5, g1, _⟩ := h
  exact k.tk1 g1
theorem LS.draw (h : LS H p q is ls ex) (P' : Pool H' p q is) (k : Keep [p] H H') : LS H' p q is ls ex :=
  ⟨P', fun z hz => ⟨k _ _ (h.L z hz).1 (by simpa using (h.L z hz).2), (h.L z hz).2⟩, h.M _ _ (h.P.tk' k) h.X, h.M⟩
theorem LS.keep0 (h : LS H p q is ls ex) (k : Keep [] H H') : LS H' p q is ls ex :=
  ⟨h.P.keep0 k, fun z hz => ⟨k _ _ (h.L z hz).1 (by simp), (h.L z hz).2⟩, h.M _ _ k.tk h.X, h.M⟩
theorem LS.new (h : LS H p q is ls ex) (n : H a = none) : LS (upd H a o) p q is ls ex := h.keep0 (Keep.new n)
theorem LS.add (h : LS H p q is ls ex) {xs : List V} (ha : H a = some (.lst xs)) (n : a ≠ p) : LS H p q is ((a, xs) :: ls) ex :=
  ⟨h.P, fun z hz => by
    rcases List.mem_cons.mp hz with rfl | hz
    · exact ⟨ha, n⟩
    · exact h.L z hz, h.X, h.M⟩
/-- a new list -/
theorem LS.push (h : LS H p q is ls ex) {xs : List V} (n : H a = none) : LS (upd H a (.lst xs)) p q is ((a, xs) :: ls) ex := (h.new n).add upd_same (h.P.nep n)
theorem LS.sub (h : LS H p q is ls ex) (hs : ∀ z ∈ ls', z ∈ ls) : LS H p q is ls' ex := ⟨h.P, fun z hz => h.L z (hs z hz), h.X, h.M⟩
theorem LS.setEx (h : LS H p q is ls ex) (f : ex' H) (g : ∀ H H', TK H H' → ex' H → ex' H') : LS H p q is ls ex' := ⟨h.P, h.L, f, g⟩
theorem LS.and (h : LS H p q is ls ex) (f : ex' H) (g : ∀ H H', TK H H' → ex' H → ex' H') : LS H p q is ls (fun H => ex H ∧ ex' H) := ⟨h.P, h.L, ⟨h.X, f⟩, fun _ _ k z => ⟨h.M _ _ k z.1, g _ _ k z.2⟩⟩
theorem LS.nep (h : LS H p q is ls ex) (n : H a = none) : a ≠ p := h.P.nep n
/-- a new list that a callee made behind a draw -/
theorem LS.got (h : LS H p q is ls ex) (P' : Pool H' p q is) (k : Keep [p] H H') {xs : List V} (ha : H' a = some (.lst xs)) (n : H a = none) : LS H' p q is ((a, xs) :: ls) ex := (h.draw P' k).add ha (h.P.nep n)
/-- a store to a list that is let go -/
theorem LS.store (h : LS H p q is ls ex) (ha : a ≠ p) (hq : a ≠ q) (hs : ∀ z ∈ ls', z ∈ ls ∧ z.1 ≠ a) {xs : List V} (hx : H a = some (.lst xs)) : LS (upd H a o) p q is ls' ex :=
  ⟨h.P.own ha hq, fun z hz => ⟨by rw [upd_ne (hs z hz).2]; exact (h.L z (hs z hz).1).1, (h.L z (hs z hz).1).2⟩, h.M _ _ (TK.lst hx) h.X, h.M⟩
end
theorem LS.notNew {H : Hp} {p q a : Addr} {is : List Int} {ls : List (Addr × List V)} {ex : Hp → Prop} (h : LS H p q is ls ex) (n : H a = none) : ∀ z ∈ ls, z ∈ ls ∧ z.1 ≠ a := fun z hz => ⟨hz, ne_of_none (h.L z hz).1 n⟩
theorem cutToS {xs : List Str} {m : Int} (h0 : 0 ≤ m) (h : m.toNat ≤ xs.length) : cutV (xs.map V.str) none (some m) = (xs.take m.toNat).map V.str := by
  obtain ⟨k, rfl⟩ := Int.eq_ofNat_of_zero_le h0
  have h : k ≤ xs.length := h
  unfold cutV
  rw [HT.sIx_nat, HT.sIx_none, List.length_map, Nat.min_eq_left h, List.map_take]
  show ((xs.map V.str).drop 0).take (k - 0) = _
  rw [List.drop_zero, Nat.sub_zero]; rfl
theorem ixN_n {n j : Nat} (hj : j < n) : ixN n (j : Int) = some j := by
  unfold ixN
  rw [if_pos (by omega), if_pos (by omega)]
  rfl
theorem LS.keepW {H H' : Hp} {p q : Addr} {is : List Int} {ls ls' : List (Addr × List V)} {ex : Hp → Prop} {W : List Addr} (h : LS H p q is ls ex) (k : Keep W H H') (hp : p ∉ W) (hq : q ∉ W) (ht : TK H H') (hs : ∀ z ∈ ls', z ∈ ls ∧ z.1 ∉ W) : LS H' p q is ls' ex :=
  ⟨by
    obtain ⟨i1, i2, i3, i4, i5, h1, h2, h3, h4⟩ := h.P
    exact ⟨i1, i2, i3, i4, i5, k _ _ h1 hp, k _ _ h2 hq, h3, h4⟩, fun z hz => ⟨k _ _ (h.L z (hs z hz).1).1 (hs z hz).2, (h.L z (hs z hz).1).2⟩, h.M _ _ ht h.X, h.M⟩
theorem TK.keep {H H' : Hp} {W : List Addr} (k : Keep W H H') (h : ∀ b ∈ W, ∃ xs, H b = some (.lst xs)) : TK H H' := fun b xs hb => k b _ hb fun z => by
  obtain ⟨ys, e⟩ := h b z
  rw [e] at hb; cases hb

def sp_law (K : PySem.W.Frag) : Sp := fun vs H Q _ => ∃ (a : Addr) (ns : List Int), vs = [.ref a] ∧ SqL K H a (ns.map V.int) ∧ ∀ H', Q (.bl true) H'
theorem Rws.get {H : Hp} {us : List V} {rs : List (Str × Int × Str)} (h : Rws H us rs) : ∀ {i : Nat} {x : V}, us[i]? = some x → ∃ p r, x = .ref p ∧ rs[i]? = some r ∧ H p = some (.tup [.str r.1, .int r.2.1, .str r.2.2]) := by
  induction h with
  | nil => intro i x h; cases h
  | @cons p w k l vs rs h0 _ ih =>
    intro i x h
    cases i with
    | zero => cases h; exact ⟨p, (w, l, k), rfl, rfl, h0⟩
    | succ i => exact ih h
def mnL : List Str := ["00", "007", "65536", "100000", ">", "<=", "==", "-1", "", "-0", "//", "**", "+-", "set", "end", "round", "else", "if", "draw", "both"]
theorem mn_ok : ∀ u ∈ mnL, Plain u ∧ u.length ≤ 1000 ∧ (u ∈ kwL ∨ isL ((TL.tl u).headD 0) = false) := by unfold Plain; decide +kernel
theorem mn_bad {u : Str} (h : u ∈ mnL) : ¬ GoodN u := fun g => (mn_ok u h).2.2.elim g.1 (fun z => by rw [g.2.head] at z; cases z)
theorem tS_len {n : Int} (h0 : 0 ≤ n) (h1 : n < 65536) : (tS n).length ≤ 5 := by
  have h := numO_tS h0 h1
  unfold numO at h
  split at h
  · rename_i g
    unfold numGood at g
    simp only [Bool.and_eq_true, decide_eq_true_eq] at g
    omega
  · cases h
theorem sg_len : ∀ s ∈ sgL, s.length ≤ 1000 := by decide +kernel
theorem wds_wlen {ns ps : List Str} (hn : ∀ x ∈ ns, x.length ≤ 20) (hp : ∀ x ∈ ps, x.length ≤ 20) : ∀ e : Ex, e.Ok ns ps → ∀ w ∈ wds e, w.length ≤ 1000
  | .num n, h, w, hw => by rw [List.mem_singleton.mp hw]; have := tS_len h.1 h.2; omega
  | .var x, h, w, hw => by rw [List.mem_singleton.mp hw]; have := hn x h; omega
  | .long, _, w, hw => by rw [List.mem_singleton.mp hw]; decide
  | .view e, h, w, hw => by
    rcases List.mem_cons.mp hw with rfl | hw
    · decide
    · exact wds_wlen hn hp e h w hw
  | .pick x l r, h, w, hw => by
    rcases List.mem_cons.mp hw with rfl | hw
    · decide
    rcases List.mem_cons.mp hw with rfl | hw
    · have := hp _ h.1; omega
    rcases List.mem_append.mp hw with hw | hw
    · exact wds_wlen hn hp l h.2.1 w hw
    · exact wds_wlen hn hp r h.2.2 w hw
  | .op s l r, h, w, hw => by
    rcases List.mem_cons.mp hw with rfl | hw
    · exact sg_len _ h.1
    rcases List.mem_append.mp hw with hw | hw
    · exact wds_wlen hn hp l h.2.1 w hw
    · exact wds_wlen hn hp r h.2.2 w hw
section
variable {P : Program} {w : World} {K : PySem.W.Frag} {mg : Str → Option Value} {base : Heap} {C_Cursor : Addr} {C_GameError : Addr} {C_BadText : Addr} {f_BadText___init : Addr} {T_SIGNS : Addr}
theorem same_all {f : Addr} {fd : FuncData} (D : C8.Def K mg "_law_same" s_law_same f fd) (b : Binds K fd ["actual", "due"] []) (T : Txt K mg C_Cursor C_GameError C_BadText T_SIGNS) : ∀ n, C8.Cal P w K mg base n "_law_same" (sp_law_same K n) []
  | 0 => ok_law_same0 D b
  | n + 1 => ok_law_same D b T (same_all D b T n)
theorem expr_all {f : Addr} {fd : FuncData} (D : C8.Def K mg "_law_expression" s_law_expression f fd) (b : Binds K fd ["pool", "names", "picks", "brain", "deep"] []) (T : Txt K mg C_Cursor C_GameError C_BadText T_SIGNS) (c1 : C8.Cal P w K mg base 1 "_law_draw" sp_law_draw []) (c2 : C8.Cal P w K mg base 1 "_law_spend" sp_law_spend []) (c3 : C8.Cal P w K mg base 2 "_law_number" sp_law_number []) : ∀ n, C8.Cal P w K mg base (n + 3) "_law_expression" (sp_expr K n) []
  | 0 => ok_law_expr0 D b
  | n + 1 => ok_law_expr D b T (expr_all D b T c1 c2 c3 n) (calUp c1 (by omega)) (calUp c2 (by omega)) (calUp c3 (by omega))
theorem ok_law {f : Addr} {fd : FuncData} (F : C8.Fun K "law" "law" s_law f fd) (T : Txt K mg C_Cursor C_GameError C_BadText T_SIGNS) {k : Nat} (c_law_pool : C8.Cal P w K mg base 1 "_law_pool" (sp_law_pool K) []) (c_law_draw : C8.Cal P w K mg base 1 "_law_draw" sp_law_draw [])
    (c_law_names : C8.Cal P w K mg base 4 "_law_names" sp_law_namesP []) (c_law_expression : C8.Cal P w K mg base k "_law_expression" (sp_expr K 13) []) (c_law_spine : C8.Cal P w K mg base k "_law_spine" (sp_spine K) []) (c_law_rows : C8.Cal P w K mg base k "_law_rows" (sp_rows K 13) []) (c_expression_words : C8.Cal P w K mg base k "expression_words" (sp_words K 13) [])
    (c_law_same : C8.Cal P w K mg base k "_law_same" (sp_law_same K 16) []) (c_law_some : C8.Cal P w K mg base k "_law_some" sp_some []) (c_Cursor_kw : MakK P w K mg base 1 "Cursor" C_Cursor (sp_cinit C_Cursor) 1 ["options", "variables", "sees"] (fun vs zs => vs ++ zs))
    (c_law_stranger : C8.Cal P w K mg base k "_law_stranger" sp_stranger []) (c_Cursor_take_word : MetX P w K mg base k C_Cursor "take_word" (sp_tword C_Cursor C_BadText) []) (c_law_read : C8.Cal P w K mg base k "_law_read" (sp_lread K C_Cursor 12) []) (c_law_wrong : C8.Cal P w K mg base k "_law_wrong" sp_wrong []) :
    FnOk P w K mg base C8.CX0 (k + 6) f fd ["script"] (sp_law K) := by
  refine C8.fn0 F sc_law (fun vs H Q E h => ?_) (fun cdv A outer s H vs Q E hr h => ?_)
  · obtain ⟨a, ns, rfl, _⟩ := h
    rfl
  · obtain ⟨a, ns, rfl, hS, kq⟩ := h
    refine ⟨_, (pss_cons (ps_set (i := 1) sc_law.nd rfl (by first | exact Or.inl rfl | exact Or.inr rfl) (pe_c c_law_pool hr (by first | exact Nat.le_refl _ | decide | omega) rfl (pa_cons (pv 0) (pa_cons (pe_ix ix_tup (pe_tup (pa_cons pe_int (pa_cons pe_int (pa_cons pe_int (pa_cons pe_int pa_nil))))) (pe_op op_mod (pe_callTy call_int1 (by rfl) T.n_int bo_int (pa_cons (pe_callB call_len_seq (by rfl) T.n_len bo_len (pa_cons (pv 0) pa_nil)) pa_nil)) pe_int) (fun _ _ => rfl)) pa_nil))))
(pss_cons (ps_set (i := 2) sc_law.nd rfl (by first | exact Or.inl rfl | exact Or.inr rfl) (pe_cmpR op_eq (pe_c c_law_draw hr (by first | exact Nat.le_refl _ | decide | omega) rfl (pa_cons (pv 1) (pa_cons pe_int pa_nil))) pe_int (nomark _)))
(pss_cons (ps_set (i := 3) sc_law.nd rfl (by first | exact Or.inl rfl | exact Or.inr rfl) (pe_c c_law_names hr (by first | exact Nat.le_refl _ | decide | omega) rfl (pa_cons (pv 1) (pa_cons pe_int pa_nil))))
(pss_cons (ps_set (i := 4) sc_law.nd rfl (by first | exact Or.inl rfl | exact Or.inr rfl) (pe_lst pa_nil))
(pss_cut (ps_if (PW.pt (pw_or (pt_not (pt_val (pv 2))) (pw_or1 (pt_cmpR op_eq (pe_c c_law_draw hr (by first | exact Nat.le_refl _ | decide | omega) rfl (pa_cons (pv 1) (pa_cons pe_int pa_nil))) pe_int (nomark _)))))
  (pss_one (ps_set (i := 4) sc_law.nd rfl (by first | exact Or.inl rfl | exact Or.inr rfl) (pe_c c_law_names hr (by first | exact Nat.le_refl _ | decide | omega) rfl (pa_cons (pv 1) (pa_cons pe_int pa_nil)))))
  pss_nil)
(pss_cons (ps_set (i := 5) sc_law.nd rfl (by first | exact Or.inl rfl | exact Or.inr rfl) (pe_c c_law_expression hr (by first | exact Nat.le_refl _ | decide | omega) rfl (pa_cons (pv 1) (pa_cons (pv 3) (pa_cons (pv 4) (pa_cons (pv 2) (pa_cons (pe_op op_add pe_int (pe_c c_law_draw hr (by first | exact Nat.le_refl _ | decide | omega) rfl (pa_cons (pv 1) (pa_cons pe_int pa_nil)))) pa_nil)))))))
(pss_cut (ps_if (pt_cmpR op_eq (pe_c c_law_draw hr (by first | exact Nat.le_refl _ | decide | omega) rfl (pa_cons (pv 1) (pa_cons pe_int pa_nil))) pe_int (nomark _))
  (pss_one (ps_set (i := 5) sc_law.nd rfl (by first | exact Or.inl rfl | exact Or.inr rfl) (pe_c c_law_spine hr (by first | exact Nat.le_refl _ | decide | omega) rfl (pa_cons (pv 1) (pa_cons (pv 3) (pa_cons (pv 4) (pa_cons (pv 2) (pa_cons (pe_op op_add pe_int (pe_c c_law_draw hr (by first | exact Nat.le_refl _ | decide | omega) rfl (pa_cons (pv 1) (pa_cons pe_int pa_nil)))) pa_nil))))))))
  pss_nil)
(pss_cons (ps_set (i := 6) sc_law.nd rfl (by first | exact Or.inl rfl | exact Or.inr rfl) (pe_c c_law_rows hr (by first | exact Nat.le_refl _ | decide | omega) rfl (pa_cons (pv 5) (pa_cons pe_int pa_nil))))
(pss_cons (ps_setLc (i := 7) (own := [("row", 21)]) (g := gName 21) (tt := tYes) rfl sc_law.nd rfl rfl (sw_true rfl rfl rfl (by decide +kernel)) (pi_list (pv 6)) (blkOk_by (N := ["script", "pool", "brain", "names", "picks", "due", "rows", "words", "before", "behind", "bound", "most", "sees", "cut", "strange", "menu", "passed", "cursor", "word", "actual", "k", "row"]) (sc := fnScope s_law) (by decide +kernel)) (fun _ _ _ _ _ => pg_name (i := 21) sc_law.nd rfl (Or.inl rfl)) (fun _ _ _ _ _ => pts_nil) (fun _ _ _ _ _ => (pe_ix (ix_tupK (K := K)) (pv 21) pe_int (fun _ _ => rfl))))
(pss_cut (ps_if (PW.pt (pw_and (pt_cmpR op_lt (pe_callB (cr_max rfl) (by rfl) T.n_max bo_max (pa_cons (pe_lc (own := [("row", 21)]) (g := gName 21) (tt := tYes) rfl sc_law.nd (pi_list (pv 6)) (blkOk_by (N := ["script", "pool", "brain", "names", "picks", "due", "rows", "words", "before", "behind", "bound", "most", "sees", "cut", "strange", "menu", "passed", "cursor", "word", "actual", "k", "row"]) (sc := fnScope s_law) (by decide +kernel)) (fun _ _ _ _ _ => pg_name (i := 21) sc_law.nd rfl (Or.inl rfl)) (fun _ _ _ _ _ => pts_nil) (fun _ _ _ _ _ => (pe_ix (ix_tupK (K := K)) (pv 21) pe_int (fun _ _ => rfl)))) pa_nil)) pe_int (nomark _)) (pw_and1 (pt_not (pt_val (pe_c c_law_same hr (by first | exact Nat.le_refl _ | decide | omega) rfl (pa_cons (pe_c c_expression_words hr (by first | exact Nat.le_refl _ | decide | omega) rfl (pa_cons (pv 5) pa_nil)) (pa_cons (pv 7) pa_nil))))))))
  (pss_one (ps_ret pe_bl))
  pss_nil)
(pss_cons (ps_set (i := 8) sc_law.nd rfl (by first | exact Or.inl rfl | exact Or.inr rfl) (pe_slice sl_list (pe_lst (pa_cons pe_str (pa_cons pe_str pa_nil))) po_none (po_some (pe_c c_law_draw hr (by first | exact Nat.le_refl _ | decide | omega) rfl (pa_cons (pv 1) (pa_cons pe_int pa_nil))))))
(pss_cons (ps_set (i := 9) sc_law.nd rfl (by first | exact Or.inl rfl | exact Or.inr rfl) (pe_slice sl_list (pe_lst (pa_cons pe_str (pa_cons pe_str (pa_cons pe_str (pa_cons pe_str pa_nil))))) po_none (po_some (pe_c c_law_draw hr (by first | exact Nat.le_refl _ | decide | omega) rfl (pa_cons (pv 1) (pa_cons pe_int pa_nil))))))
(pss_cons (ps_set (i := 10) sc_law.nd rfl (by first | exact Or.inl rfl | exact Or.inr rfl) (pe_ix ix_tup (pe_tup (pa_cons pe_non (pa_cons (pe_op op_add pe_int (pe_c c_law_draw hr (by first | exact Nat.le_refl _ | decide | omega) rfl (pa_cons (pv 1) (pa_cons pe_int pa_nil)))) (pa_cons pe_int pa_nil)))) (pe_c c_law_draw hr (by first | exact Nat.le_refl _ | decide | omega) rfl (pa_cons (pv 1) (pa_cons pe_int pa_nil))) (fun _ _ => rfl)))
(pss_cons (ps_set (i := 11) sc_law.nd rfl (by first | exact Or.inl rfl | exact Or.inr rfl) pe_int)
(pss_cut (ps_if (pt_cmpR op_notN (pv 10) pe_non (nomark _))
  (pss_one (ps_set (i := 11) sc_law.nd rfl (by first | exact Or.inl rfl | exact Or.inr rfl) (pv 10)))
  pss_nil)
(pss_cons (ps_set (i := 12) sc_law.nd rfl (by first | exact Or.inl rfl | exact Or.inr rfl) (pe_cmpR op_ne (pv 2) (pe_cmpR op_eq (pe_c c_law_draw hr (by first | exact Nat.le_refl _ | decide | omega) rfl (pa_cons (pv 1) (pa_cons pe_int pa_nil))) pe_int (nomark _)) (nomark _)))
(pss_cons (ps_set (i := 4) sc_law.nd rfl (by first | exact Or.inl rfl | exact Or.inr rfl) (pe_c c_law_some hr (by first | exact Nat.le_refl _ | decide | omega) rfl (pa_cons (pv 1) (pa_cons (pv 4) pa_nil))))
(pss_cons (ps_set (i := 3) sc_law.nd rfl (by first | exact Or.inl rfl | exact Or.inr rfl) (pe_c c_law_some hr (by first | exact Nat.le_refl _ | decide | omega) rfl (pa_cons (pv 1) (pa_cons (pv 3) pa_nil))))
(pss_cons (ps_set (i := 13) sc_law.nd rfl (by first | exact Or.inl rfl | exact Or.inr rfl) (pe_callB call_len_seq (by rfl) T.n_len bo_len (pa_cons (pv 7) pa_nil)))
(pss_cut (ps_if (pt_cmpR op_eq (pe_c c_law_draw hr (by first | exact Nat.le_refl _ | decide | omega) rfl (pa_cons (pv 1) (pa_cons pe_int pa_nil))) pe_int (nomark _))
  (pss_cons (ps_set (i := 13) sc_law.nd rfl (by first | exact Or.inl rfl | exact Or.inr rfl) (pe_c c_law_draw hr (by first | exact Nat.le_refl _ | decide | omega) rfl (pa_cons (pv 1) (pa_cons (pe_op op_add (pe_callB call_len_seq (by rfl) T.n_len bo_len (pa_cons (pv 7) pa_nil)) pe_int) pa_nil))))
  (pss_one (ps_set (i := 9) sc_law.nd rfl (by first | exact Or.inl rfl | exact Or.inr rfl) (pe_lst pa_nil))))
  pss_nil)
(pss_cons (ps_set (i := 14) sc_law.nd rfl (by first | exact Or.inl rfl | exact Or.inr rfl) (pv 13))
(pss_cut (ps_if (PW.pt (pw_and (pt_cmpR op_gt (pv 13) pe_int (nomark _)) (pw_and1 (pt_cmpR op_eq (pe_c c_law_draw hr (by first | exact Nat.le_refl _ | decide | omega) rfl (pa_cons (pv 1) (pa_cons pe_int pa_nil))) pe_int (nomark _)))))
  (pss_cons (ps_set (i := 14) sc_law.nd rfl (by first | exact Or.inl rfl | exact Or.inr rfl) (pe_c c_law_draw hr (by first | exact Nat.le_refl _ | decide | omega) rfl (pa_cons (pv 1) (pa_cons (pv 13) pa_nil))))
  (pss_cons (ps_set (i := 15) sc_law.nd rfl (by first | exact Or.inl rfl | exact Or.inr rfl) (pe_lst (pa_cons pe_str (pa_cons pe_str (pa_cons pe_str (pa_cons pe_str (pa_cons pe_str (pa_cons pe_str (pa_cons pe_str (pa_cons pe_str (pa_cons pe_str (pa_cons pe_str (pa_cons pe_str (pa_cons pe_str (pa_cons pe_str (pa_cons pe_str (pa_cons pe_str (pa_cons pe_str (pa_cons pe_str (pa_cons pe_str (pa_cons pe_str (pa_cons pe_str pa_nil))))))))))))))))))))))
  (pss_one (ps_asg (pe_ix ix_list (pv 15) (pe_c c_law_draw hr (by first | exact Nat.le_refl _ | decide | omega) rfl (pa_cons (pv 1) (pa_cons (pe_callB call_len_seq (by rfl) T.n_len bo_len (pa_cons (pv 15) pa_nil)) pa_nil))) (fun _ _ => rfl)) (pg_sub (pv 7) (pv 14) set_list)))))
  pss_nil)
(pss_cons (ps_set (i := 16) sc_law.nd rfl (by first | exact Or.inl rfl | exact Or.inr rfl) (pe_lst (pa_cons (pe_callTy call_list_of (by rfl) T.n_list bo_list (pa_cons (pv 4) pa_nil)) (pa_cons (pe_callTy call_list_of (by rfl) T.n_list bo_list (pa_cons (pv 3) pa_nil)) pa_nil))))
(pss_cons (ps_set (i := 17) sc_law.nd rfl (by first | exact Or.inl rfl | exact Or.inr rfl) (pe_mkK c_Cursor_kw hr (by first | exact Nat.le_refl _ | decide | omega) rfl (pa_cons (pe_op op_cat (pe_op op_cat (pv 8) (pe_slice sl_list (pv 7) po_none (po_some (pv 13)))) (pv 9)) pa_nil) (pk_cons (pe_ix ix_list (pv 16) pe_int (fun _ _ => rfl)) (pk_cons (pe_ix ix_list (pv 16) pe_int (fun _ _ => rfl)) (pk_cons (pv 12) pk_nil)))))
(pss_cons (ps_if (pt_not (pt_val (pe_c c_law_stranger hr (by first | exact Nat.le_refl _ | decide | omega) rfl (pa_cons (pe_op op_cat (pv 3) (pv 4)) (pa_cons (pv 16) pa_nil)))))
  (pss_one (ps_ret pe_bl))
  pss_nil)
(pss_cons (ps_for PassesOwn.never rfl (pi_list (pv 8)) (pg_name (i := 18) sc_law.nd rfl (by first | exact Or.inl rfl | exact Or.inr rfl))
  (pss_one (ps_expr (pe_mX c_Cursor_take_word hr (by first | exact Nat.le_refl _ | decide | omega) (passes_call takes0 (fun _ _ _ _ h => h)) (pv 17) (pa_cons (pv 18) pa_nil)))))
(pss_cut (ps_set (i := 19) sc_law.nd rfl (by first | exact Or.inl rfl | exact Or.inr rfl) (pe_c c_law_read hr (by first | exact Nat.le_refl _ | decide | omega) rfl (pa_cons (pv 17) (pa_cons (pv 10) pa_nil))))
(pss_cons (ps_for PassesOwn.never rfl (pi_range1 (by rfl) T.n_range (pa_cons (pv 13) pa_nil)) (pg_name (i := 20) sc_law.nd rfl (by first | exact Or.inl rfl | exact Or.inr rfl))
  (pss_one (ps_if (PW.pt (pw_or (pt_cmpR op_eq (pv 20) (pv 14) (nomark _)) (pw_or1 (pt_val (pe_c c_law_wrong hr (by first | exact Nat.le_refl _ | decide | omega) rfl (pa_cons (pe_ix ix_list (pv 6) (pv 20) (fun _ _ => rfl)) (pa_cons (pv 11) (pa_cons (pv 4) (pa_cons (pv 3) (pa_cons (pv 12) pa_nil))))))))))
    (pss_one (ps_ret (pe_c c_law_same hr (by first | exact Nat.le_refl _ | decide | omega) rfl (pa_cons (pv 19) (pa_cons (pe_tup (pa_cons pe_str (pa_cons (pe_op op_add (pe_callB call_len_seq (by rfl) T.n_len bo_len (pa_cons (pv 8) pa_nil)) (pv 20)) (pa_cons pe_bl pa_nil)))) pa_nil)))))
    pss_nil)))
(pss_cons (ps_if (pt_cmpR op_lt (pv 13) (pe_callB call_len_seq (by rfl) T.n_len bo_len (pa_cons (pv 7) pa_nil)) (nomark _))
  (pss_one (ps_ret (pe_c c_law_same hr (by first | exact Nat.le_refl _ | decide | omega) rfl (pa_cons (pv 19) (pa_cons (pe_tup (pa_cons pe_str (pa_cons (pe_op op_add (pe_callB call_len_seq (by rfl) T.n_len bo_len (pa_cons (pv 8) pa_nil)) (pv 13)) (pa_cons pe_bl pa_nil)))) pa_nil)))))
  pss_nil)
(pss_one (ps_ret (pe_and (pe_c c_law_same hr (by first | exact Nat.le_refl _ | decide | omega) rfl (pa_cons (pv 19) (pa_cons (pe_tup (pa_cons pe_str (pa_cons (pv 5) pa_nil))) pa_nil))) (pe_one (pe_c c_law_same hr (by first | exact Nat.le_refl _ | decide | omega) rfl (pa_cons (pe_fld (pv 17) rfl) (pa_cons (pe_op op_add (pe_callB call_len_seq (by rfl) T.n_len bo_len (pa_cons (pv 8) pa_nil)) (pe_callB call_len_seq (by rfl) T.n_len bo_len (pa_cons (pv 7) pa_nil))) pa_nil)))))))))))))))))))))))))))))))))))), ?_⟩
    refine ⟨_, rfl, by show 4 ≤ sizeLine; decide, fun t0 nt0 => ?_⟩
    have hS' := (Keep.new (W := []) (o := .tup [.int 40, .int 40, .int 40, .int 160]) nt0).seqL hS (by simp)
    obtain ⟨bu, hbu⟩ : ∃ b : Int, atI ([.int 40, .int 40, .int 40, .int 160] : List V) (((ns.map V.int).length : Int) % 4) = some (.int b) := by
      have : ((ns.map V.int).length : Int) % 4 = 0 ∨ ((ns.map V.int).length : Int) % 4 = 1 ∨ ((ns.map V.int).length : Int) % 4 = 2 ∨ ((ns.map V.int).length : Int) % 4 = 3 := by omega
      rcases this with e | e | e | e <;> rw [e] <;> exact ⟨_, rfl⟩
    refine ⟨_, rfl, _, _, rfl, .inl hS', .inl ⟨_, rfl, _, _, rfl, rfl, (by show (0 : Int) < 4; decide), _, _, _, _, rfl, rfl, SqT.of upd_same, hbu, ?_⟩⟩
    refine ⟨a, ns, bu, rfl, hS', fun p q H1 np P1 K1 => ?_⟩
    refine ⟨_, rfl, p, q, ns, 3, rfl, by decide, by decide, P1, fun z H2 z0 z1 P2 K2 => ⟨rfl, ?_⟩⟩
    generalize decide (V.int z = V.int 1) = br
    refine ⟨_, rfl, p, q, ns, 12, rfl, by decide, by decide, P2, fun la xs H3 nla ha hxl _ hxo hxg hxs P3 K3 => ?_⟩
    have S3 : LS H3 p q ns [(la, xs.map V.str)] (fun _ => True) := ⟨P3, fun z hz => by rw [List.mem_singleton.mp hz]; exact ⟨ha, P2.nep nla⟩, trivial, fun _ _ _ z => z⟩
    refine ⟨Nat.zero_le _, fun lb0 nlb0 => ?_⟩
    have S4 := S3.push (xs := []) nlb0
    refine ⟨fun σ H' => ∃ (lb : Addr) (ys : List Str), σ = [some (.ref a), some (.ref p), some (.bl br), some (.ref la), some (.ref lb), none, none, none, none, none, none, none, none, none, none, none, none, none, none, none, none, none] ∧ ys.length ≤ 6 ∧ (∀ y ∈ ys, GoodN y) ∧ (∀ y ∈ ys, y.length ≤ 20) ∧ LS H' p q ns [(lb, ys.map V.str), (la, xs.map V.str)] (fun _ => True), ?_, ?_⟩
    · have stay : ∃ (lb : Addr) (ys : List Str), ([some (.ref a), some (.ref p), some (.bl br), some (.ref la), some (.ref lb0), none, none, none, none, none, none, none, none, none, none, none, none, none, none, none, none, none] : List (Option V)) = [some (.ref a), some (.ref p), some (.bl br), some (.ref la), some (.ref lb), none, none, none, none, none, none, none, none, none, none, none, none, none, none, none, none, none] ∧ ys.length ≤ 6 ∧ (∀ y ∈ ys, GoodN y) ∧ (∀ y ∈ ys, y.length ≤ 20) ∧ LS (upd H3 lb0 (.lst [])) p q ns [(lb, ys.map V.str), (la, xs.map V.str)] (fun _ => True) :=
        ⟨lb0, [], rfl, by decide, (fun _ h => by cases h), (fun _ h => by cases h), S4⟩
      have some_ : ∀ {H4 : Hp}, LS H4 p q ns [(lb0, []), (la, xs.map V.str)] (fun _ => True) → sp_law_namesP [.ref p, .int 6] H4 (fun v H' => ∃ (lb : Addr) (ys : List Str), ([some (.ref a), some (.ref p), some (.bl br), some (.ref la), some v, none, none, none, none, none, none, none, none, none, none, none, none, none, none, none, none, none] : List (Option V)) = [some (.ref a), some (.ref p), some (.bl br), some (.ref la), some (.ref lb), none, none, none, none, none, none, none, none, none, none, none, none, none, none, none, none, none] ∧ ys.length ≤ 6 ∧ (∀ y ∈ ys, GoodN y) ∧ (∀ y ∈ ys, y.length ≤ 20) ∧ LS H' p q ns [(lb, ys.map V.str), (la, xs.map V.str)] (fun _ => True)) E :=
        fun S => ⟨p, q, ns, 6, rfl, by decide, by decide, S.P, fun l ys H5 nl hl hyl _ _ hyg hys P5 K5 => ⟨l, ys, rfl, hyl, hyg, hys, (S.got P5 K5 hl nl).sub (fun z hz => by
          rcases List.mem_cons.mp hz with h | h
          · rw [h]; exact List.mem_cons_self ..
          · exact List.mem_cons_of_mem _ (List.mem_cons_of_mem _ h))⟩⟩
      refine ⟨_, rfl, _, rfl, ?_⟩
      cases br with
      | false => exact iteT ⟨_, rfl, some_ S4⟩
      | true =>
        refine iteF ⟨_, rfl, p, q, ns, 2, rfl, by decide, by decide, S4.P, fun r H4 _ _ P4 K4 => ⟨rfl, _, rfl, iteD (fun _ => ?_) (fun _ => ?_)⟩⟩
        · exact ⟨_, rfl, some_ (S4.draw P4 K4)⟩
        · exact ⟨lb0, [], rfl, by decide, (fun _ h => by cases h), (fun _ h => by cases h), S4.draw P4 K4⟩
    rintro σ H5 ⟨lb, ys, rfl, hyl, hyg, hys, S5⟩
    refine ⟨_, rfl, _, rfl, _, rfl, _, rfl, _, rfl, p, q, ns, 13, rfl, by decide, by decide, S5.P, fun d0 H6 d00 d01 P6 K6 => ?_⟩
    have S6 := S5.draw P6 K6
    have hxl' : xs.length ≤ 12 := hxl
    have gets : ∀ {H : Hp} {ex : Hp → Prop} {Ls : List (Addr × List V)}, LS H p q ns (Ls ++ [(lb, ys.map V.str), (la, xs.map V.str)]) ex → (H la = some (.lst (xs.map V.str)) ∧ la ≠ p) ∧ (H lb = some (.lst (ys.map V.str)) ∧ lb ≠ p) :=
      fun S => ⟨S.L (la, xs.map V.str) (by simp), S.L (lb, ys.map V.str) (by simp)⟩
    obtain ⟨⟨a6, n6⟩, ⟨b6, m6⟩⟩ := gets (Ls := []) S6
    refine ⟨_, _, rfl, rfl, p, q, la, lb, ns, xs, ys, br, 1 + d0, rfl, by omega, by omega, P6, a6, n6, b6, m6, by omega, by omega, fun r1 e1 H7 E7 ok7 dp7 P7 K7 => ?_⟩
    have S7 : LS H7 p q ns [(lb, ys.map V.str), (la, xs.map V.str)] (fun H => EV K H r1 e1) := (S6.draw P7 K7).setEx E7 fun _ _ k z => z.tk k
    refine ⟨fun σ H' => ∃ (r : V) (e : Ex), σ = [some (.ref a), some (.ref p), some (.bl br), some (.ref la), some (.ref lb), some r, none, none, none, none, none, none, none, none, none, none, none, none, none, none, none, none] ∧ e.Ok xs ys ∧ e.dep ≤ 13 ∧ LS H' p q ns [(lb, ys.map V.str), (la, xs.map V.str)] (fun H => EV K H r e), ?_, ?_⟩
    · refine ⟨_, rfl, p, q, ns, 5, rfl, by decide, by decide, S7.P, fun z8 H8 z0 z1 P8 K8 => ⟨rfl, _, rfl, iteD (fun _ => ?_) (fun _ => ?_)⟩⟩
      · have S8 := S7.draw P8 K8
        refine ⟨_, rfl, _, rfl, _, rfl, _, rfl, _, rfl, p, q, ns, 5, rfl, by decide, by decide, S8.P, fun d9 H9 d90 d91 P9 K9 => ?_⟩
        have S9 := S8.draw P9 K9
        obtain ⟨⟨a9, n9⟩, ⟨b9, m9⟩⟩ := gets (Ls := []) S9
        refine ⟨_, _, rfl, rfl, p, q, la, lb, ns, xs, ys, br, 9 + d9, rfl, by omega, by omega, P9, a9, n9, b9, m9, by omega, by omega, fun r2 e2 H10 E10 ok10 dp10 P10 K10 => ?_⟩
        exact ⟨r2, e2, rfl, ok10, by omega, (S9.draw P10 K10).setEx E10 fun _ _ k z => z.tk k⟩
      · exact ⟨r1, e1, rfl, ok7, by omega, S7.draw P8 K8⟩
    rintro σ H8 ⟨r, e, rfl, hok, hdp, S8⟩
    refine ⟨_, rfl, r, e, xs, ys, 1, rfl, S8.X, hok, hdp, by decide, fun l6 us H9 n6 h6 R9 K9 => ?_⟩
    have S9 : LS H9 p q ns [(l6, us), (lb, ys.map V.str), (la, xs.map V.str)] (fun H => EV K H r e ∧ Rws H us (rowsE e 1)) := ((S8.keep0 K9).add h6 (S8.nep n6)).and (ex' := fun H => Rws H us (rowsE e 1)) R9 fun _ _ k z => z.tk k
    refine ⟨_, rfl, _, rfl, ⟨_, SqL.of h6⟩, fun D nD => ?_⟩
    have nDp := S9.P.nep nD
    have nDq := S9.P.neq nD
    have off9 := S9.notNew nD
    have hus := R9.len
    have hrl := rows_len e 1
    have hwl : (wds e).length ≤ 30000 := wds_small (by omega)
    refine lc_list (K := K) (a := l6) (xs := us) (fun i H' => H' D = some (.lst (((wds e).take i).map V.str)) ∧ LS H' p q ns [(l6, us), (lb, ys.map V.str), (la, xs.map V.str)] (fun H => EV K H r e ∧ Rws H us (rowsE e 1))) ⟨upd_same, S9.new nD⟩ ?_ ?_ ?_
    · rintro i H _ ⟨_, S⟩
      exact SqL.of (S.L (l6, us) (by simp)).1
    · rintro i x H hx ⟨hD, S⟩
      obtain ⟨t, row, rfl, hrow, ht⟩ := S.X.2.get hx
      have hi : i < (wds e).length := by
        rcases Nat.lt_or_ge i (rowsE e 1).length with z | z
        · omega
        · rw [List.getElem?_eq_none z] at hrow; cases hrow
      have hw : (wds e)[i]? = some row.1 := by rw [← wds_rows e 1, List.getElem?_map, hrow]; rfl
      refine ⟨rfl, yes_then ⟨_, rfl, _, _, _, _, rfl, rfl, SqT.of ht, rfl, _, hD, by rw [List.length_map, List.length_take]; exact smallL (by omega), ?_, S.store nDp nDq off9 hD⟩⟩
      rw [upd_same, List.take_add_one, hw]; simp
    rintro H10 ⟨h7, S10'⟩
    rw [hus, hrl, List.take_length] at h7
    have S10 : LS H10 p q ns [(D, (wds e).map V.str), (l6, us), (lb, ys.map V.str), (la, xs.map V.str)] (fun H => EV K H r e ∧ Rws H us (rowsE e 1)) := S10'.add h7 nDp
    refine ⟨fun σ H' => σ = [some (.ref a), some (.ref p), some (.bl br), some (.ref la), some (.ref lb), some r, some (.ref l6), some (.ref D), none, none, none, none, none, none, none, none, none, none, none, none, none, none] ∧ LS H' p q ns [(D, (wds e).map V.str), (l6, us), (lb, ys.map V.str), (la, xs.map V.str)] (fun H => EV K H r e ∧ Rws H us (rowsE e 1)), ?_, ?_⟩
    · refine ⟨_, rfl, _, rfl, ⟨_, SqL.of (S10.L (l6, us) (by simp)).1⟩, fun D2 nD2 => ?_⟩
      have nD2p := S10.P.nep nD2
      have nD2q := S10.P.neq nD2
      have off10 := S10.notNew nD2
      refine lc_list (K := K) (a := l6) (xs := us) (fun i H' => H' D2 = some (.lst ((((rowsE e 1).map (·.2.1)).take i).map V.int)) ∧ LS H' p q ns [(D, (wds e).map V.str), (l6, us), (lb, ys.map V.str), (la, xs.map V.str)] (fun H => EV K H r e ∧ Rws H us (rowsE e 1))) ⟨upd_same, S10.new nD2⟩ ?_ ?_ ?_
      · rintro i H _ ⟨_, S⟩
        exact SqL.of (S.L (l6, us) (by simp)).1
      · rintro i x H hx ⟨hD, S⟩
        obtain ⟨t, row, rfl, hrow, ht⟩ := S.X.2.get hx
        have hi : i < (wds e).length := by
          rcases Nat.lt_or_ge i (rowsE e 1).length with z | z
          · omega
          · rw [List.getElem?_eq_none z] at hrow; cases hrow
        have hw : ((rowsE e 1).map (·.2.1))[i]? = some row.2.1 := by rw [List.getElem?_map, hrow]; rfl
        refine ⟨rfl, yes_then ⟨_, rfl, _, _, _, _, rfl, rfl, SqT.of ht, rfl, _, hD, by rw [List.length_map, List.length_take]; exact smallL (by omega), ?_, S.store nD2p nD2q off10 hD⟩⟩
        rw [upd_same, List.take_add_one, hw]; simp
      rintro H11 ⟨h8, S11⟩
      rw [hus, List.take_of_length_le (by rw [List.length_map]; exact Nat.le_refl _)] at h8
      have hwp : 0 < (wds e).length := by cases e <;> exact Nat.succ_pos _
      refine ⟨_, _, rfl, SqL.of h8, by rw [List.length_map, hrl]; exact hwp, fun m hm1 hm2 => ?_⟩
      have fin : ∀ {H12 : Hp}, Keep [] H11 H12 → LS H12 p q ns [(D, (wds e).map V.str), (l6, us), (lb, ys.map V.str), (la, xs.map V.str)] (fun H => EV K H r e ∧ Rws H us (rowsE e 1)) := fun k => S11.keep0 k
      refine ⟨_, _, rfl, rfl, _, rfl, iteD (fun _ => ?_) (fun _ => ⟨rfl, S11⟩)⟩
      refine ⟨_, rfl, r, e, xs, ys, rfl, S11.X.1, hok, hdp, by decide, fun l12 H12 n12 h12 K12 => ?_⟩
      have S12 := S11.keep0 K12
      refine ⟨_, rfl, _, _, rfl, ?_, ?_⟩
      · refine .inr ⟨l12, D, _, _, rfl, rfl, .inl ⟨h12, (S12.L (D, (wds e).map V.str) (by simp)).1⟩, rfl, by rw [List.length_map]; exact smallM (by omega), fun i x y h1 h2 => ?_⟩
        rw [h1] at h2; cases h2
        obtain ⟨z, _, rfl⟩ := strs_get h1
        exact sameV_atom (.inl ⟨_, rfl⟩)
      · exact ⟨_, rfl, iteF ⟨rfl, S12⟩⟩
    rintro σ H11 ⟨rfl, S11⟩
    refine ⟨by show 2 ≤ sizeLine; decide, fun t1 nt1 => ?_⟩
    have S12 := S11.new (o := .lst [.str "pay", .str "7"]) nt1
    have nt1p := S11.P.nep nt1
    refine ⟨_, rfl, p, q, ns, 3, rfl, by decide, by decide, S12.P, fun d13 H13 u0 u1 P13 K13 => ?_⟩
    have ht1 := K13 _ _ (upd_same (H := H11) (a := t1) (o := .lst [.str "pay", .str "7"])) (by simpa using nt1p)
    have S13 := S12.draw P13 K13
    refine ⟨_, rfl, _, _, rfl, SqL.of ht1, fun lc nlc => ?_⟩
    have D13 : ∀ {H' : Hp} {ls : List (Addr × List V)} {ex : Hp → Prop}, LS H' p q ns ls ex → (D, (wds e).map V.str) ∈ ls → ∀ {y : Addr}, H' y = none → y ≠ D := fun {H' ls ex} S hm {y} hy => (ne_of_none (S.L _ hm).1 hy).symm
    have dla : la ≠ D := (off9 (la, xs.map V.str) (by simp)).2
    have dlb : lb ≠ D := (off9 (lb, ys.map V.str) (by simp)).2
    have dl6 : l6 ≠ D := (off9 (l6, us) (by simp)).2
    have dlc : lc ≠ D := D13 S13 (by simp) nlc
    have S14 := S13.push (xs := ((["pay", "7"] : List Str).take d13.toNat).map V.str) nlc
    have ec : cutV [.str "pay", .str "7"] none (some d13) = ((["pay", "7"] : List Str).take d13.toNat).map V.str := cutToS (xs := ["pay", "7"]) u0 (by show d13.toNat ≤ 2; omega)
    rw [ec]
    have hbs1 : ((["pay", "7"] : List Str).take d13.toNat).length ≤ 2 := by rw [List.length_take]; exact Nat.min_le_right _ _
    have hbs2 : ∀ w ∈ (["pay", "7"] : List Str).take d13.toNat, w.length ≤ 1000 := fun w hw => by
      have : ∀ w ∈ (["pay", "7"] : List Str), w.length ≤ 1000 := by decide
      exact this w (List.mem_of_mem_take hw)
    revert hbs1 hbs2 S14
    generalize (["pay", "7"] : List Str).take d13.toNat = bs
    intro S14 hbs1 hbs2
    refine ⟨by show 4 ≤ sizeLine; decide, fun t2 nt2 => ?_⟩
    have S15 := S14.new (o := .lst [.str "5", .str "end", .str "+", .str "?"]) nt2
    have nt2p := S14.P.nep nt2
    refine ⟨_, rfl, p, q, ns, 5, rfl, by decide, by decide, S15.P, fun d16 H16 v0 v1 P16 K16 => ?_⟩
    have ht2 := K16 _ _ (upd_same (a := t2) (o := .lst [.str "5", .str "end", .str "+", .str "?"])) (by simpa using nt2p)
    have S16 := S15.draw P16 K16
    refine ⟨_, rfl, _, _, rfl, SqL.of ht2, fun ld nld => ?_⟩
    have dld : ld ≠ D := D13 S16 (by simp) nld
    have S17 := S16.push (xs := ((["5", "end", "+", "?"] : List Str).take d16.toNat).map V.str) nld
    have ed : cutV [.str "5", .str "end", .str "+", .str "?"] none (some d16) = ((["5", "end", "+", "?"] : List Str).take d16.toNat).map V.str := cutToS (xs := ["5", "end", "+", "?"]) v0 (by show d16.toNat ≤ 4; omega)
    rw [ed]
    have hhs1 : ((["5", "end", "+", "?"] : List Str).take d16.toNat).length ≤ 4 := by rw [List.length_take]; exact Nat.min_le_right _ _
    have hhs2 : ∀ w ∈ (["5", "end", "+", "?"] : List Str).take d16.toNat, w.length ≤ 1000 := fun w hw => by
      have : ∀ w ∈ (["5", "end", "+", "?"] : List Str), w.length ≤ 1000 := by decide
      exact this w (List.mem_of_mem_take hw)
    revert hhs1 hhs2 S17
    generalize (["5", "end", "+", "?"] : List Str).take d16.toNat = hs
    intro S17 hhs1 hhs2
    refine ⟨_, rfl, p, q, ns, 12, rfl, by decide, by decide, S17.P, fun d18 H18 w0 w1 P18 K18 => ?_⟩
    have S18 := S17.draw P18 K18
    refine ⟨_, _, rfl, rfl, by show 3 ≤ sizeLine; decide, fun t3 nt3 => ?_⟩
    have S19 := S18.new (o := .tup [.non, .int (1 + d18), .int 12]) nt3
    have nt3p := S18.P.nep nt3
    refine ⟨_, rfl, p, q, ns, 3, rfl, by decide, by decide, S19.P, fun d20 H20 y0 y1 P20 K20 => ?_⟩
    have ht3 := K20 _ _ (upd_same (a := t3) (o := .tup [.non, .int (1 + d18), .int 12])) (by simpa using nt3p)
    have S20 := S19.draw P20 K20
    obtain ⟨bv, bound, hbv, hbb, hb1, hb2⟩ : ∃ (bv : V) (bound : Int), atI ([.non, .int (1 + d18), .int 12] : List V) d20 = some bv ∧ ((bv = .non ∧ bound = 12) ∨ bv = .int bound) ∧ 1 ≤ bound ∧ bound ≤ 12 := by
      have : d20 = 0 ∨ d20 = 1 ∨ d20 = 2 := by omega
      rcases this with h | h | h <;> subst h
      · exact ⟨.non, 12, rfl, .inl ⟨rfl, rfl⟩, by decide, by decide⟩
      · exact ⟨.int (1 + d18), 1 + d18, rfl, .inr rfl, by omega, by omega⟩
      · exact ⟨.int 12, 12, rfl, .inr rfl, by decide, by decide⟩
    refine ⟨_, _, _, _, rfl, rfl, SqT.of ht3, hbv, ?_⟩
    refine ⟨fun σ H' => σ = [some (.ref a), some (.ref p), some (.bl br), some (.ref la), some (.ref lb), some r, some (.ref l6), some (.ref D), some (.ref lc), some (.ref ld), some bv, some (.int bound), none, none, none, none, none, none, none, none, none, none] ∧ H' = H20, ?_, ?_⟩
    · refine ⟨_, rfl, rfl, _, rfl, iteN (fun h => ?_) (fun h => ?_)⟩
      · have e : bv = .int bound := hbb.elim (fun z => absurd z.1 h) id
        exact ⟨_, rfl, by rw [e]; rfl, rfl⟩
      · have e : bound = 12 := hbb.elim (fun z => z.2) (fun z => by rw [z] at h; cases h)
        exact ⟨by rw [e]; rfl, rfl⟩
    rintro σ H21 ⟨rfl, rfl⟩
    refine ⟨_, rfl, _, rfl, p, q, ns, 6, rfl, by decide, by decide, S20.P, fun d22 H22 y0 y1 P22 K22 => ?_⟩
    have S22 := S20.draw P22 K22
    refine ⟨rfl, rfl, ?_⟩
    generalize (!decide (V.bl br = V.bl (decide (V.int d22 = V.int 1)))) = sees
    have gl : ∀ {H : Hp} {ex : Hp → Prop} {ls : List (Addr × List V)} {l : Addr} {zs : List V}, LS H p q ns ls ex → (l, zs) ∈ ls → H l = some (.lst zs) ∧ l ≠ p := fun S h => S.L _ h
    obtain ⟨b22, m22⟩ := gl (l := lb) (zs := ys.map V.str) S22 (by simp)
    refine ⟨_, rfl, _, rfl, p, q, lb, ns, ys, rfl, b22, m22, by omega, S22.P, fun lb2 ys2 H23 hl2 hb2' hy2 hys2 P23 K23 => ?_⟩
    have nb2 : lb2 ≠ p := hl2.elim (fun z => by rw [z]; exact m22) (fun z => S22.P.nep z)
    have db2 : lb2 ≠ D := hl2.elim (fun z => by rw [z]; exact dlb) (D13 S22 (by simp))
    have S23 := (S22.draw P23 K23).add hb2' nb2
    obtain ⟨a23, n23⟩ := gl (l := la) (zs := xs.map V.str) S23 (by simp)
    refine ⟨_, rfl, _, rfl, p, q, la, ns, xs, rfl, a23, n23, by omega, S23.P, fun la2 xs2 H24 hl3 ha2' hx2 hxs2 P24 K24 => ?_⟩
    have na2 : la2 ≠ p := hl3.elim (fun z => by rw [z]; exact n23) (fun z => S23.P.nep z)
    have da2 : la2 ≠ D := hl3.elim (fun z => by rw [z]; exact dla) (D13 S23 (by simp))
    have S24 : LS H24 p q ns [(la2, xs2.map V.str), (lb2, ys2.map V.str), (ld, hs.map V.str), (lc, bs.map V.str), (D, (wds e).map V.str), (l6, us)] (fun H => EV K H r e ∧ Rws H us (rowsE e 1)) :=
      ((S23.draw P24 K24).add ha2' na2).sub (fun z hz => by simp only [List.mem_cons, List.not_mem_nil, or_false] at hz ⊢; rcases hz with h | h | h | h | h | h <;> simp [h])
    have hx2' : xs2.length ≤ 12 := by omega
    have hy2' : ys2.length ≤ 6 := by omega
    have gx2 : ∀ x ∈ xs2, GoodN x := fun x h => hxg x (hxs2 x h)
    have gy2 : ∀ x ∈ ys2, GoodN x := fun x h => hyg x (hys2 x h)
    refine ⟨_, rfl, _, _, rfl, .inl (SqL.of (gl (l := D) (zs := (wds e).map V.str) S24 (by simp)).1), ?_⟩
    rw [List.length_map]
    refine ⟨fun σ H' => ∃ (c : Nat) (ld2 : Addr) (hs2 : List Str), σ = [some (.ref a), some (.ref p), some (.bl br), some (.ref la2), some (.ref lb2), some r, some (.ref l6), some (.ref D), some (.ref lc), some (.ref ld2), some bv, some (.int bound), some (.bl sees), some (.int (c : Int)), none, none, none, none, none, none, none, none] ∧ ld2 ≠ D ∧ c ≤ (wds e).length ∧ (c < (wds e).length → hs2 = []) ∧ hs2.length ≤ 4 ∧ (∀ w ∈ hs2, w.length ≤ 1000) ∧
      LS H' p q ns [(la2, xs2.map V.str), (lb2, ys2.map V.str), (ld2, hs2.map V.str), (lc, bs.map V.str), (D, (wds e).map V.str), (l6, us)] (fun H => EV K H r e ∧ Rws H us (rowsE e 1)), ?_, ?_⟩
    · refine ⟨_, rfl, p, q, ns, 5, rfl, by decide, by decide, S24.P, fun d25 H25 y0 y1 P25 K25 => ⟨rfl, _, rfl, iteD (fun _ => ?_) (fun _ => ?_)⟩⟩
      · have S25 := S24.draw P25 K25
        refine ⟨_, rfl, _, rfl, _, _, rfl, .inl (SqL.of (gl (l := D) (zs := (wds e).map V.str) S25 (by simp)).1), _, _, rfl, rfl, p, q, ns, _, rfl, by omega, by rw [List.length_map]; omega, S25.P, fun d26 H26 y0 y1 P26 K26 => ?_⟩
        have S26 := S25.draw P26 K26
        rw [List.length_map] at y1
        refine ⟨Nat.zero_le _, fun l27 n27 => ?_⟩
        have S27 := S26.push (xs := []) n27
        obtain ⟨c, rfl⟩ := Int.eq_ofNat_of_zero_le y0
        exact ⟨c, l27, [], rfl, D13 S26 (by simp) n27, by omega, fun _ => rfl, by decide, (fun _ h => by cases h), S27.sub (fun z hz => by simp only [List.mem_cons, List.not_mem_nil, or_false] at hz ⊢; rcases hz with h | h | h | h | h | h <;> simp [h])⟩
      · exact ⟨(wds e).length, ld, hs, rfl, dld, Nat.le_refl _, fun h => absurd h (Nat.lt_irrefl _), hhs1, hhs2, S24.draw P25 K25⟩
    rintro σ H27 ⟨c, ld2, hs2, rfl, dld2, hc, hch, hhs1, hhs2, S27⟩
    refine ⟨_, rfl, ?_⟩
    refine ⟨fun σ H' => ∃ (st : Nat) (ws : List Str) (o15 : Option V), σ = [some (.ref a), some (.ref p), some (.bl br), some (.ref la2), some (.ref lb2), some r, some (.ref l6), some (.ref D), some (.ref lc), some (.ref ld2), some bv, some (.int bound), some (.bl sees), some (.int (c : Int)), some (.int (st : Int)), o15, none, none, none, none, none, none] ∧ ws.length = (wds e).length ∧ (∀ i, i ≠ st → ws[i]? = (wds e)[i]?) ∧
      ((st < c ∧ ∃ u, ws[st]? = some u ∧ Strange ys2 xs2 u) ∨ (st = c ∧ ws = wds e)) ∧ (∀ w ∈ ws, w.length ≤ 1000) ∧
      LS H' p q ns [(la2, xs2.map V.str), (lb2, ys2.map V.str), (ld2, hs2.map V.str), (lc, bs.map V.str), (D, ws.map V.str), (l6, us)] (fun H => EV K H r e ∧ Rws H us (rowsE e 1)), ?_, ?_⟩
    · have stay : ∀ {H' : Hp}, LS H' p q ns [(la2, xs2.map V.str), (lb2, ys2.map V.str), (ld2, hs2.map V.str), (lc, bs.map V.str), (D, (wds e).map V.str), (l6, us)] (fun H => EV K H r e ∧ Rws H us (rowsE e 1)) → ∃ (st : Nat) (ws : List Str) (o15 : Option V), ([some (.ref a), some (.ref p), some (.bl br), some (.ref la2), some (.ref lb2), some r, some (.ref l6), some (.ref D), some (.ref lc), some (.ref ld2), some bv, some (.int bound), some (.bl sees), some (.int (c : Int)), some (.int (c : Int)), none, none, none, none, none, none, none] : List (Option V)) = [some (.ref a), some (.ref p), some (.bl br), some (.ref la2), some (.ref lb2), some r, some (.ref l6), some (.ref D), some (.ref lc), some (.ref ld2), some bv, some (.int bound), some (.bl sees), some (.int (c : Int)), some (.int (st : Int)), o15, none, none, none, none, none, none] ∧ ws.length = (wds e).length ∧ (∀ i, i ≠ st → ws[i]? = (wds e)[i]?) ∧
        ((st < c ∧ ∃ u, ws[st]? = some u ∧ Strange ys2 xs2 u) ∨ (st = c ∧ ws = wds e)) ∧ (∀ w ∈ ws, w.length ≤ 1000) ∧
        LS H' p q ns [(la2, xs2.map V.str), (lb2, ys2.map V.str), (ld2, hs2.map V.str), (lc, bs.map V.str), (D, ws.map V.str), (l6, us)] (fun H => EV K H r e ∧ Rws H us (rowsE e 1)) :=
        fun S => ⟨c, wds e, none, rfl, rfl, fun _ _ => rfl, .inr ⟨rfl, rfl⟩, wds_wlen hxs hys e hok, S⟩
      refine ⟨_, rfl, _, _, rfl, rfl, _, rfl, iteD (fun hc0 => ?_) (fun _ => stay S27)⟩
      refine ⟨_, rfl, p, q, ns, 3, rfl, by decide, by decide, S27.P, fun d28 H28 y0 y1 P28 K28 => ⟨rfl, _, rfl, iteD (fun _ => ?_) (fun _ => stay (S27.draw P28 K28))⟩⟩
      have S28 := S27.draw P28 K28
      refine ⟨_, rfl, _, rfl, p, q, ns, _, rfl, by omega, by omega, S28.P, fun d29 H29 s0 s1 P29 K29 => ?_⟩
      have S29 := S28.draw P29 K29
      obtain ⟨st, rfl⟩ := Int.eq_ofNat_of_zero_le s0
      refine ⟨by show 20 ≤ sizeLine; decide, fun lm nlm => ?_⟩
      have S30 := S29.push (xs := mnL.map V.str) nlm
      refine ⟨_, rfl, _, rfl, _, rfl, _, _, rfl, .inl (SqL.of upd_same), p, q, ns, 20, rfl, by decide, by decide, S30.P, fun d31 H31 y0 y1 P31 K31 => ?_⟩
      have S31 := S30.draw P31 K31
      obtain ⟨mi, rfl⟩ := Int.eq_ofNat_of_zero_le y0
      have hmi : mi < mnL.length := by show mi < 20; omega
      have hD31 := gl (l := D) (zs := (wds e).map V.str) S31 (by simp)
      have hlm31 := gl (l := lm) (zs := mnL.map V.str) S31 (by simp)
      refine ⟨_, _, _, _, rfl, rfl, SqL.of hlm31.1, atI_nat (by rw [List.getElem?_map, List.getElem?_eq_getElem hmi]; rfl), ?_⟩
      have hstl : st < ((wds e).map V.str).length := by rw [List.length_map]; omega
      refine ⟨_, rfl, _, rfl, D, _, _, st, rfl, rfl, hD31.1, ixN_n hstl, ?_⟩
      have hmem : mnL[mi] ∈ mnL := List.getElem_mem hmi
      refine ⟨st, (wds e).set st mnL[mi], _, rfl, List.length_set .., fun i hi => List.getElem?_set_ne (Ne.symm hi), .inl ⟨by omega, mnL[mi], List.getElem?_set_self (by rw [List.length_map] at hstl; exact hstl), (mn_ok _ hmem).1, fun z => mn_bad hmem (gx2 _ z), fun z => mn_bad hmem (gy2 _ z)⟩, fun w hw => ?_, ?_⟩
      · rcases List.mem_or_eq_of_mem_set hw with h | h
        · exact wds_wlen hxs hys e hok w h
        · rw [h]; exact (mn_ok _ hmem).2.1
      · have e7 : ((wds e).map V.str).set st (V.str mnL[mi]) = ((wds e).set st mnL[mi]).map V.str := by rw [List.map_set]
        rw [e7]
        have S32 : LS (upd H31 D (.lst (((wds e).set st mnL[mi]).map V.str))) p q ns [(la2, xs2.map V.str), (lb2, ys2.map V.str), (ld2, hs2.map V.str), (lc, bs.map V.str), (l6, us)] (fun H => EV K H r e ∧ Rws H us (rowsE e 1)) := S31.store nDp nDq (fun z hz => by
          simp only [List.mem_cons, List.not_mem_nil, or_false] at hz ⊢
          rcases hz with h | h | h | h | h
          · exact ⟨by simp [h], by rw [h]; exact da2⟩
          · exact ⟨by simp [h], by rw [h]; exact db2⟩
          · exact ⟨by simp [h], by rw [h]; exact dld2⟩
          · exact ⟨by simp [h], by rw [h]; exact dlc⟩
          · exact ⟨by simp [h], by rw [h]; exact dl6⟩) hD31.1
        exact (S32.add upd_same nDp).sub (fun z hz => by simp only [List.mem_cons, List.not_mem_nil, or_false] at hz ⊢; rcases hz with h | h | h | h | h | h <;> simp [h])
    rintro σ H30 ⟨st, ws, o15, rfl, hwl2, hws, hst, hww, S30⟩
    have hla := gl (l := la2) (zs := xs2.map V.str) S30 (by simp)
    have hlb := gl (l := lb2) (zs := ys2.map V.str) S30 (by simp)
    refine ⟨_, rfl, _, _, rfl, .inl (SqL.of hlb.1), fun pl npl => ?_⟩
    have S31 := S30.push (xs := ys2.map V.str) npl
    refine ⟨_, rfl, _, _, rfl, .inl (SqL.of (gl (l := la2) (zs := xs2.map V.str) S31 (by simp)).1), fun nl nnl => ?_⟩
    have hpn : nl ≠ pl := ((S31.notNew nnl) (pl, ys2.map V.str) (by simp)).2.symm
    have S32 := S31.push (xs := xs2.map V.str) nnl
    refine ⟨by show 2 ≤ sizeLine; decide, fun ps nps => ?_⟩
    have hps1 : pl ≠ ps := ((S32.notNew nps) (pl, ys2.map V.str) (by simp)).2
    have hps2 : nl ≠ ps := ((S32.notNew nps) (nl, xs2.map V.str) (by simp)).2
    have S33 := S32.push (xs := [.ref pl, .ref nl]) nps
    refine ⟨_, rfl, _, rfl, _, rfl, _, rfl, _, _, rfl, SqL.of (gl (l := D) (zs := ws.map V.str) S33 (by simp)).1, fun sl nsl => ?_⟩
    have ec2 : cutV (ws.map V.str) none (some (c : Int)) = (ws.take c).map V.str := cutToS (Int.natCast_nonneg c) (by show c ≤ _; omega)
    rw [ec2]
    have S34 := S33.push (xs := (ws.take c).map V.str) nsl
    have szm : sizeLine = 16777216 := sizeLine_eq
    have htk : (ws.take c).length ≤ 30000 := by rw [List.length_take]; omega
    refine ⟨_, _, _, _, rfl, rfl, (gl (l := lc) (zs := bs.map V.str) S34 (by simp)).1, (gl (l := sl) (zs := (ws.take c).map V.str) S34 (by simp)).1, by rw [List.length_map, List.length_map]; omega, fun c1 nc1 => ?_⟩
    have S35 := S34.push (xs := bs.map V.str ++ (ws.take c).map V.str) nc1
    refine ⟨_, rfl, _, _, _, _, rfl, rfl, (gl (l := c1) (zs := bs.map V.str ++ (ws.take c).map V.str) S35 (by simp)).1, (gl (l := ld2) (zs := hs2.map V.str) S35 (by simp)).1, by rw [List.length_append, List.length_map, List.length_map, List.length_map]; omega, fun c2 nc2 => ?_⟩
    obtain ⟨W, hW⟩ : ∃ W, W = bs ++ ws.take c ++ hs2 := ⟨_, rfl⟩
    have eW : bs.map V.str ++ (ws.take c).map V.str ++ hs2.map V.str = W.map V.str := by rw [hW, List.map_append, List.map_append]
    rw [eW]
    have S36 := S35.push (xs := W.map V.str) nc2
    refine ⟨_, rfl, _, _, _, _, rfl, rfl, SqL.of (gl (l := ps) (zs := [.ref pl, .ref nl]) S36 (by simp)).1, rfl, ?_⟩
    refine ⟨_, rfl, _, _, _, _, rfl, rfl, SqL.of (gl (l := ps) (zs := [.ref pl, .ref nl]) S36 (by simp)).1, rfl, ?_⟩
    refine ⟨_, rfl, rfl, rfl, fun x dx nx nd ne => ?_⟩
    refine mk_cur (ws := W) (gl (l := c2) (zs := W.map V.str) S36 (by simp)).1 (gl (l := pl) (zs := ys2.map V.str) S36 (by simp)).1 (gl (l := nl) (zs := xs2.map V.str) S36 (by simp)).1 nx nd fun lw lo lv H37 fw fo fv C37 K37 => ⟨rfl, ?_⟩
    have S37 := S36.keep0 K37
    have L37 : ∀ {l : Addr} {zs : List V}, (l, zs) ∈ [(la2, xs2.map V.str), (lb2, ys2.map V.str), (lc, bs.map V.str), (D, ws.map V.str), (l6, us)] → (l, zs) ∈ [(la2, xs2.map V.str), (lb2, ys2.map V.str), (ld2, hs2.map V.str), (lc, bs.map V.str), (D, ws.map V.str), (l6, us)] := fun hz => by
      simp only [List.mem_cons, List.not_mem_nil, or_false] at hz ⊢
      rcases hz with h | h | h | h | h <;> simp [h]
    refine ⟨_, rfl, _, rfl, la2, lb2, _, _, rfl, rfl, (gl (l := la2) (zs := xs2.map V.str) S37 (by simp)).1, (gl (l := lb2) (zs := ys2.map V.str) S37 (by simp)).1, by rw [List.length_map, List.length_map]; omega, fun kn nkn => ?_⟩
    have S38 := S37.push (xs := xs2.map V.str ++ ys2.map V.str) nkn
    have hWok : WsOk W := by
      refine ⟨fun w hw => ?_, by rw [hW, List.length_append, List.length_append]; omega⟩
      rw [hW] at hw
      rcases List.mem_append.mp hw with hw | hw
      · rcases List.mem_append.mp hw with hw | hw
        · exact hbs2 w hw
        · exact hww w (List.mem_of_mem_take hw)
      · exact hhs2 w hw
    have nWL : ∀ z ∈ [(la2, xs2.map V.str), (lb2, ys2.map V.str), (lc, bs.map V.str), (D, ws.map V.str), (l6, us)], z.1 ∉ [pl, nl] := fun z hz q => by
      have h1 := (S30.notNew npl z (L37 hz)).2
      have h2 := (S31.notNew nnl z (List.mem_cons_of_mem _ (L37 hz))).2
      rcases List.mem_cons.mp q with q | q
      · exact h1 q
      · exact h2 (List.mem_singleton.mp q)
    refine ⟨_, rfl, kn, ps, pl, nl, xs2 ++ ys2, ys2, xs2, rfl, by rw [List.map_append]; exact upd_same, by rw [List.length_append]; omega, (gl (l := ps) (zs := [.ref pl, .ref nl]) S38 (by simp)).1, (gl (l := pl) (zs := ys2.map V.str) S38 (by simp)).1, (gl (l := nl) (zs := xs2.map V.str) S38 (by simp)).1, hpn.symm, hps1.symm, hps2.symm, fun x h => List.mem_append_right _ h, fun x h => List.mem_append_left _ h, fun x h => (gx2 x h).plain, by omega, by omega, fun H39 K39 => ?_⟩
    refine ⟨_, rfl, iteF ?_⟩
    have TK39 : TK (upd H37 kn (.lst (xs2.map V.str ++ ys2.map V.str))) H39 := TK.keep K39 fun b hb => by
      rcases List.mem_cons.mp hb with rfl | hb
      · exact ⟨_, (gl (l := b) (zs := ys2.map V.str) S38 (by simp)).1⟩
      · rw [List.mem_singleton.mp hb]; exact ⟨_, (gl (l := nl) (zs := xs2.map V.str) S38 (by simp)).1⟩
    have pW : p ∉ [pl, nl] := fun q => by
      rcases List.mem_cons.mp q with q | q
      · exact S30.P.nep npl q.symm
      · exact S31.P.nep nnl (List.mem_singleton.mp q).symm
    have qW : q ∉ [pl, nl] := fun h => by
      rcases List.mem_cons.mp h with h | h
      · exact S30.P.neq npl h.symm
      · exact S31.P.neq nnl (List.mem_singleton.mp h).symm
    have S39 : LS H39 p q ns [(la2, xs2.map V.str), (lb2, ys2.map V.str), (lc, bs.map V.str), (D, ws.map V.str), (l6, us)] (fun H => EV K H r e ∧ Rws H us (rowsE e 1)) :=
      S38.keepW K39 pW qW TK39 fun z hz => ⟨List.mem_append_right [_, _, _, _, _, _, _] (L37 hz), nWL z hz⟩
    have cW : ∀ {y : Addr}, upd (upd (upd (upd (upd (upd H30 pl (.lst (ys2.map V.str))) nl (.lst (xs2.map V.str))) ps (.lst [.ref pl, .ref nl])) sl (.lst ((ws.take c).map V.str))) c1 (.lst (bs.map V.str ++ (ws.take c).map V.str))) c2 (.lst (W.map V.str)) y = none → y ∉ [pl, nl] := fun {y} hy q => by
      rcases List.mem_cons.mp q with q | q
      · have := (gl (l := pl) (zs := ys2.map V.str) S36 (by simp)).1
        rw [q, this] at hy; cases hy
      · have := (gl (l := nl) (zs := xs2.map V.str) S36 (by simp)).1
        rw [List.mem_singleton.mp q, this] at hy; cases hy
    have C39 := (C37.keep0 (Keep.new (W := []) (o := .lst (xs2.map V.str ++ ys2.map V.str)) nkn)).keep K39 (cW nx) (cW fw) (cW fo) (cW fv)
    have xp : x ≠ p := S36.P.nep nx
    have xq : x ≠ q := S36.P.neq nx
    have xL : ∀ z ∈ [(la2, xs2.map V.str), (lb2, ys2.map V.str), (lc, bs.map V.str), (D, ws.map V.str), (l6, us)], z.1 ∉ [x] := fun z hz q => by
      exact (S36.notNew nx z (List.mem_append_right [_, _, _, _, _, _] (L37 hz))).2 (List.mem_singleton.mp q)
    have keepX : ∀ {H1 H2 : Hp} {i : Nat}, CurAt C_Cursor H1 x lw lo lv W ys2 xs2 sees i → LS H1 p q ns [(la2, xs2.map V.str), (lb2, ys2.map V.str), (lc, bs.map V.str), (D, ws.map V.str), (l6, us)] (fun H => EV K H r e ∧ Rws H us (rowsE e 1)) → Keep [x] H1 H2 → LS H2 p q ns [(la2, xs2.map V.str), (lb2, ys2.map V.str), (lc, bs.map V.str), (D, ws.map V.str), (l6, us)] (fun H => EV K H r e ∧ Rws H us (rowsE e 1)) :=
      fun C S k => S.keepW k (by simpa using xp.symm) (by simpa using xq.symm) (C.tk1 k) fun z hz => ⟨hz, xL z hz⟩
    have Wb : ∀ {i : Nat} {w : Str}, bs[i]? = some w → W[i]? = some w := fun {i w} h => by
      have hi : i < bs.length := by
        rcases Nat.lt_or_ge i bs.length with z | z
        · exact z
        · rw [List.getElem?_eq_none z] at h; cases h
      rw [hW, List.append_assoc, List.getElem?_append_left hi]; exact h
    have Ww : ∀ {i : Nat}, i < c → W[bs.length + i]? = ws[i]? := fun {i} h => by
      rw [hW, List.append_assoc, List.getElem?_append_right (by omega), Nat.add_sub_cancel_left, List.getElem?_append_left (by rw [List.length_take]; omega), List.getElem?_take_of_lt h]
    refine ⟨_, rfl, lc, rfl, ⟨_, SqL.of (gl (l := lc) (zs := bs.map V.str) S39 (by simp)).1⟩, for_list (K := K) (a := lc) (xs := bs.map V.str) (fun (i : Nat) (σ : List (Option V)) (H' : Hp) => ∃ o18 : Option V, σ = [some (.ref a), some (.ref p), some (.bl br), some (.ref la2), some (.ref lb2), some r, some (.ref l6), some (.ref D), some (.ref lc), some (.ref ld2), some bv, some (.int bound), some (.bl sees), some (.int (c : Int)), some (.int (st : Int)), o15, some (.ref ps), some (.ref x), o18, none, none, none] ∧ CurAt C_Cursor H' x lw lo lv W ys2 xs2 sees i ∧
      LS H' p q ns [(la2, xs2.map V.str), (lb2, ys2.map V.str), (lc, bs.map V.str), (D, ws.map V.str), (l6, us)] (fun H => EV K H r e ∧ Rws H us (rowsE e 1))) ⟨none, rfl, C39, S39⟩ ?_ ?_ ?_⟩
    · rintro i σ H' _ ⟨o18, rfl, C, S⟩
      exact SqL.of (gl (l := lc) (zs := bs.map V.str) S (by simp)).1
    · rintro i v σ H' hv ⟨o18, rfl, C, S⟩
      obtain ⟨w, hw, rfl⟩ := strs_get hv
      obtain ⟨dx, hxo⟩ := C.o
      refine ⟨_, rfl, x, dx, _, rfl, hxo, rfl, _, rfl, x, lw, lo, lv, W, ys2, xs2, sees, i, w, rfl, C, hWok, fun _ H'' C' K' => ?_, fun h => absurd (Wb hw) h⟩
      exact ⟨_, rfl, C', keepX C S K'⟩
    rintro σ H40 ⟨o18, rfl, C40, S40⟩
    rw [List.length_map] at C40
    have hm : bound = 1 + ((bound.toNat - 1 : Nat) : Int) := by omega
    have hxn : ∀ x ∈ xs2, Plain x := fun x h => (gx2 x h).plain
    have hnum : ∀ n : Int, numO (tS n) = some n → tS n ∉ xs2 := fun n h z => (gx2 _ z).not_num h rfl
    have hex : ExP e := exP_of hxg e hok
    refine ⟨fun σ H' => ∃ t : Addr, σ = [some (.ref a), some (.ref p), some (.bl br), some (.ref la2), some (.ref lb2), some r, some (.ref l6), some (.ref D), some (.ref lc), some (.ref ld2), some bv, some (.int bound), some (.bl sees), some (.int (c : Int)), some (.int (st : Int)), o15, some (.ref ps), some (.ref x), o18, some (.ref t), none, none] ∧
      LS H' p q ns [(la2, xs2.map V.str), (lb2, ys2.map V.str), (lc, bs.map V.str), (D, ws.map V.str), (l6, us)] (fun H => EV K H r e ∧ Rws H us (rowsE e 1)) ∧
      ((∃ e' a' v, rd W ys2 xs2 sees (bound.toNat - 1) bs.length = .inr (e', a') ∧ EV K H' v e' ∧ H' t = some (.tup [.str "read", v]) ∧ CurAt C_Cursor H' x lw lo lv W ys2 xs2 sees a') ∨ (∃ j : Nat, rd W ys2 xs2 sees (bound.toNat - 1) bs.length = .inl j ∧ H' t = some (.tup [.str "refused", .int j, .bl true]))), ?_, ?_⟩
    · refine ⟨_, rfl, _, rfl, x, lw, lo, lv, W, ys2, xs2, sees, bs.length, bv, bound, rfl, hbb, C40, hWok, hb1, by omega, fun e' a' v t H41 h1 h2 h3 h4 h5 K41 => ?_, fun j t H41 h1 h2 h3 K41 => ?_⟩
      · exact ⟨t, rfl, keepX C40 S40 K41, .inl ⟨e', a', v, h1, h2, h3, h4⟩⟩
      · exact ⟨t, rfl, keepX C40 S40 K41, .inr ⟨j, h1, h2⟩⟩
    rintro σ H41 ⟨t, rfl, S41, hres⟩
    have same3 : ∀ {H' : Hp} {j : Nat} {z : Int} {Q' : VK}, H41 t = some (.tup [.str "refused", .int j, .bl true]) → H' = H41 → z = (j : Int) → (∀ H, Q' (.bl true) H) → 3 ≤ sizeLine ∧ ∀ u, H' u = none → sp_law_same K 16 ([.ref t, .ref u] ++ []) (upd H' u (.tup [.str "refused", .int z, .bl true])) Q' C8.E0 :=
      fun ht e1 e2 k => ⟨by show 3 ≤ sizeLine; decide, fun u nu => ⟨_, _, rfl, by
        subst e1 e2
        exact same_atoms (K := K) (Keep.new (W := []) nu _ _ ht (by simp)) upd_same (by show 3 ≤ sizeLine; decide) (refused_atoms _ _ _), k _⟩⟩
    have fit : ∀ {i : Nat} {row : Str × Int × Str}, i < c → i ≠ st → (rowsE e 1)[i]? = some row → W[bs.length + i]? = some row.1 := fun {i row} h1 h2 h3 => by
      rw [Ww h1, hws i h2, ← wds_rows e 1, List.getElem?_map, h3]; rfl
    refine ⟨_, rfl, _, rfl, by omega, by omega, for_range (lo := 0) (n := (c : Int).toNat) (fun (i : Nat) (σ : List (Option V)) (H' : Hp) => ∃ o20 : Option V, σ = [some (.ref a), some (.ref p), some (.bl br), some (.ref la2), some (.ref lb2), some r, some (.ref l6), some (.ref D), some (.ref lc), some (.ref ld2), some bv, some (.int bound), some (.bl sees), some (.int (c : Int)), some (.int (st : Int)), o15, some (.ref ps), some (.ref x), o18, some (.ref t), o20, none] ∧ H' = H41 ∧
      ∀ j, j < i → j ≠ st ∧ ∀ row, (rowsE e 1)[j]? = some row → ¬ wrongR ys2 xs2 sees bound row) ⟨none, rfl, rfl, fun j hj => absurd hj (Nat.not_lt_zero _)⟩ ?_ ?_⟩
    · rintro i σ H' hi ⟨o20, rfl, rfl, hin⟩
      have hi : i < c := hi
      have e0 : (0 : Int) + (i : Int) = (i : Int) := by omega
      rw [e0]
      have hir : i < (rowsE e 1).length := by omega
      obtain ⟨row, hrow⟩ : ∃ row, (rowsE e 1)[i]? = some row := ⟨_, List.getElem?_eq_getElem hir⟩
      have before_ok : ∀ j' r', j' < i → (rowsE e 1)[j']? = some r' → fitAt W ys2 xs2 sees bound (bs.length + j') r' := fun j' r' h1 h2 => ⟨fit (by omega) (hin j' h1).1 h2, (hin j' h1).2 r' h2⟩
      have ref_ : badAt W ys2 xs2 sees bound (bs.length + i) row → H' t = some (.tup [.str "refused", .int ((bs.length + i : Nat) : Int), .bl true]) := fun hb => by
        have hr := rd_bad hxn hnum e (bound.toNat - 1) bs.length 1 i row hex hm before_ok hrow hb
        rcases hres with ⟨e', a', v, h1, _⟩ | ⟨j, h1, h2⟩
        · rw [h1] at hr; cases hr
        · rw [h1] at hr; cases hr; exact h2
      have hlc := (gl (l := lc) (zs := bs.map V.str) S41 (by simp)).1
      refine ⟨_, rfl, _, rfl, rfl, _, rfl, iteD (fun hk => ?_) (fun hk => ?_)⟩
      · have hk : i = st := by have := V.int.inj hk; omega
        have hu : ∃ u, ws[st]? = some u ∧ Strange ys2 xs2 u := hst.elim (fun z => z.2) (fun z => by omega)
        obtain ⟨u, hu1, hu2⟩ := hu
        have hb : badAt W ys2 xs2 sees bound (bs.length + i) row := .inr (.inl ⟨u, by rw [Ww hi, hk]; exact hu1, hu2⟩)
        refine ⟨_, rfl, _, rfl, _, _, rfl, .inl (SqL.of hlc), _, rfl, _, _, rfl, rfl, same3 (ref_ hb) rfl (by rw [List.length_map]; omega) kq⟩
      · have hk : i ≠ st := fun z => hk (by rw [z])
        have hus2 : i < us.length := by omega
        obtain ⟨t', row', e1', e2', e3'⟩ := S41.X.2.get (List.getElem?_eq_getElem hus2)
        have er : row' = row := by rw [hrow] at e2'; exact (Option.some.inj e2').symm
        subst er
        refine ⟨_, rfl, _, rfl, _, _, _, _, rfl, rfl, SqL.of (gl (l := l6) (zs := us) S41 (by simp)).1, atI_nat (List.getElem?_eq_getElem hus2), ?_⟩
        rw [e1']
        refine ⟨_, rfl, _, rfl, _, rfl, _, rfl, t', lb2, la2, row', bound, ys2, xs2, sees, rfl, e3', (gl (l := lb2) (zs := ys2.map V.str) S41 (by simp)).1, (gl (l := la2) (zs := xs2.map V.str) S41 (by simp)).1, fun hw => ?_, fun hw => ?_⟩
        · refine ⟨_, rfl, iteT ?_⟩
          have hb : badAt W ys2 xs2 sees bound (bs.length + i) row' := .inr (.inr ⟨fit hi hk hrow, hw⟩)
          refine ⟨_, rfl, _, rfl, _, _, rfl, .inl (SqL.of hlc), _, rfl, _, _, rfl, rfl, same3 (ref_ hb) rfl (by rw [List.length_map]; omega) kq⟩
        · refine ⟨_, rfl, iteF ⟨_, rfl, rfl, fun j hj => ?_⟩⟩
          by_cases q : j = i
          · subst q
            exact ⟨hk, fun row2 h2 => by rw [hrow] at h2; cases h2; exact hw⟩
          · exact hin j (by omega)
    rintro σ H' ⟨o20, rfl, rfl, hin⟩
    have hin : ∀ j, j < c → j ≠ st ∧ ∀ row, (rowsE e 1)[j]? = some row → ¬ wrongR ys2 xs2 sees bound row := hin
    have hsc : st = c ∧ ws = wds e := hst.elim (fun z => absurd rfl (hin st z.1).1) id
    have hlc := (gl (l := lc) (zs := bs.map V.str) S41 (by simp)).1
    have hD := (gl (l := D) (zs := ws.map V.str) S41 (by simp)).1
    have fits : ∀ j' r', j' < c → (rowsE e 1)[j']? = some r' → fitAt W ys2 xs2 sees bound (bs.length + j') r' := fun j' r' h1 h2 => ⟨fit h1 (hin j' h1).1 h2, (hin j' h1).2 r' h2⟩
    refine ⟨_, rfl, _, rfl, _, _, rfl, .inl (SqL.of hD), _, _, rfl, rfl, _, rfl, iteD (fun hlt => ?_) (fun hlt => ?_)⟩
    · rw [List.length_map] at hlt
      have hcl : c < (wds e).length := by omega
      have hir : c < (rowsE e 1).length := by omega
      obtain ⟨row, hrow⟩ : ∃ row, (rowsE e 1)[c]? = some row := ⟨_, List.getElem?_eq_getElem hir⟩
      have hb : badAt W ys2 xs2 sees bound (bs.length + c) row := .inl (by
        rw [hW, hch hcl, List.append_nil, List.getElem?_eq_none]
        rw [List.length_append, List.length_take]; omega)
      have hr := rd_bad hxn hnum e (bound.toNat - 1) bs.length 1 c row hex hm fits hrow hb
      have ht : H' t = some (.tup [.str "refused", .int ((bs.length + c : Nat) : Int), .bl true]) := by
        rcases hres with ⟨e', a', v, h1, _⟩ | ⟨j, h1, h2⟩
        · rw [h1] at hr; cases hr
        · rw [h1] at hr; cases hr; exact h2
      refine ⟨_, rfl, _, rfl, _, _, rfl, .inl (SqL.of hlc), _, rfl, _, _, rfl, rfl, same3 ht rfl (by rw [List.length_map]; omega) kq⟩
    · rw [List.length_map] at hlt
      have hcl : c = (wds e).length := by omega
      have hr := rd_ok hxn hnum e (bound.toNat - 1) bs.length 1 hex hm (fun j row h => fits j row (by
        rcases Nat.lt_or_ge j c with z | z
        · exact z
        · rw [List.getElem?_eq_none (by omega)] at h; cases h) h)
      obtain ⟨v, hv, ht, hC⟩ : ∃ v, EV K H' v e ∧ H' t = some (.tup [.str "read", v]) ∧ CurAt C_Cursor H' x lw lo lv W ys2 xs2 sees (bs.length + (wds e).length) := by
        rcases hres with ⟨e', a', v, h1, h2, h3, h4⟩ | ⟨j, h1, h2⟩
        · rw [h1] at hr; cases hr; exact ⟨v, h2, h3, h4⟩
        · rw [h1] at hr; cases hr
      refine ⟨_, rfl, _, rfl, by show 2 ≤ sizeLine; decide, fun u nu => ?_⟩
      have S42 := S41.new (o := .tup [.str "read", r]) nu
      refine ⟨_, _, rfl, sameT (n := 15) (.inl (Keep.new (W := []) nu _ _ ht (by simp))) (.inl upd_same) (.cons (sameV_atom (.inl ⟨_, rfl⟩)) (.cons (same_ev (n := 14) (hv.tk (TK.new nu)) S42.X.1 (by omega)) .nil)) (by show 2 ≤ 1000000; decide), ?_⟩
      refine ⟨_, rfl, iteT ?_⟩
      have hC := hC.keep0 (Keep.new (o := .tup [.str "read", r]) nu)
      obtain ⟨dx, hxo⟩ := hC.o
      refine ⟨_, rfl, x, C_Cursor, dx, _, _, rfl, hxo, T.cl_Cursor, T.a_Cursor_at, rfl, _, rfl, _, _, rfl, .inl (SqL.of (gl (l := lc) (zs := bs.map V.str) S42 (by simp)).1), _, rfl, _, _, rfl, .inl (SqL.of (gl (l := D) (zs := ws.map V.str) S42 (by simp)).1), _, _, rfl, rfl, ?_⟩
      refine ⟨_, _, rfl, ?_, kq _⟩
      have ee : ((bs.map V.str).length : Int) + ((ws.map V.str).length : Int) = ((bs.length + (wds e).length : Nat) : Int) := by
        rw [List.length_map, List.length_map]; omega
      show SameV K 16 _ _ (V.int (((bs.map V.str).length : Int) + ((ws.map V.str).length : Int)))
      rw [ee]
      exact sameV_atom (.inr (.inl ⟨_, rfl⟩))
end

theorem all_mk {l : PySem.W.OpenLaw} {w : World} {K : PySem.W.Frag} {h : Heap} {mg : Str → Option Value} {fa : Addr} (X : K.In h) (G : h.Ns mainGlobals mg) (hfa : mg "law" = some (.ref fa))
    {f_law_pool : Addr} {od_law_pool an_law_pool : Option Addr} {sl_law_pool : Array (Option Value)} {oc_law_pool kV_law_pool dc_law_pool pm_law_pool cd_law_pool ct_law_pool : Value}
    {f_law_draw : Addr} {od_law_draw an_law_draw : Option Addr} {sl_law_draw : Array (Option Value)} {oc_law_draw kV_law_draw dc_law_draw pm_law_draw cd_law_draw ct_law_draw : Value}
    {f_law_spend : Addr} {od_law_spend an_law_spend : Option Addr} {sl_law_spend : Array (Option Value)} {oc_law_spend kV_law_spend dc_law_spend pm_law_spend cd_law_spend ct_law_spend : Value}
    {f_law_few : Addr} {od_law_few an_law_few : Option Addr} {sl_law_few : Array (Option Value)} {oc_law_few kV_law_few dc_law_few pm_law_few cd_law_few ct_law_few : Value}
    {f_law_number : Addr} {od_law_number an_law_number : Option Addr} {sl_law_number : Array (Option Value)} {oc_law_number kV_law_number dc_law_number pm_law_number cd_law_number ct_law_number : Value}
    {f_law_same : Addr} {od_law_same an_law_same : Option Addr} {sl_law_same : Array (Option Value)} {oc_law_same kV_law_same dc_law_same pm_law_same cd_law_same ct_law_same : Value}
    {f_law_keys : Addr} {od_law_keys an_law_keys : Option Addr} {sl_law_keys : Array (Option Value)} {oc_law_keys kV_law_keys dc_law_keys pm_law_keys cd_law_keys ct_law_keys : Value}
    {f_law_name : Addr} {od_law_name an_law_name : Option Addr} {sl_law_name : Array (Option Value)} {oc_law_name kV_law_name dc_law_name pm_law_name cd_law_name ct_law_name : Value}
    {f_law_names : Addr} {od_law_names an_law_names : Option Addr} {sl_law_names : Array (Option Value)} {oc_law_names kV_law_names dc_law_names pm_law_names cd_law_names ct_law_names : Value}
    {f_number_of : Addr} {od_number_of an_number_of : Option Addr} {sl_number_of : Array (Option Value)} {oc_number_of kV_number_of dc_number_of pm_number_of cd_number_of ct_number_of : Value}
    {f_read_expression : Addr} {od_read_expression an_read_expression : Option Addr} {sl_read_expression : Array (Option Value)} {oc_read_expression dc_read_expression pm_read_expression cd_read_expression ct_read_expression : Value} {KD_read_expression : Addr}
    {tk_read_expression : Tok}
    {f_expression_words : Addr} {od_expression_words an_expression_words : Option Addr} {sl_expression_words : Array (Option Value)} {oc_expression_words kV_expression_words dc_expression_words pm_expression_words cd_expression_words ct_expression_words : Value}
    {f_law_expression : Addr} {od_law_expression an_law_expression : Option Addr} {sl_law_expression : Array (Option Value)} {oc_law_expression kV_law_expression dc_law_expression pm_law_expression cd_law_expression ct_law_expression : Value}
    {f_law_rows : Addr} {od_law_rows an_law_rows : Option Addr} {sl_law_rows : Array (Option Value)} {oc_law_rows kV_law_rows dc_law_rows pm_law_rows cd_law_rows ct_law_rows : Value}
    {f_law_wrong : Addr} {od_law_wrong an_law_wrong : Option Addr} {sl_law_wrong : Array (Option Value)} {oc_law_wrong kV_law_wrong dc_law_wrong pm_law_wrong cd_law_wrong ct_law_wrong : Value}
    {f_law_read : Addr} {od_law_read an_law_read : Option Addr} {sl_law_read : Array (Option Value)} {oc_law_read kV_law_read dc_law_read pm_law_read cd_law_read ct_law_read : Value}
    {f_law_stranger : Addr} {od_law_stranger an_law_stranger : Option Addr} {sl_law_stranger : Array (Option Value)} {oc_law_stranger kV_law_stranger dc_law_stranger pm_law_stranger cd_law_stranger ct_law_stranger : Value}
    {f_law_some : Addr} {od_law_some an_law_some : Option Addr} {sl_law_some : Array (Option Value)} {oc_law_some kV_law_some dc_law_some pm_law_some cd_law_some ct_law_some : Value}
    {f_law_spine : Addr} {od_law_spine an_law_spine : Option Addr} {sl_law_spine : Array (Option Value)} {oc_law_spine kV_law_spine dc_law_spine pm_law_spine cd_law_spine ct_law_spine : Value}
    {f_law : Addr} {od_law an_law : Option Addr} {sl_law : Array (Option Value)} {oc_law kV_law dc_law pm_law cd_law ct_law : Value}
    {C_Cursor : Addr}
    {f_Cursor___init : Addr} {od_Cursor___init an_Cursor___init : Option Addr} {sl_Cursor___init : Array (Option Value)} {oc_Cursor___init dc_Cursor___init pm_Cursor___init cd_Cursor___init ct_Cursor___init : Value} {KD_Cursor___init : Addr}
    {E_Cursor___init_options : Addr}
    {E_Cursor___init_variables : Addr}
    {f_Cursor_word : Addr} {od_Cursor_word an_Cursor_word : Option Addr} {sl_Cursor_word : Array (Option Value)} {oc_Cursor_word kV_Cursor_word dc_Cursor_word pm_Cursor_word cd_Cursor_word ct_Cursor_word : Value}
    {p_Cursor_word : Addr} {rest_Cursor_word : List Value}
    {f_Cursor_take_word : Addr} {od_Cursor_take_word an_Cursor_take_word : Option Addr} {sl_Cursor_take_word : Array (Option Value)} {oc_Cursor_take_word kV_Cursor_take_word dc_Cursor_take_word pm_Cursor_take_word cd_Cursor_take_word ct_Cursor_take_word : Value}
    {f_Cursor_take_number : Addr} {od_Cursor_take_number an_Cursor_take_number : Option Addr} {sl_Cursor_take_number : Array (Option Value)} {oc_Cursor_take_number kV_Cursor_take_number dc_Cursor_take_number pm_Cursor_take_number cd_Cursor_take_number ct_Cursor_take_number : Value}
    {f_Cursor_take_name : Addr} {od_Cursor_take_name an_Cursor_take_name : Option Addr} {sl_Cursor_take_name : Array (Option Value)} {oc_Cursor_take_name kV_Cursor_take_name dc_Cursor_take_name pm_Cursor_take_name cd_Cursor_take_name ct_Cursor_take_name : Value}
    {C_GameError : Addr}
    {C_BadText : Addr}
    {nm_BadText q_BadText : Str} {N_BadText : Addr} {bs_BadText : List Value} {sn_BadText : List Str} {sub_BadText : List Value} {ab_BadText : Bool} {col_BadText : Option Bool} {dd_BadText : Option Addr} {m0_BadText m1_BadText m2_BadText m3_BadText m5_BadText : Option Value}
    {f_BadText___init cda_BadText___init cc_BadText___init : Addr} {od_BadText___init an_BadText___init cld_BadText___init cdd_BadText___init : Option Addr} {sl_BadText___init csl_BadText___init ccs_BadText___init : Array (Option Value)} {vs_BadText___init : Array Value} {oc_BadText___init dc_BadText___init pm_BadText___init ct_BadText___init cl_BadText___init ccl_BadText___init : Value} {file_BadText___init : Str} {tf_BadText___init : Tok}
    {t_GREATEST : Tok}
    {t_DEEPEST_EXPRESSION : Tok}
    {t_DIGITS : Tok}
    {T_SIGNS : Addr} {nn_SIGNS : Nat} {sl_SIGNS : Array (Option Value)} {t_SIGNS0 t_SIGNS1 t_SIGNS2 t_SIGNS3 t_SIGNS4 t_SIGNS5 t_SIGNS6 : Tok}
    (a_law_pool : PySem.W.nsIn K mainGlobals "_law_pool" = some (some (.ref f_law_pool))) (l_law_pool : K.lookup f_law_pool = some ⟨oc_law_pool, od_law_pool, .func (PySem.W.fnOf "_law_pool" "_law_pool" (fnArgs s_law_pool) (fnBody s_law_pool) (fnScope s_law_pool) .none kV_law_pool dc_law_pool pm_law_pool an_law_pool cd_law_pool ct_law_pool), sl_law_pool⟩) (c_law_pool : PySem.W.codeIn K cd_law_pool "_law_pool" = true) (k_law_pool : PySem.W.keepIn K (.ref f_law_pool) = true)
    (a_law_draw : PySem.W.nsIn K mainGlobals "_law_draw" = some (some (.ref f_law_draw))) (l_law_draw : K.lookup f_law_draw = some ⟨oc_law_draw, od_law_draw, .func (PySem.W.fnOf "_law_draw" "_law_draw" (fnArgs s_law_draw) (fnBody s_law_draw) (fnScope s_law_draw) .none kV_law_draw dc_law_draw pm_law_draw an_law_draw cd_law_draw ct_law_draw), sl_law_draw⟩) (c_law_draw : PySem.W.codeIn K cd_law_draw "_law_draw" = true) (k_law_draw : PySem.W.keepIn K (.ref f_law_draw) = true)
    (a_law_spend : PySem.W.nsIn K mainGlobals "_law_spend" = some (some (.ref f_law_spend))) (l_law_spend : K.lookup f_law_spend = some ⟨oc_law_spend, od_law_spend, .func (PySem.W.fnOf "_law_spend" "_law_spend" (fnArgs s_law_spend) (fnBody s_law_spend) (fnScope s_law_spend) .none kV_law_spend dc_law_spend pm_law_spend an_law_spend cd_law_spend ct_law_spend), sl_law_spend⟩) (c_law_spend : PySem.W.codeIn K cd_law_spend "_law_spend" = true) (k_law_spend : PySem.W.keepIn K (.ref f_law_spend) = true)
    (a_law_few : PySem.W.nsIn K mainGlobals "_law_few" = some (some (.ref f_law_few))) (l_law_few : K.lookup f_law_few = some ⟨oc_law_few, od_law_few, .func (PySem.W.fnOf "_law_few" "_law_few" (fnArgs s_law_few) (fnBody s_law_few) (fnScope s_law_few) .none kV_law_few dc_law_few pm_law_few an_law_few cd_law_few ct_law_few), sl_law_few⟩) (c_law_few : PySem.W.codeIn K cd_law_few "_law_few" = true) (k_law_few : PySem.W.keepIn K (.ref f_law_few) = true)
    (a_law_number : PySem.W.nsIn K mainGlobals "_law_number" = some (some (.ref f_law_number))) (l_law_number : K.lookup f_law_number = some ⟨oc_law_number, od_law_number, .func (PySem.W.fnOf "_law_number" "_law_number" (fnArgs s_law_number) (fnBody s_law_number) (fnScope s_law_number) .none kV_law_number dc_law_number pm_law_number an_law_number cd_law_number ct_law_number), sl_law_number⟩) (c_law_number : PySem.W.codeIn K cd_law_number "_law_number" = true) (k_law_number : PySem.W.keepIn K (.ref f_law_number) = true)
    (a_law_same : PySem.W.nsIn K mainGlobals "_law_same" = some (some (.ref f_law_same))) (l_law_same : K.lookup f_law_same = some ⟨oc_law_same, od_law_same, .func (PySem.W.fnOf "_law_same" "_law_same" (fnArgs s_law_same) (fnBody s_law_same) (fnScope s_law_same) .none kV_law_same dc_law_same pm_law_same an_law_same cd_law_same ct_law_same), sl_law_same⟩) (c_law_same : PySem.W.codeIn K cd_law_same "_law_same" = true) (k_law_same : PySem.W.keepIn K (.ref f_law_same) = true)
    (a_law_keys : PySem.W.nsIn K mainGlobals "_law_keys" = some (some (.ref f_law_keys))) (l_law_keys : K.lookup f_law_keys = some ⟨oc_law_keys, od_law_keys, .func (PySem.W.fnOf "_law_keys" "_law_keys" (fnArgs s_law_keys) (fnBody s_law_keys) (fnScope s_law_keys) .none kV_law_keys dc_law_keys pm_law_keys an_law_keys cd_law_keys ct_law_keys), sl_law_keys⟩) (c_law_keys : PySem.W.codeIn K cd_law_keys "_law_keys" = true) (k_law_keys : PySem.W.keepIn K (.ref f_law_keys) = true)
    (a_law_name : PySem.W.nsIn K mainGlobals "_law_name" = some (some (.ref f_law_name))) (l_law_name : K.lookup f_law_name = some ⟨oc_law_name, od_law_name, .func (PySem.W.fnOf "_law_name" "_law_name" (fnArgs s_law_name) (fnBody s_law_name) (fnScope s_law_name) .none kV_law_name dc_law_name pm_law_name an_law_name cd_law_name ct_law_name), sl_law_name⟩) (c_law_name : PySem.W.codeIn K cd_law_name "_law_name" = true) (k_law_name : PySem.W.keepIn K (.ref f_law_name) = true)
    (a_law_names : PySem.W.nsIn K mainGlobals "_law_names" = some (some (.ref f_law_names))) (l_law_names : K.lookup f_law_names = some ⟨oc_law_names, od_law_names, .func (PySem.W.fnOf "_law_names" "_law_names" (fnArgs s_law_names) (fnBody s_law_names) (fnScope s_law_names) .none kV_law_names dc_law_names pm_law_names an_law_names cd_law_names ct_law_names), sl_law_names⟩) (c_law_names : PySem.W.codeIn K cd_law_names "_law_names" = true) (k_law_names : PySem.W.keepIn K (.ref f_law_names) = true)
    (a_number_of : PySem.W.nsIn K mainGlobals "number_of" = some (some (.ref f_number_of))) (l_number_of : K.lookup f_number_of = some ⟨oc_number_of, od_number_of, .func (PySem.W.fnOf "number_of" "number_of" (fnArgs s_number_of) (fnBody s_number_of) (fnScope s_number_of) .none kV_number_of dc_number_of pm_number_of an_number_of cd_number_of ct_number_of), sl_number_of⟩) (c_number_of : PySem.W.codeIn K cd_number_of "number_of" = true) (k_number_of : PySem.W.keepIn K (.ref f_number_of) = true)
    (a_read_expression : PySem.W.nsIn K mainGlobals "read_expression" = some (some (.ref f_read_expression))) (l_read_expression : K.lookup f_read_expression = some ⟨oc_read_expression, od_read_expression, .func (PySem.W.fnOf "read_expression" "read_expression" (fnArgs s_read_expression) (fnBody s_read_expression) (fnScope s_read_expression) .none (.ref KD_read_expression) dc_read_expression pm_read_expression an_read_expression cd_read_expression ct_read_expression), sl_read_expression⟩) (c_read_expression : PySem.W.codeIn K cd_read_expression "read_expression" = true) (k_read_expression : PySem.W.keepIn K (.ref f_read_expression) = true)
    (kd_read_expression : PySem.W.nsIn K KD_read_expression "room" = some (some (.int 12 tk_read_expression)))
    (a_expression_words : PySem.W.nsIn K mainGlobals "expression_words" = some (some (.ref f_expression_words))) (l_expression_words : K.lookup f_expression_words = some ⟨oc_expression_words, od_expression_words, .func (PySem.W.fnOf "expression_words" "expression_words" (fnArgs s_expression_words) (fnBody s_expression_words) (fnScope s_expression_words) .none kV_expression_words dc_expression_words pm_expression_words an_expression_words cd_expression_words ct_expression_words), sl_expression_words⟩) (c_expression_words : PySem.W.codeIn K cd_expression_words "expression_words" = true) (k_expression_words : PySem.W.keepIn K (.ref f_expression_words) = true)
    (a_law_expression : PySem.W.nsIn K mainGlobals "_law_expression" = some (some (.ref f_law_expression))) (l_law_expression : K.lookup f_law_expression = some ⟨oc_law_expression, od_law_expression, .func (PySem.W.fnOf "_law_expression" "_law_expression" (fnArgs s_law_expression) (fnBody s_law_expression) (fnScope s_law_expression) .none kV_law_expression dc_law_expression pm_law_expression an_law_expression cd_law_expression ct_law_expression), sl_law_expression⟩) (c_law_expression : PySem.W.codeIn K cd_law_expression "_law_expression" = true) (k_law_expression : PySem.W.keepIn K (.ref f_law_expression) = true)
    (a_law_rows : PySem.W.nsIn K mainGlobals "_law_rows" = some (some (.ref f_law_rows))) (l_law_rows : K.lookup f_law_rows = some ⟨oc_law_rows, od_law_rows, .func (PySem.W.fnOf "_law_rows" "_law_rows" (fnArgs s_law_rows) (fnBody s_law_rows) (fnScope s_law_rows) .none kV_law_rows dc_law_rows pm_law_rows an_law_rows cd_law_rows ct_law_rows), sl_law_rows⟩) (c_law_rows : PySem.W.codeIn K cd_law_rows "_law_rows" = true) (k_law_rows : PySem.W.keepIn K (.ref f_law_rows) = true)
    (a_law_wrong : PySem.W.nsIn K mainGlobals "_law_wrong" = some (some (.ref f_law_wrong))) (l_law_wrong : K.lookup f_law_wrong = some ⟨oc_law_wrong, od_law_wrong, .func (PySem.W.fnOf "_law_wrong" "_law_wrong" (fnArgs s_law_wrong) (fnBody s_law_wrong) (fnScope s_law_wrong) .none kV_law_wrong dc_law_wrong pm_law_wrong an_law_wrong cd_law_wrong ct_law_wrong), sl_law_wrong⟩) (c_law_wrong : PySem.W.codeIn K cd_law_wrong "_law_wrong" = true) (k_law_wrong : PySem.W.keepIn K (.ref f_law_wrong) = true)
    (a_law_read : PySem.W.nsIn K mainGlobals "_law_read" = some (some (.ref f_law_read))) (l_law_read : K.lookup f_law_read = some ⟨oc_law_read, od_law_read, .func (PySem.W.fnOf "_law_read" "_law_read" (fnArgs s_law_read) (fnBody s_law_read) (fnScope s_law_read) .none kV_law_read dc_law_read pm_law_read an_law_read cd_law_read ct_law_read), sl_law_read⟩) (c_law_read : PySem.W.codeIn K cd_law_read "_law_read" = true) (k_law_read : PySem.W.keepIn K (.ref f_law_read) = true)
    (a_law_stranger : PySem.W.nsIn K mainGlobals "_law_stranger" = some (some (.ref f_law_stranger))) (l_law_stranger : K.lookup f_law_stranger = some ⟨oc_law_stranger, od_law_stranger, .func (PySem.W.fnOf "_law_stranger" "_law_stranger" (fnArgs s_law_stranger) (fnBody s_law_stranger) (fnScope s_law_stranger) .none kV_law_stranger dc_law_stranger pm_law_stranger an_law_stranger cd_law_stranger ct_law_stranger), sl_law_stranger⟩) (c_law_stranger : PySem.W.codeIn K cd_law_stranger "_law_stranger" = true) (k_law_stranger : PySem.W.keepIn K (.ref f_law_stranger) = true)
    (a_law_some : PySem.W.nsIn K mainGlobals "_law_some" = some (some (.ref f_law_some))) (l_law_some : K.lookup f_law_some = some ⟨oc_law_some, od_law_some, .func (PySem.W.fnOf "_law_some" "_law_some" (fnArgs s_law_some) (fnBody s_law_some) (fnScope s_law_some) .none kV_law_some dc_law_some pm_law_some an_law_some cd_law_some ct_law_some), sl_law_some⟩) (c_law_some : PySem.W.codeIn K cd_law_some "_law_some" = true) (k_law_some : PySem.W.keepIn K (.ref f_law_some) = true)
    (a_law_spine : PySem.W.nsIn K mainGlobals "_law_spine" = some (some (.ref f_law_spine))) (l_law_spine : K.lookup f_law_spine = some ⟨oc_law_spine, od_law_spine, .func (PySem.W.fnOf "_law_spine" "_law_spine" (fnArgs s_law_spine) (fnBody s_law_spine) (fnScope s_law_spine) .none kV_law_spine dc_law_spine pm_law_spine an_law_spine cd_law_spine ct_law_spine), sl_law_spine⟩) (c_law_spine : PySem.W.codeIn K cd_law_spine "_law_spine" = true) (k_law_spine : PySem.W.keepIn K (.ref f_law_spine) = true)
    (a_law : PySem.W.nsIn K mainGlobals "law" = some (some (.ref f_law))) (l_law : K.lookup f_law = some ⟨oc_law, od_law, .func (PySem.W.fnOf "law" "law" (fnArgs s_law) (fnBody s_law) (fnScope s_law) .none kV_law dc_law pm_law an_law cd_law ct_law), sl_law⟩) (c_law : PySem.W.codeIn K cd_law "law" = true) (k_law : PySem.W.keepIn K (.ref f_law) = true)
    (mc_Cursor : PySem.W.nsIn K mainGlobals "Cursor" = some (some (.ref C_Cursor)))
    (pg_Cursor : PySem.W.plainGet K C_Cursor Str.empty = true)
    (hd_Cursor : PySem.W.hasDictIn K C_Cursor = true)
    (po_Cursor : PySem.W.plainOver K C_Cursor = true)
    (sa_Cursor : PySem.W.findIn K (.ref C_Cursor) "__setattr__" = some (some (.builtin "object.__setattr__")))
    (mk_Cursor : PySem.W.makesIn K C_Cursor = true)
    (kc_Cursor : PySem.W.keepIn K (.ref C_Cursor) = true)
    (ha_Cursor : PySem.W.findIn K (.ref C_Cursor) "__class__" = some (some (.builtin "object.__class__")))
    (hn_Cursor : PySem.W.specialIn K (.builtin "object.__class__") "__get__" = some (some (.builtin "getset_descriptor.__get__")))
    (ht_Cursor : PySem.W.takesIn K (.builtin "object.__class__") = some true)
    (hm_Cursor : PySem.W.mroIn K C_Cursor (.type "object") = some true)
    (nwords_Cursor : PySem.W.findIn K (.ref C_Cursor) "words" = some none)
    (noptions_Cursor : PySem.W.findIn K (.ref C_Cursor) "options" = some none)
    (nvariables_Cursor : PySem.W.findIn K (.ref C_Cursor) "variables" = some none)
    (nsees_Cursor : PySem.W.findIn K (.ref C_Cursor) "sees" = some none)
    (nat_Cursor : PySem.W.findIn K (.ref C_Cursor) "at" = some none)
    (nmoves_Cursor : PySem.W.findIn K (.ref C_Cursor) "moves" = some none)
    (nbranchings_Cursor : PySem.W.findIn K (.ref C_Cursor) "branchings" = some none)
    (a_Cursor___init : PySem.W.findIn K (.ref C_Cursor) "__init__" = some (some (.ref f_Cursor___init))) (i_Cursor___init : PySem.W.isFn K (.ref f_Cursor___init) = true) (l_Cursor___init : K.lookup f_Cursor___init = some ⟨oc_Cursor___init, od_Cursor___init, .func (PySem.W.fnOf "__init__" "Cursor.__init__" (fnArgs s_Cursor___init) (fnBody s_Cursor___init) (fnScope s_Cursor___init) .none (.ref KD_Cursor___init) dc_Cursor___init pm_Cursor___init an_Cursor___init cd_Cursor___init ct_Cursor___init), sl_Cursor___init⟩) (c_Cursor___init : PySem.W.codeIn K cd_Cursor___init "Cursor.__init__" = true) (k_Cursor___init : PySem.W.keepIn K (.ref f_Cursor___init) = true)
    (kd_Cursor___init_options : PySem.W.nsIn K KD_Cursor___init "options" = some (some (.ref E_Cursor___init_options)))
    (kd_Cursor___init_variables : PySem.W.nsIn K KD_Cursor___init "variables" = some (some (.ref E_Cursor___init_variables)))
    (kd_Cursor___init_sees : PySem.W.nsIn K KD_Cursor___init "sees" = some (some (.bool false)))
    (pa_Cursor_word : PySem.W.findIn K (.ref C_Cursor) "word" = some (some (.ref p_Cursor_word))) (pq_Cursor_word : PySem.W.specialIn K (.ref p_Cursor_word) "__get__" = some (some (.builtin "property.__get__"))) (pt_Cursor_word : PySem.W.takesIn K (.ref p_Cursor_word) = some true) (pr_Cursor_word : PySem.W.recIn K p_Cursor_word "property" = some (.ref f_Cursor_word :: rest_Cursor_word)) (l_Cursor_word : K.lookup f_Cursor_word = some ⟨oc_Cursor_word, od_Cursor_word, .func (PySem.W.fnOf "word" "Cursor.word" (fnArgs s_Cursor_word) (fnBody s_Cursor_word) (fnScope s_Cursor_word) .none kV_Cursor_word dc_Cursor_word pm_Cursor_word an_Cursor_word cd_Cursor_word ct_Cursor_word), sl_Cursor_word⟩) (c_Cursor_word : PySem.W.codeIn K cd_Cursor_word "Cursor.word" = true)
    (a_Cursor_take_word : PySem.W.findIn K (.ref C_Cursor) "take_word" = some (some (.ref f_Cursor_take_word))) (i_Cursor_take_word : PySem.W.isFn K (.ref f_Cursor_take_word) = true) (l_Cursor_take_word : K.lookup f_Cursor_take_word = some ⟨oc_Cursor_take_word, od_Cursor_take_word, .func (PySem.W.fnOf "take_word" "Cursor.take_word" (fnArgs s_Cursor_take_word) (fnBody s_Cursor_take_word) (fnScope s_Cursor_take_word) .none kV_Cursor_take_word dc_Cursor_take_word pm_Cursor_take_word an_Cursor_take_word cd_Cursor_take_word ct_Cursor_take_word), sl_Cursor_take_word⟩) (c_Cursor_take_word : PySem.W.codeIn K cd_Cursor_take_word "Cursor.take_word" = true) (k_Cursor_take_word : PySem.W.keepIn K (.ref f_Cursor_take_word) = true)
    (a_Cursor_take_number : PySem.W.findIn K (.ref C_Cursor) "take_number" = some (some (.ref f_Cursor_take_number))) (i_Cursor_take_number : PySem.W.isFn K (.ref f_Cursor_take_number) = true) (l_Cursor_take_number : K.lookup f_Cursor_take_number = some ⟨oc_Cursor_take_number, od_Cursor_take_number, .func (PySem.W.fnOf "take_number" "Cursor.take_number" (fnArgs s_Cursor_take_number) (fnBody s_Cursor_take_number) (fnScope s_Cursor_take_number) .none kV_Cursor_take_number dc_Cursor_take_number pm_Cursor_take_number an_Cursor_take_number cd_Cursor_take_number ct_Cursor_take_number), sl_Cursor_take_number⟩) (c_Cursor_take_number : PySem.W.codeIn K cd_Cursor_take_number "Cursor.take_number" = true) (k_Cursor_take_number : PySem.W.keepIn K (.ref f_Cursor_take_number) = true)
    (a_Cursor_take_name : PySem.W.findIn K (.ref C_Cursor) "take_name" = some (some (.ref f_Cursor_take_name))) (i_Cursor_take_name : PySem.W.isFn K (.ref f_Cursor_take_name) = true) (l_Cursor_take_name : K.lookup f_Cursor_take_name = some ⟨oc_Cursor_take_name, od_Cursor_take_name, .func (PySem.W.fnOf "take_name" "Cursor.take_name" (fnArgs s_Cursor_take_name) (fnBody s_Cursor_take_name) (fnScope s_Cursor_take_name) .none kV_Cursor_take_name dc_Cursor_take_name pm_Cursor_take_name an_Cursor_take_name cd_Cursor_take_name ct_Cursor_take_name), sl_Cursor_take_name⟩) (c_Cursor_take_name : PySem.W.codeIn K cd_Cursor_take_name "Cursor.take_name" = true) (k_Cursor_take_name : PySem.W.keepIn K (.ref f_Cursor_take_name) = true)
    (mc_GameError : PySem.W.nsIn K mainGlobals "GameError" = some (some (.ref C_GameError)))
    (mc_BadText : PySem.W.nsIn K mainGlobals "BadText" = some (some (.ref C_BadText)))
    (opq : PySem.W.nsIn K PySem.cStatics "thirdparty.any" = some none)
    (zsup : PySem.W.nsIn K mainGlobals "super" = some none)
    (ptop : (l.prog.main.scope.names.lookup ("super" : Str)).isSome = false)
    (xsp : PySem.W.specialIn K (.builtin "object.__class__") "__get__" = some (some (.builtin "getset_descriptor.__get__")))
    (xtk : PySem.W.takesIn K (.builtin "object.__class__") = some true)
    (xL_BadText : K.lookup C_BadText = some (excClassObj nm_BadText q_BadText C_BadText N_BadText bs_BadText [.ref C_GameError, .type "ValueError", .type "Exception", .type "BaseException", .type "object"] true sn_BadText sub_BadText ab_BadText col_BadText dd_BadText m0_BadText m1_BadText m2_BadText m3_BadText m5_BadText "ValueError.__new__"))
    (al_BadText : PySem.W.ks_superIn K C_BadText C_BadText "__init__" = some (some (.builtin "ValueError.__init__")))
    (ve_BadText : PySem.W.subIn K (.ref C_BadText) (.type "ValueError") = some true)
    (sa_BadText : PySem.W.findIn K (.ref C_BadText) "__setattr__" = some (some (.builtin "object.__setattr__")))
    (ga_BadText : PySem.W.findIn K (.ref C_BadText) "__getattribute__" = some (some (.builtin "BaseException.__getattribute__")))
    (gg_BadText : PySem.W.findIn K (.ref C_BadText) "__getattr__" = some none)
    (nb_BadText : PySem.W.findIn K (.ref C_BadText) "at" = some none)
    (iC_BadText : PySem.W.findIn K (.ref C_BadText) "__init__" = some (some (.ref f_BadText___init)))
    (tf_BadText : PySem.W.typeIn K (.ref f_BadText___init) = some (.type "function"))
    (kC_BadText : PySem.W.keepIn K (.ref C_BadText) = true)
    (eC_BadText : PySem.W.subIn K (.ref C_BadText) (.type "BaseException") = some true)
    (tC_BadText : PySem.W.typeIn K (.ref C_BadText) = some (.type "type"))
    (hC_BadText : PySem.W.hasDictIn K C_BadText = true)
    (mo_BadText : PySem.W.mroIn K C_BadText (.ref C_BadText) = some true)
    (ma_BadText : PySem.W.mroIn K C_BadText (.type "object") = some true)
    (ca_BadText : PySem.W.findIn K (.ref C_BadText) "__class__" = some (some (.builtin "object.__class__")))
    (ss_BadText : PySem.W.subIn K (.ref C_BadText) (.ref C_BadText) = some true)
    (lf_BadText : K.lookup f_BadText___init = some ⟨oc_BadText___init, od_BadText___init, .func (PySem.W.fnX "__init__" "BadText.__init__" (fnArgs s_BadText___init) (fnBody s_BadText___init) (fnScope s_BadText___init) [("__class__", cc_BadText___init)] .none .none dc_BadText___init pm_BadText___init an_BadText___init (.ref cda_BadText___init) ct_BadText___init), sl_BadText___init⟩)
    (cf_BadText : PySem.W.codeIn K (.ref cda_BadText___init) "BadText.__init__" = true)
    (lc_BadText : K.lookup cc_BadText___init = some ⟨cl_BadText___init, cld_BadText___init, .cell (some (.ref C_BadText)), csl_BadText___init⟩)
    (ld_BadText : K.lookup cda_BadText___init = some ⟨ccl_BadText___init, cdd_BadText___init, .fields vs_BadText___init, ccs_BadText___init⟩)
    (vf_BadText : vs_BadText___init[2]? = some (.str file_BadText___init tf_BadText___init))
    (fe_BadText : ((l.prog.main.file : Str) == file_BadText___init) = true)
    (hkit1 : PySem.W.kitOne K (.ref C_BadText) (.ref C_GameError) = some true)
    (z_GREATEST : PySem.W.nsIn K mainGlobals "GREATEST" = some (some (.int 65535 t_GREATEST)))
    (z_DEEPEST_EXPRESSION : PySem.W.nsIn K mainGlobals "DEEPEST_EXPRESSION" = some (some (.int 12 t_DEEPEST_EXPRESSION)))
    (z_DIGITS : PySem.W.nsIn K mainGlobals "DIGITS" = some (some (.str "0123456789" t_DIGITS)))
    (z_SIGNS : PySem.W.nsIn K mainGlobals "SIGNS" = some (some (.ref T_SIGNS)))
    (lT_SIGNS : K.lookup T_SIGNS = some ⟨.type "tuple", none, .seq #[.str "+" t_SIGNS0, .str "-" t_SIGNS1, .str "*" t_SIGNS2, .str "/" t_SIGNS3, .str "mod" t_SIGNS4, .str "<" t_SIGNS5, .str "=" t_SIGNS6] nn_SIGNS, sl_SIGNS⟩)
    (z_bool : PySem.W.nsIn K mainGlobals "bool" = some none)
    (z_int : PySem.W.nsIn K mainGlobals "int" = some none)
    (z_isinstance : PySem.W.nsIn K mainGlobals "isinstance" = some none)
    (z_len : PySem.W.nsIn K mainGlobals "len" = some none)
    (z_list : PySem.W.nsIn K mainGlobals "list" = some none)
    (z_max : PySem.W.nsIn K mainGlobals "max" = some none)
    (z_min : PySem.W.nsIn K mainGlobals "min" = some none)
    (z_range : PySem.W.nsIn K mainGlobals "range" = some none)
    (z_str : PySem.W.nsIn K mainGlobals "str" = some none)
    (z_tuple : PySem.W.nsIn K mainGlobals "tuple" = some none)
    : ∃ fd : FuncData, (∀ (s : Shared) (v : Value), BindsTo s fd ⟨[v], []⟩ [("script", v)]) ∧ ∀ base : Heap, K.In base → base.Ns mainGlobals mg → FnOk l.prog w K mg base C8.CX0 25 fa fd ["script"] (sp_law K) := by
  have e := hfa.symm.trans (PySem.W.mg_of X G a_law)
  cases e
  have T : Txt K mg C_Cursor C_GameError C_BadText T_SIGNS := ⟨PySem.W.mg_none_of X G z_bool, PySem.W.mg_none_of X G z_int, PySem.W.mg_none_of X G z_isinstance, PySem.W.mg_none_of X G z_len, PySem.W.mg_none_of X G z_list, PySem.W.mg_none_of X G z_max, PySem.W.mg_none_of X G z_min, PySem.W.mg_none_of X G z_range, PySem.W.mg_none_of X G z_str, PySem.W.mg_none_of X G z_tuple, ⟨pg_Cursor, hd_Cursor, po_Cursor, sa_Cursor⟩, PySem.W.mg_of X G mc_Cursor, ⟨⟨pg_Cursor, hd_Cursor, po_Cursor, sa_Cursor⟩, ha_Cursor, hn_Cursor, ht_Cursor, hm_Cursor, kitSelf⟩, nwords_Cursor, noptions_Cursor, nvariables_Cursor, nsees_Cursor, nat_Cursor, nmoves_Cursor, nbranchings_Cursor, ⟨_, PySem.W.mg_of X G z_GREATEST, ⟨_, rfl⟩⟩, ⟨_, PySem.W.mg_of X G z_DEEPEST_EXPRESSION, ⟨_, rfl⟩⟩, ⟨_, PySem.W.mg_of X G z_DIGITS, ⟨_, rfl⟩⟩, ⟨_, PySem.W.mg_of X G z_SIGNS, rfl⟩, fun H => .inr ⟨_, _, _, lT_SIGNS, rfl, rfl, by show 7 ≤ sizeLine; decide, .cons ⟨_, rfl⟩ (.cons ⟨_, rfl⟩ (.cons ⟨_, rfl⟩ (.cons ⟨_, rfl⟩ (.cons ⟨_, rfl⟩ (.cons ⟨_, rfl⟩ (.cons ⟨_, rfl⟩ (.nil)))))))⟩, ⟨_, lT_SIGNS, rfl, rfl⟩, PySem.W.mg_of X G mc_GameError, PySem.W.mg_of X G mc_BadText, ⟨ga_BadText, gg_BadText, eC_BadText, hC_BadText, ca_BadText, xsp, xtk, ma_BadText⟩, ⟨ga_BadText, gg_BadText, eC_BadText, hC_BadText⟩, nb_BadText, PySem.W.exm_ref eC_BadText hC_BadText tC_BadText ss_BadText, hkit1, True.intro⟩
  have X_BadText : SupX_BadText.Txt l.prog K mg "BadText" C_BadText f_BadText___init := { gC := PySem.W.mg_of X G mc_BadText, cls := ⟨_, _, _, _, _, _, _, _, _, _, _, _, _, _, _, xL_BadText, rfl⟩, along := al_BadText, veC := ve_BadText, sa := sa_BadText, ga := ga_BadText, gg := gg_BadText, noN := nb_BadText, iC := iC_BadText, tC := tf_BadText, kC := kC_BadText, exC := eC_BadText, tyC := tC_BadText, hdC := hC_BadText, opq := opq, noS := PySem.W.mg_none_of X G zsup, mroC := mo_BadText, top := ptop, fn := ⟨_, _, _, _, _, _, _, _, _, _, _, _, _, _, _, _, _, _, lf_BadText, cf_BadText, lc_BadText, ld_BadText, vf_BadText, fe_BadText⟩ }
  have F_Cursor___init : C8.Fun K "__init__" "Cursor.__init__" s_Cursor___init _ _ := ⟨⟨_, _, _, _, _, _, _, _, _, _, rfl, l_Cursor___init, c_Cursor___init⟩⟩
  have M_Cursor : Mk K C_Cursor f_Cursor___init := ⟨mk_Cursor, a_Cursor___init, i_Cursor___init, kc_Cursor⟩
  have FD_Cursor___init : FunD K "__init__" "Cursor.__init__" (fnArgs s_Cursor___init) (fnBody s_Cursor___init) (fnScope s_Cursor___init) [] [("options", .ref E_Cursor___init_options), ("variables", .ref E_Cursor___init_variables), ("sees", .bl false)] f_Cursor___init _ := ⟨⟨_, _, _, _, _, _, _, _, _, _, rfl, l_Cursor___init, c_Cursor___init, .inl ⟨rfl, rfl⟩, .inr ⟨_, rfl, fun q hq => by simp only [List.mem_cons, List.not_mem_nil, or_false] at hq; rcases hq with rfl | rfl | rfl <;> first | exact ⟨_, kd_Cursor___init_options, rfl⟩ | exact ⟨_, kd_Cursor___init_variables, rfl⟩ | exact ⟨_, kd_Cursor___init_sees, rfl⟩⟩⟩, k_Cursor___init⟩
  obtain ⟨its_Cursor___init, kb_Cursor___init⟩ := FD_Cursor___init.kbinds0 (ps := ["self", "words", "options", "variables", "sees"]) 2 ["options", "variables", "sees"] [] (fun us _ ws => us ++ ws) (by simp) (fun _ h => nomatch h) (fun h1 _ h3 => h1.append h3) (fun _ _ _ _ _ _ us mv ws hu hm hw => match us, hu, mv, hm, ws, hw with | [_, _], _, [], _, [_, _, _], _ => rfl)
  have F_Cursor_word : C8.Fun K "word" "Cursor.word" s_Cursor_word _ _ := ⟨⟨_, _, _, _, _, _, _, _, _, _, rfl, l_Cursor_word, c_Cursor_word⟩⟩
  have P_Cursor_word : PropOf K C_Cursor "word" p_Cursor_word f_Cursor_word := ⟨pa_Cursor_word, pq_Cursor_word, pt_Cursor_word, ⟨_, pr_Cursor_word⟩⟩
  have b_Cursor_word : Binds K _ ["self"] [] := C8.Fun.binds F_Cursor_word rfl fun _ _ _ _ _ _ us hl => match us, hl with | [_], _ => rfl
  have F_Cursor_take_word : C8.Fun K "take_word" "Cursor.take_word" s_Cursor_take_word _ _ := ⟨⟨_, _, _, _, _, _, _, _, _, _, rfl, l_Cursor_take_word, c_Cursor_take_word⟩⟩
  have M_Cursor_take_word : Meth K C_Cursor "take_word" f_Cursor_take_word := ⟨a_Cursor_take_word, i_Cursor_take_word, k_Cursor_take_word⟩
  have b_Cursor_take_word : Binds K _ ["self", "word"] [] := C8.Fun.binds F_Cursor_take_word rfl fun _ _ _ _ _ _ us hl => match us, hl with | [_, _], _ => rfl
  have F_Cursor_take_number : C8.Fun K "take_number" "Cursor.take_number" s_Cursor_take_number _ _ := ⟨⟨_, _, _, _, _, _, _, _, _, _, rfl, l_Cursor_take_number, c_Cursor_take_number⟩⟩
  have M_Cursor_take_number : Meth K C_Cursor "take_number" f_Cursor_take_number := ⟨a_Cursor_take_number, i_Cursor_take_number, k_Cursor_take_number⟩
  have b_Cursor_take_number : Binds K _ ["self", "least", "most"] [] := C8.Fun.binds F_Cursor_take_number rfl fun _ _ _ _ _ _ us hl => match us, hl with | [_, _, _], _ => rfl
  have F_Cursor_take_name : C8.Fun K "take_name" "Cursor.take_name" s_Cursor_take_name _ _ := ⟨⟨_, _, _, _, _, _, _, _, _, _, rfl, l_Cursor_take_name, c_Cursor_take_name⟩⟩
  have M_Cursor_take_name : Meth K C_Cursor "take_name" f_Cursor_take_name := ⟨a_Cursor_take_name, i_Cursor_take_name, k_Cursor_take_name⟩
  have b_Cursor_take_name : Binds K _ ["self", "names"] [] := C8.Fun.binds F_Cursor_take_name rfl fun _ _ _ _ _ _ us hl => match us, hl with | [_, _], _ => rfl
  have D_law_pool : C8.Def K mg "_law_pool" s_law_pool _ _ := ⟨⟨⟨_, _, _, _, _, _, _, _, _, _, rfl, l_law_pool, c_law_pool⟩⟩, PySem.W.mg_of X G a_law_pool, k_law_pool⟩
  have b_law_pool : Binds K _ ["script", "budget"] [] := C8.Fun.binds D_law_pool.fn rfl fun _ _ _ _ _ _ us hl => match us, hl with | [_, _], _ => rfl
  have D_law_draw : C8.Def K mg "_law_draw" s_law_draw _ _ := ⟨⟨⟨_, _, _, _, _, _, _, _, _, _, rfl, l_law_draw, c_law_draw⟩⟩, PySem.W.mg_of X G a_law_draw, k_law_draw⟩
  have b_law_draw : Binds K _ ["pool", "size"] [] := C8.Fun.binds D_law_draw.fn rfl fun _ _ _ _ _ _ us hl => match us, hl with | [_, _], _ => rfl
  have D_law_spend : C8.Def K mg "_law_spend" s_law_spend _ _ := ⟨⟨⟨_, _, _, _, _, _, _, _, _, _, rfl, l_law_spend, c_law_spend⟩⟩, PySem.W.mg_of X G a_law_spend, k_law_spend⟩
  have b_law_spend : Binds K _ ["pool"] [] := C8.Fun.binds D_law_spend.fn rfl fun _ _ _ _ _ _ us hl => match us, hl with | [_], _ => rfl
  have D_law_few : C8.Def K mg "_law_few" s_law_few _ _ := ⟨⟨⟨_, _, _, _, _, _, _, _, _, _, rfl, l_law_few, c_law_few⟩⟩, PySem.W.mg_of X G a_law_few, k_law_few⟩
  have b_law_few : Binds K _ ["pool", "most"] [] := C8.Fun.binds D_law_few.fn rfl fun _ _ _ _ _ _ us hl => match us, hl with | [_, _], _ => rfl
  have D_law_number : C8.Def K mg "_law_number" s_law_number _ _ := ⟨⟨⟨_, _, _, _, _, _, _, _, _, _, rfl, l_law_number, c_law_number⟩⟩, PySem.W.mg_of X G a_law_number, k_law_number⟩
  have b_law_number : Binds K _ ["pool"] [] := C8.Fun.binds D_law_number.fn rfl fun _ _ _ _ _ _ us hl => match us, hl with | [_], _ => rfl
  have D_law_same : C8.Def K mg "_law_same" s_law_same _ _ := ⟨⟨⟨_, _, _, _, _, _, _, _, _, _, rfl, l_law_same, c_law_same⟩⟩, PySem.W.mg_of X G a_law_same, k_law_same⟩
  have b_law_same : Binds K _ ["actual", "due"] [] := C8.Fun.binds D_law_same.fn rfl fun _ _ _ _ _ _ us hl => match us, hl with | [_, _], _ => rfl
  have D_law_keys : C8.Def K mg "_law_keys" s_law_keys _ _ := ⟨⟨⟨_, _, _, _, _, _, _, _, _, _, rfl, l_law_keys, c_law_keys⟩⟩, PySem.W.mg_of X G a_law_keys, k_law_keys⟩
  have b_law_keys : Binds K _ [] [] := C8.Fun.binds D_law_keys.fn rfl fun _ _ _ _ _ _ us hl => match us, hl with | [], _ => rfl
  have D_law_name : C8.Def K mg "_law_name" s_law_name _ _ := ⟨⟨⟨_, _, _, _, _, _, _, _, _, _, rfl, l_law_name, c_law_name⟩⟩, PySem.W.mg_of X G a_law_name, k_law_name⟩
  have b_law_name : Binds K _ ["pool", "taken"] [] := C8.Fun.binds D_law_name.fn rfl fun _ _ _ _ _ _ us hl => match us, hl with | [_, _], _ => rfl
  have D_law_names : C8.Def K mg "_law_names" s_law_names _ _ := ⟨⟨⟨_, _, _, _, _, _, _, _, _, _, rfl, l_law_names, c_law_names⟩⟩, PySem.W.mg_of X G a_law_names, k_law_names⟩
  have b_law_names : Binds K _ ["pool", "most"] [] := C8.Fun.binds D_law_names.fn rfl fun _ _ _ _ _ _ us hl => match us, hl with | [_, _], _ => rfl
  have D_number_of : C8.Def K mg "number_of" s_number_of _ _ := ⟨⟨⟨_, _, _, _, _, _, _, _, _, _, rfl, l_number_of, c_number_of⟩⟩, PySem.W.mg_of X G a_number_of, k_number_of⟩
  have b_number_of : Binds K _ ["word"] [] := C8.Fun.binds D_number_of.fn rfl fun _ _ _ _ _ _ us hl => match us, hl with | [_], _ => rfl
  have D_read_expression : C8.Def K mg "read_expression" s_read_expression _ _ := ⟨⟨⟨_, _, _, _, _, _, _, _, _, _, rfl, l_read_expression, c_read_expression⟩⟩, PySem.W.mg_of X G a_read_expression, k_read_expression⟩
  have FD_read_expression : FunD K "read_expression" "read_expression" (fnArgs s_read_expression) (fnBody s_read_expression) (fnScope s_read_expression) [] [("room", .int 12)] f_read_expression _ := ⟨⟨_, _, _, _, _, _, _, _, _, _, rfl, l_read_expression, c_read_expression, .inl ⟨rfl, rfl⟩, .inr ⟨_, rfl, fun q hq => by rw [List.mem_singleton] at hq; subst hq; exact ⟨_, kd_read_expression, ⟨_, rfl⟩⟩⟩⟩, k_read_expression⟩
  obtain ⟨ds1_read_expression, v1_read_expression, b1_read_expression⟩ := FD_read_expression.binds0 (ps := ["cursor", "room"]) 1 (by simp) rfl (fun _ _ _ _ _ _ us ks hu hk => match us, hu, ks, hk with | [_], _, [_], _ => ⟨_, _, _, _, _, _, rfl, rfl, rfl⟩)
  obtain ⟨its_read_expression, kb_read_expression⟩ := FD_read_expression.kbinds0 (ps := ["cursor", "room"]) 1 ["room"] [] (fun us _ ws => us ++ ws) (by simp) (fun _ h => nomatch h) (fun h1 _ h3 => h1.append h3) (fun _ _ _ _ _ _ us mv ws hu hm hw => match us, hu, mv, hm, ws, hw with | [_], _, [], _, [_], _ => rfl)
  have D_expression_words : C8.Def K mg "expression_words" s_expression_words _ _ := ⟨⟨⟨_, _, _, _, _, _, _, _, _, _, rfl, l_expression_words, c_expression_words⟩⟩, PySem.W.mg_of X G a_expression_words, k_expression_words⟩
  have b_expression_words : Binds K _ ["expression"] [] := C8.Fun.binds D_expression_words.fn rfl fun _ _ _ _ _ _ us hl => match us, hl with | [_], _ => rfl
  have D_law_expression : C8.Def K mg "_law_expression" s_law_expression _ _ := ⟨⟨⟨_, _, _, _, _, _, _, _, _, _, rfl, l_law_expression, c_law_expression⟩⟩, PySem.W.mg_of X G a_law_expression, k_law_expression⟩
  have b_law_expression : Binds K _ ["pool", "names", "picks", "brain", "deep"] [] := C8.Fun.binds D_law_expression.fn rfl fun _ _ _ _ _ _ us hl => match us, hl with | [_, _, _, _, _], _ => rfl
  have D_law_rows : C8.Def K mg "_law_rows" s_law_rows _ _ := ⟨⟨⟨_, _, _, _, _, _, _, _, _, _, rfl, l_law_rows, c_law_rows⟩⟩, PySem.W.mg_of X G a_law_rows, k_law_rows⟩
  have b_law_rows : Binds K _ ["due", "level"] [] := C8.Fun.binds D_law_rows.fn rfl fun _ _ _ _ _ _ us hl => match us, hl with | [_, _], _ => rfl
  have D_law_wrong : C8.Def K mg "_law_wrong" s_law_wrong _ _ := ⟨⟨⟨_, _, _, _, _, _, _, _, _, _, rfl, l_law_wrong, c_law_wrong⟩⟩, PySem.W.mg_of X G a_law_wrong, k_law_wrong⟩
  have b_law_wrong : Binds K _ ["row", "bound", "picks", "names", "sees"] [] := C8.Fun.binds D_law_wrong.fn rfl fun _ _ _ _ _ _ us hl => match us, hl with | [_, _, _, _, _], _ => rfl
  have D_law_read : C8.Def K mg "_law_read" s_law_read _ _ := ⟨⟨⟨_, _, _, _, _, _, _, _, _, _, rfl, l_law_read, c_law_read⟩⟩, PySem.W.mg_of X G a_law_read, k_law_read⟩
  have b_law_read : Binds K _ ["cursor", "bound"] [] := C8.Fun.binds D_law_read.fn rfl fun _ _ _ _ _ _ us hl => match us, hl with | [_, _], _ => rfl
  have D_law_stranger : C8.Def K mg "_law_stranger" s_law_stranger _ _ := ⟨⟨⟨_, _, _, _, _, _, _, _, _, _, rfl, l_law_stranger, c_law_stranger⟩⟩, PySem.W.mg_of X G a_law_stranger, k_law_stranger⟩
  have b_law_stranger : Binds K _ ["known", "passed"] [] := C8.Fun.binds D_law_stranger.fn rfl fun _ _ _ _ _ _ us hl => match us, hl with | [_, _], _ => rfl
  have D_law_some : C8.Def K mg "_law_some" s_law_some _ _ := ⟨⟨⟨_, _, _, _, _, _, _, _, _, _, rfl, l_law_some, c_law_some⟩⟩, PySem.W.mg_of X G a_law_some, k_law_some⟩
  have b_law_some : Binds K _ ["pool", "names"] [] := C8.Fun.binds D_law_some.fn rfl fun _ _ _ _ _ _ us hl => match us, hl with | [_, _], _ => rfl
  have D_law_spine : C8.Def K mg "_law_spine" s_law_spine _ _ := ⟨⟨⟨_, _, _, _, _, _, _, _, _, _, rfl, l_law_spine, c_law_spine⟩⟩, PySem.W.mg_of X G a_law_spine, k_law_spine⟩
  have b_law_spine : Binds K _ ["pool", "names", "picks", "brain", "deep"] [] := C8.Fun.binds D_law_spine.fn rfl fun _ _ _ _ _ _ us hl => match us, hl with | [_, _, _, _, _], _ => rfl
  have F_law : C8.Fun K "law" "law" s_law _ _ := ⟨⟨_, _, _, _, _, _, _, _, _, _, rfl, l_law, c_law⟩⟩
  refine ⟨PySem.W.fnOf "law" "law" (fnArgs s_law) (fnBody s_law) (fnScope s_law) .none kV_law dc_law pm_law an_law cd_law ct_law, fun s v => .of_eq rfl, fun base _ _ => ?_⟩
  have c_law_pool := ok_law_pool (P := l.prog) (w := w) (base := base) D_law_pool b_law_pool T
  have c_law_draw := ok_law_draw (P := l.prog) (w := w) (base := base) D_law_draw b_law_draw T
  have c_law_spend := ok_law_spend (P := l.prog) (w := w) (base := base) D_law_spend b_law_spend T (k := 0)
  have c_law_few := ok_law_few D_law_few b_law_few T c_law_draw
  have c_law_number := ok_law_number D_law_number b_law_number T c_law_draw
  have c_law_keys := ok_law_keys (P := l.prog) (w := w) (base := base) D_law_keys b_law_keys T
  have c_law_name := ok_law_nameP D_law_name b_law_name T c_law_draw c_law_few c_law_keys
  have c_law_names := ok_law_namesP D_law_names b_law_names T c_law_few c_law_name
  have c_law_same := same_all (P := l.prog) (w := w) (base := base) D_law_same b_law_same T 16
  have c_number_of := ok_number_of (P := l.prog) (w := w) (base := base) D_number_of b_number_of T
  have c_Cursor_kw := ok_cinit (P := l.prog) (w := w) (base := base) M_Cursor F_Cursor___init kb_Cursor___init T
  have c_Cursor_word := ok_word (P := l.prog) (w := w) (base := base) P_Cursor_word F_Cursor_word b_Cursor_word T
  have c_Cursor_take_word := ok_tword M_Cursor_take_word F_Cursor_take_word b_Cursor_take_word T X_BadText c_Cursor_word
  have c_Cursor_take_name := ok_tname M_Cursor_take_name F_Cursor_take_name b_Cursor_take_name T X_BadText c_Cursor_word
  have c_Cursor_take_number := ok_tnum M_Cursor_take_number F_Cursor_take_number b_Cursor_take_number T X_BadText c_Cursor_word c_number_of
  have fn_read := read_all (k := 2) D_read_expression T kb_read_expression (c_Cursor_word.up (by decide)) c_Cursor_take_name c_Cursor_take_number 12
  have c_read := CalX.of (dvs := [.int 12]) D_read_expression fn_read b1_read_expression v1_read_expression
  have c_read_room : CalXK l.prog w K mg base 16 "read_expression" (sp_read K C_Cursor C_BadText 12) 1 ["room"] (fun vs zs => vs ++ zs) := ⟨_, _, _, _, fn_read, D_read_expression.mgf, D_read_expression.kp, kb_read_expression⟩
  have c_law_read := ok_lread D_law_read b_law_read T T.kit1 c_read c_read_room
  have c_law_stranger := ok_stranger D_law_stranger b_law_stranger T (n := 12) (m := 14) (by decide) c_Cursor_kw c_law_read (calUp c_law_same (by decide))
  have c_expression_words := words_all (P := l.prog) (w := w) (base := base) D_expression_words b_expression_words T 13
  have c_law_rows := rows_all (P := l.prog) (w := w) (base := base) D_law_rows b_law_rows T 13
  have c_law_wrong := ok_wrong (P := l.prog) (w := w) (base := base) D_law_wrong b_law_wrong T
  have c_law_some := ok_some D_law_some b_law_some T c_law_draw
  have c_law_expression := expr_all D_law_expression b_law_expression T c_law_draw c_law_spend c_law_number 13
  have c_law_spine := ok_spine D_law_spine b_law_spine T (n := 12) (calUp c_law_draw (by decide)) c_law_expression
  exact ok_law (k := 19) F_law T c_law_pool c_law_draw c_law_names (calUp c_law_expression (by decide)) (calUp c_law_spine (by decide)) (calUp c_law_rows (by decide)) (calUp c_expression_words (by decide)) (calUp c_law_same (by decide)) (calUp c_law_some (by decide)) c_Cursor_kw c_law_stranger (c_Cursor_take_word.up (by decide)) (calUp c_law_read (by decide)) (calUp c_law_wrong (by decide))
theorem walk {l : PySem.W.OpenLaw} {q : Program} {loose : List Str} {XP : (Str → Option Value) → Heap → Prop} {YP : World → Heap → Prop} {d : DefRec} {K : Params → PySem.W.Frag} (hn : l.most = some 63) (hdf : d.params.defaults = [])
    (hY : ∀ (w : World) (h : Heap), YP w h → (K w.params).In h)
    (F : ∀ (w : World) (mg : Str → Option Value) (fa : Addr) (h : Heap), (K w.params).In h → h.Ns mainGlobals mg → mg d.name = some (.ref fa) →
      ∃ fd : FuncData, (∀ (s : Shared) (u : Value), BindsTo s fd ⟨[u], []⟩ [("script", u)]) ∧ ∀ base : Heap, (K w.params).In base → base.Ns mainGlobals mg → FnOk l.prog w (K w.params) mg base C8.CX0 25 fa fd ["script"] (sp_law (K w.params))) :
    PySem.W.WalkO q loose XP YP l.row.toRowW d [] (fun f vs => PySem.call f vs) :=
  L2.walk_ofB (n := 63) (k := 25) (x := "script") (CX := fun _ => C8.CX0) (sp := fun w => sp_law (K w.params)) hn (by decide) hdf ⟨rfl, by decide, by decide⟩ hY F (fun _ _ a ns hl hb _ hS => ⟨a, ns, rfl, hS, fun _ => rfl⟩) fun _ _ _ _ _ z => z
end My
open PySem PySem.W PyProof.Rows
set_option maxRecDepth 100000 in
set_option maxHeartbeats 0 in
theorem PySem.Challenge.cw_bothgain_k13_expressions_read_and_writte_holds : PySem.Challenge.rw_bothgain_k13_expressions_read_and_writte.Holds := by
  w_on; o_law; k_head; (case hw => w_witness2)
  k_fill
  refine My.walk (l := PySem.Challenge.rw_bothgain_k13_expressions_read_and_writte) rfl rfl (fun w h Y => PySem.W.kIn_of Y) ?F
  case F =>
    intro w mg fa h KX G hmg
    refine' My.all_mk KX G hmg ?a_law_pool ?l_law_pool ?c_law_pool ?k_law_pool ?a_law_draw ?l_law_draw ?c_law_draw ?k_law_draw ?a_law_spend ?l_law_spend ?c_law_spend ?k_law_spend ?a_law_few ?l_law_few ?c_law_few ?k_law_few ?a_law_number ?l_law_number ?c_law_number ?k_law_number ?a_law_same ?l_law_same ?c_law_same ?k_law_same ?a_law_keys ?l_law_keys ?c_law_keys ?k_law_keys ?a_law_name ?l_law_name ?c_law_name ?k_law_name ?a_law_names ?l_law_names ?c_law_names ?k_law_names ?a_number_of ?l_number_of ?c_number_of ?k_number_of ?a_read_expression ?l_read_expression ?c_read_expression ?k_read_expression ?kd_read_expression ?a_expression_words ?l_expression_words ?c_expression_words ?k_expression_words ?a_law_expression ?l_law_expression ?c_law_expression ?k_law_expression ?a_law_rows ?l_law_rows ?c_law_rows ?k_law_rows ?a_law_wrong ?l_law_wrong ?c_law_wrong ?k_law_wrong ?a_law_read ?l_law_read ?c_law_read ?k_law_read ?a_law_stranger ?l_law_stranger ?c_law_stranger ?k_law_stranger ?a_law_some ?l_law_some ?c_law_some ?k_law_some ?a_law_spine ?l_law_spine ?c_law_spine ?k_law_spine ?a_law ?l_law ?c_law ?k_law ?mc_Cursor ?pg_Cursor ?hd_Cursor ?po_Cursor ?sa_Cursor ?mk_Cursor ?kc_Cursor ?ha_Cursor ?hn_Cursor ?ht_Cursor ?hm_Cursor ?nwords_Cursor ?noptions_Cursor ?nvariables_Cursor ?nsees_Cursor ?nat_Cursor ?nmoves_Cursor ?nbranchings_Cursor ?a_Cursor___init ?i_Cursor___init ?l_Cursor___init ?c_Cursor___init ?k_Cursor___init ?kd_Cursor___init_options ?kd_Cursor___init_variables ?kd_Cursor___init_sees ?pa_Cursor_word ?pq_Cursor_word ?pt_Cursor_word ?pr_Cursor_word ?l_Cursor_word ?c_Cursor_word ?a_Cursor_take_word ?i_Cursor_take_word ?l_Cursor_take_word ?c_Cursor_take_word ?k_Cursor_take_word ?a_Cursor_take_number ?i_Cursor_take_number ?l_Cursor_take_number ?c_Cursor_take_number ?k_Cursor_take_number ?a_Cursor_take_name ?i_Cursor_take_name ?l_Cursor_take_name ?c_Cursor_take_name ?k_Cursor_take_name ?mc_GameError ?mc_BadText ?opq ?zsup ?ptop ?xsp ?xtk ?xL_BadText ?al_BadText ?ve_BadText ?sa_BadText ?ga_BadText ?gg_BadText ?nb_BadText ?iC_BadText ?tf_BadText ?kC_BadText ?eC_BadText ?tC_BadText ?hC_BadText ?mo_BadText ?ma_BadText ?ca_BadText ?ss_BadText ?lf_BadText ?cf_BadText ?lc_BadText ?ld_BadText ?vf_BadText ?fe_BadText ?hkit1 ?z_GREATEST ?z_DEEPEST_EXPRESSION ?z_DIGITS ?z_SIGNS ?lT_SIGNS ?z_bool ?z_int ?z_isinstance ?z_len ?z_list ?z_max ?z_min ?z_range ?z_str ?z_tuple
    (case a_law_pool => k_is)
    (case l_law_pool => k_is)
    (case c_law_pool => k_is)
    (case k_law_pool => k_is)
    (case a_law_draw => k_is)
    (case l_law_draw => k_is)
    (case c_law_draw => k_is)
    (case k_law_draw => k_is)
    (case a_law_spend => k_is)
    (case l_law_spend => k_is)
    (case c_law_spend => k_is)
    (case k_law_spend => k_is)
    (case a_law_few => k_is)
    (case l_law_few => k_is)
    (case c_law_few => k_is)
    (case k_law_few => k_is)
    (case a_law_number => k_is)
    (case l_law_number => k_is)
    (case c_law_number => k_is)
    (case k_law_number => k_is)
    (case a_law_same => k_is)
    (case l_law_same => k_is)
    (case c_law_same => k_is)
    (case k_law_same => k_is)
    (case a_law_keys => k_is)
    (case l_law_keys => k_is)
    (case c_law_keys => k_is)
    (case k_law_keys => k_is)
    (case a_law_name => k_is)
    (case l_law_name => k_is)
    (case c_law_name => k_is)
    (case k_law_name => k_is)
    (case a_law_names => k_is)
    (case l_law_names => k_is)
    (case c_law_names => k_is)
    (case k_law_names => k_is)
    (case a_number_of => k_is)
    (case l_number_of => k_is)
    (case c_number_of => k_is)
    (case k_number_of => k_is)
    (case a_read_expression => k_is)
    (case l_read_expression => k_is)
    (case c_read_expression => k_is)
    (case k_read_expression => k_is)
    (case kd_read_expression => k_is)
    (case a_expression_words => k_is)
    (case l_expression_words => k_is)
    (case c_expression_words => k_is)
    (case k_expression_words => k_is)
    (case a_law_expression => k_is)
    (case l_law_expression => k_is)
    (case c_law_expression => k_is)
    (case k_law_expression => k_is)
    (case a_law_rows => k_is)
    (case l_law_rows => k_is)
    (case c_law_rows => k_is)
    (case k_law_rows => k_is)
    (case a_law_wrong => k_is)
    (case l_law_wrong => k_is)
    (case c_law_wrong => k_is)
    (case k_law_wrong => k_is)
    (case a_law_read => k_is)
    (case l_law_read => k_is)
    (case c_law_read => k_is)
    (case k_law_read => k_is)
    (case a_law_stranger => k_is)
    (case l_law_stranger => k_is)
    (case c_law_stranger => k_is)
    (case k_law_stranger => k_is)
    (case a_law_some => k_is)
    (case l_law_some => k_is)
    (case c_law_some => k_is)
    (case k_law_some => k_is)
    (case a_law_spine => k_is)
    (case l_law_spine => k_is)
    (case c_law_spine => k_is)
    (case k_law_spine => k_is)
    (case a_law => k_is)
    (case l_law => k_is)
    (case c_law => k_is)
    (case k_law => k_is)
    (case mc_Cursor => k_is)
    (case pg_Cursor => k_is)
    (case hd_Cursor => k_is)
    (case po_Cursor => k_is)
    (case sa_Cursor => k_is)
    (case mk_Cursor => k_is)
    (case kc_Cursor => k_is)
    (case ha_Cursor => k_is)
    (case hn_Cursor => k_is)
    (case ht_Cursor => k_is)
    (case hm_Cursor => k_is)
    (case nwords_Cursor => k_is)
    (case noptions_Cursor => k_is)
    (case nvariables_Cursor => k_is)
    (case nsees_Cursor => k_is)
    (case nat_Cursor => k_is)
    (case nmoves_Cursor => k_is)
    (case nbranchings_Cursor => k_is)
    (case a_Cursor___init => k_is)
    (case i_Cursor___init => k_is)
    (case l_Cursor___init => k_is)
    (case c_Cursor___init => k_is)
    (case k_Cursor___init => k_is)
    (case kd_Cursor___init_options => k_is)
    (case kd_Cursor___init_variables => k_is)
    (case kd_Cursor___init_sees => k_is)
    (case pa_Cursor_word => k_is)
    (case pq_Cursor_word => k_is)
    (case pt_Cursor_word => k_is)
    (case pr_Cursor_word => k_is)
    (case l_Cursor_word => k_is)
    (case c_Cursor_word => k_is)
    (case a_Cursor_take_word => k_is)
    (case i_Cursor_take_word => k_is)
    (case l_Cursor_take_word => k_is)
    (case c_Cursor_take_word => k_is)
    (case k_Cursor_take_word => k_is)
    (case a_Cursor_take_number => k_is)
    (case i_Cursor_take_number => k_is)
    (case l_Cursor_take_number => k_is)
    (case c_Cursor_take_number => k_is)
    (case k_Cursor_take_number => k_is)
    (case a_Cursor_take_name => k_is)
    (case i_Cursor_take_name => k_is)
    (case l_Cursor_take_name => k_is)
    (case c_Cursor_take_name => k_is)
    (case k_Cursor_take_name => k_is)
    (case mc_GameError => k_is)
    (case mc_BadText => k_is)
    (case opq => first | k_is | rfl | decide +kernel)
    (case zsup => k_is)
    (case ptop => first | k_is | rfl | decide +kernel)
    (case xsp => k_is)
    (case xtk => k_is)
    (case xL_BadText => k_is)
    (case al_BadText => first | k_is | rfl | decide +kernel)
    (case ve_BadText => k_is)
    (case sa_BadText => k_is)
    (case ga_BadText => k_is)
    (case gg_BadText => k_is)
    (case nb_BadText => k_is)
    (case iC_BadText => k_is)
    (case tf_BadText => k_is)
    (case kC_BadText => k_is)
    (case eC_BadText => k_is)
    (case tC_BadText => k_is)
    (case hC_BadText => k_is)
    (case mo_BadText => k_is)
    (case ma_BadText => k_is)
    (case ca_BadText => k_is)
    (case ss_BadText => first | k_is | rfl | decide +kernel)
    (case lf_BadText => k_is)
    (case cf_BadText => k_is)
    (case lc_BadText => k_is)
    (case ld_BadText => k_is)
    (case vf_BadText => first | k_is | rfl | decide +kernel)
    (case fe_BadText => first | k_is | rfl | decide +kernel)
    (case hkit1 => first | k_is | kit_is | rfl | decide +kernel)
    (case z_GREATEST => k_is)
    (case z_DEEPEST_EXPRESSION => k_is)
    (case z_DIGITS => k_is)
    (case z_SIGNS => k_is)
    (case lT_SIGNS => k_is)
    (case z_bool => k_is)
    (case z_int => k_is)
    (case z_isinstance => k_is)
    (case z_len => k_is)
    (case z_list => k_is)
    (case z_max => k_is)
    (case z_min => k_is)
    (case z_range => k_is)
    (case z_str => k_is)
    (case z_tuple => k_is)

