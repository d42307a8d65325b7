
import PyProof.Rows.All
import Wide.All
import OpenK.AllK
import Wide.FinOn
import HandS.ForMost
import HandS.Codes
import HandS.IsInst
import HandS.EndBits
import HandS.Walk
import HandS.DeepEq
import HandS.Gcd
import HandS.Wide
import HandS.Defaults
import HandS.OwnEq
import HandS.Dict
import HandS.WordsDict
import HandS.Star
import HandS.Strs
import HandS.RaiseMore
import HandS.More
import HandS.ForExc
import HandS.ExcIs
import HandS.ExcField
import KE.KExcSuper
import KE.KSuper
import HandS.TryMany
import HandS.ExcInit
import HandS.CallSlots
import HandS.WrittenGet
import HandS.Iter
import HandS.Property
import HandS.MakeKwOnly
import KE.GoesRaise
import KE.RegKIsAll
import HandS.OwnEq
import OpenK.KWalk
import OpenK.KMake
import PyProof.InstNe
import PySem.Challenge.RW_bothgain_k79_programs_as_whole_numbers
set_option Elab.async false
set_option linter.all false
set_option maxRecDepth 100000
set_option maxHeartbeats 4000000
set_option pp.maxSteps 400

namespace My
open PySem L2 C8 SX
/-! own base: tests, heaps -/
theorem bo_len : bootBuiltins "len" = some (.builtin "len") := by decide +kernel
theorem bo_isinstance : bootBuiltins "isinstance" = some (.builtin "isinstance") := by decide +kernel
theorem bo_min : bootBuiltins "min" = some (.builtin "min") := by decide +kernel
theorem bo_max : bootBuiltins "max" = some (.builtin "max") := by decide +kernel
theorem bo_abs : bootBuiltins "abs" = some (.builtin "abs") := by decide +kernel
theorem bo_int : bootBuiltins "int" = some (.type "int") := by decide +kernel
theorem bo_str : bootBuiltins "str" = some (.type "str") := by decide +kernel
theorem bo_bool : bootBuiltins "bool" = some (.type "bool") := by decide +kernel
theorem bo_list : bootBuiltins "list" = some (.type "list") := by decide +kernel
theorem bo_ord : bootBuiltins "ord" = some (.builtin "ord") := by decide +kernel
theorem bo_chr : bootBuiltins "chr" = some (.builtin "chr") := by decide +kernel
theorem bo_sum : bootBuiltins "sum" = some (.builtin "sum") := by decide +kernel
theorem bo_all : bootBuiltins "all" = some (.builtin "all") := by decide +kernel
theorem bo_any : bootBuiltins "any" = some (.builtin "any") := by decide +kernel
theorem bo_sorted : bootBuiltins "sorted" = some (.builtin "sorted") := by decide +kernel
theorem bo_dict : bootBuiltins "dict" = some (.type "dict") := by decide +kernel
theorem bo_tuple : bootBuiltins "tuple" = some (.type "tuple") := by decide +kernel
theorem iteD {p A B : Prop} [Decidable p] (h1 : p → A) (h2 : ¬ p → B) : if decide p = true then A else B := by
  by_cases h : p
  · rw [decide_eq_true h]; exact iteT (h1 h)
  · rw [decide_eq_false h]; exact iteF (h2 h)
theorem iteN {p A B : Prop} [Decidable p] (h1 : ¬ p → A) (h2 : p → B) : if (!decide p) = true then A else B := by
  by_cases h : p
  · rw [decide_eq_true h]; exact iteF (h2 h)
  · rw [decide_eq_false h]; exact iteT (h1 h)
theorem iteDT {p A B : Prop} [Decidable p] (h : p) (k : A) : if decide p = true then A else B := iteD (fun _ => k) fun z => absurd h z
theorem iteDF {p A B : Prop} [Decidable p] (h : ¬ p) (k : B) : if decide p = true then A else B := iteD (fun z => absurd z h) fun _ => k
theorem iteNT {p A B : Prop} [Decidable p] (h : ¬ p) (k : A) : if (!decide p) = true then A else B := iteN (fun _ => k) fun z => absurd z h
theorem iteNF {p A B : Prop} [Decidable p] (h : p) (k : B) : if (!decide p) = true then A else B := iteN (fun z => absurd h z) fun _ => k
theorem iteB {b : Bool} {A B : Prop} (h1 : b = true → A) (h2 : b = false → B) : if b = true then A else B := by
  cases b with
  | true => exact iteT (h1 rfl)
  | false => exact iteF (h2 rfl)
/-- in a comprehension without a test -/
theorem yes_then {σ : St} {H : Hp} {F G : Hp → Prop} (h : F H) : tYes σ H (fun b H3 => if b = true then F H3 else G H3) := h
/-- all that was tracked stands, but at W -/
def Keep (W : List Addr) (H H' : Hp) : Prop := ∀ b o, H b = some o → b ∉ W → H' b = some o
theorem Keep.refl (W : List Addr) (H : Hp) : Keep W H H := fun _ _ h _ => h
theorem Keep.trans {W : List Addr} {H H1 H2 : Hp} (a : Keep W H H1) (b : Keep W H1 H2) : Keep W H H2 := fun c o h w => b c o (a c o h w) w
theorem Keep.mono {W W' : List Addr} {H H1 : Hp} (a : Keep W H H1) (h : ∀ b, b ∈ W → b ∈ W') : Keep W' H H1 := fun c o q w => a c o q fun z => w (h c z)
theorem Keep.new {W : List Addr} {H : Hp} {p : Addr} {o : HO} (h : H p = none) : Keep W H (upd H p o) := fun b u q _ => by
  rw [upd_ne (ne_of_none q h)]; exact q
theorem Keep.at_ {W : List Addr} {H : Hp} {p : Addr} {o : HO} (h : p ∈ W) : Keep W H (upd H p o) := fun b u q w => by
  rw [upd_ne (fun z => w (by rw [z]; exact h))]; exact q
theorem Keep.then_new {W : List Addr} {H H1 : Hp} {p : Addr} {o : HO} (a : Keep W H H1) (h : H1 p = none) : Keep W H (upd H1 p o) := a.trans (Keep.new h)
theorem Keep.then_at {W : List Addr} {H H1 : Hp} {p : Addr} {o : HO} (a : Keep W H H1) (h : p ∈ W) : Keep W H (upd H1 p o) := a.trans (Keep.at_ h)
/-- what was new since H is not among the kept -/
theorem Keep.then_own {W : List Addr} {H H1 : Hp} {p : Addr} {o : HO} (a : Keep W H H1) (h : H p = none) : Keep W H (upd H1 p o) := fun b u q w => by
  rw [upd_ne (ne_of_none q h)]; exact a b u q w
theorem Keep.free {H H' : Hp} (e : Keep [] H H') {l : Addr} (h : H' l = none) : H l = none := by
  cases q : H l with
  | none => rfl
  | some o => rw [e l o q (by simp)] at h; cases h
theorem Keep.free1 {H H' : Hp} {p : Addr} {o : HO} (e : Keep [p] H H') (hp : H' p = some o) {l : Addr} (h : H' l = none) : H l = none := by
  cases q : H l with
  | none => rfl
  | some u =>
    by_cases z : l = p
    · subst z; rw [hp] at h; cases h
    · rw [e l u q (by simpa using z)] at h; cases h
theorem Keep.seqL {W : List Addr} {K : PySem.W.Frag} {H H' : Hp} {a : Addr} {xs : List V} (e : Keep W H H') (h : SqL K H a xs) (w : a ∉ W) : SqL K H' a xs := by
  rcases h with (h | ⟨o, h⟩) | h
  · exact .inl (.inl (e _ _ h w))
  · exact .inl (.inr ⟨o, e _ _ h w⟩)
  · exact .inr h
theorem Keep.seqT {W : List Addr} {K : PySem.W.Frag} {H H' : Hp} {a : Addr} {xs : List V} (e : Keep W H H') (h : SqT K H a xs) (w : a ∉ W) : SqT K H' a xs := by
  rcases h with (h | ⟨o, h⟩) | h
  · exact .inl (.inl (e _ _ h w))
  · exact .inl (.inr ⟨o, e _ _ h w⟩)
  · exact .inr h
theorem Keep.same {H H' : Hp} (e : Keep [] H H') : Same H H' := fun b o h => e b o h (by simp)
theorem ints_get {ns : List Int} {i : Nat} {v : V} (h : (ns.map V.int)[i]? = some v) : ∃ z, ns[i]? = some z ∧ v = V.int z := by
  rw [List.getElem?_map] at h
  cases e : ns[i]? with
  | none => rw [e] at h; cases h
  | some z => rw [e] at h; exact ⟨z, rfl, (Option.some.inj h).symm⟩
theorem strs_get {ns : List Str} {i : Nat} {v : V} (h : (ns.map V.str)[i]? = some v) : ∃ z, ns[i]? = some z ∧ v = V.str z := by
  rw [List.getElem?_map] at h
  cases e : ns[i]? with
  | none => rw [e] at h; cases h
  | some z => rw [e] at h; exact ⟨z, rfl, (Option.some.inj h).symm⟩
theorem smallM {n : Nat} (h : n ≤ 1000000) : n ≤ sizeLine := Nat.le_trans h (by decide)
theorem smallL {n : Nat} (h : n ≤ 1000000) : n < sizeLine := Nat.lt_of_le_of_lt h (by decide)
/-- a promise that asks the impossible: any def at all keeps it -/
def spNo : Sp := fun _ _ _ _ => False
/-! the same rules with the written part named (within a comprehension) -/
section
variable {X : Cx} {K : PySem.W.Frag}
theorem pe_fldK {e : Expr} {f : Str} {pos : Pos} {ta : TE} (he : PE X e ta) (hb : attributeBase e f X.env (eval e X.env) = eval e X.env) (hK : X.K = K := by rfl) : PE X (.Attribute e f pos) (tFld K ta f) := hK ▸ pe_fld he hb
theorem ix_listK (hK : X.K = K := by rfl) : IxR X (rIxL K) := hK ▸ ix_list
theorem ix_tupK (hK : X.K = K := by rfl) : IxR X (rIxT K) := hK ▸ ix_tup
theorem sl_listK (hK : X.K = K := by rfl) : SlR X (rSlL K) := hK ▸ sl_list
theorem sl_tupK (hK : X.K = K := by rfl) : SlR X (rSlT K) := hK ▸ sl_tup
theorem call_len_seqK (hK : X.K = K := by rfl) : CallR X (.builtin "len") (fun xs H Q => ∃ p ys, xs = [.ref p] ∧ (SqL K H p ys ∨ SqT K H p ys) ∧ Q (.int ys.length) H) := hK ▸ call_len_seq
theorem call_list_ofK (hK : X.K = K := by rfl) : CallR X (.type "list") (fun xs H Q => ∃ p ys, xs = [.ref p] ∧ (SqL K H p ys ∨ SqT K H p ys) ∧ ∀ l, H l = none → Q (.ref l) (upd H l (.lst ys))) := hK ▸ call_list_of
theorem call_isiK2 (hK : X.K = K := by rfl) : CallR X (.builtin "isinstance") (rIsi K) := hK ▸ call_isi
end
/-- behind the making of an instance -/
theorem keep_made {H H2 : Hp} {x dx : Addr} {o : HO} (hx : H x = none) (hd : H dx = none) (k : Keep [x] (upd (upd H dx (.own x)) x o) H2) : Keep [] H H2 := fun b u e _ =>
  k b u (by rw [upd_ne (ne_of_none e hx), upd_ne (ne_of_none e hd)]; exact e) (by simpa using ne_of_none e hx)
theorem kitSelf {K : PySem.W.Frag} {C : Addr} : PySem.W.kitOne K (.ref C) (.ref C) = some true := by
  unfold PySem.W.kitOne
  simp
/-- a call without arguments -/
theorem pe_c0 {X : Cx} {x : Str} {p pos : Pos} {k j : Nat} {sp : Sp} {dvs : List V} (c : C8.Cal X.prog X.w X.K X.mg X.base k x sp dvs) (hr : Room j X.A) (hk : k ≤ j) (hg : Gl X x) (hdb : (x == ("__debug__" : Str)) = false := by decide) :
    PE X (.Call (.Name x p) [] [] pos) (tCall sp dvs C8.E0 tNil) := by
  obtain ⟨f, fd, ps, ds, F, hm, kp, b, d⟩ := c.ex
  exact pe_call0 F (hr.mono hk) hg hm kp b d C8.pass0 hdb

/-! the text by places -/
def top (i : Nat) : Stmt := PySem.Challenge.pw_bothgain_k79_programs_as_whole_numbers.main.body.getD i (.Pass ⟨0, 0, 0, 0⟩)
abbrev s_BadCode___init : Stmt := L2.inClass (top 5) 0
abbrev s_Program___init : Stmt := L2.inClass (top 13) 0
theorem sc_Program___init : FnScope ["self", "sizes", "moves", "rounds", "code"] ["self", "sizes", "moves", "rounds"] (fnScope s_Program___init) := fnScope_by (by decide +kernel)
abbrev s_Program___eq : Stmt := L2.inClass (top 13) 1
theorem sc_Program___eq : FnScope ["self", "other"] ["self", "other"] (fnScope s_Program___eq) := fnScope_by (by decide +kernel)
abbrev s_program_numbers : Stmt := top 15
theorem sc_program_numbers : FnScope ["program", "numbers", "player", "count", "code", "name", "argument"] ["program"] (fnScope s_program_numbers) := fnScope_by (by decide +kernel)
abbrev s_Numbers___init : Stmt := L2.inClass (top 16) 0
theorem sc_Numbers___init : FnScope ["self", "numbers"] ["self", "numbers"] (fnScope s_Numbers___init) := fnScope_by (by decide +kernel)
abbrev s_Numbers_take : Stmt := L2.inClass (top 16) 1
theorem sc_Numbers_take : FnScope ["self", "least", "most"] ["self", "least", "most"] (fnScope s_Numbers_take) := fnScope_by (by decide +kernel)
abbrev s_Numbers_take_code : Stmt := L2.inClass (top 16) 2
theorem sc_Numbers_take_code : FnScope ["self", "code", "_", "name"] ["self"] (fnScope s_Numbers_take_code) := fnScope_by (by decide +kernel)
abbrev s_read_program : Stmt := top 17
theorem sc_read_program : FnScope ["numbers", "reader", "sizes", "moves", "_", "player", "rounds"] ["numbers"] (fnScope s_read_program) := fnScope_by (by decide +kernel)
abbrev s_law_pool : Stmt := top 19
theorem sc_law_pool : FnScope ["script", "budget"] ["script", "budget"] (fnScope s_law_pool) := fnScope_by (by decide +kernel)
abbrev s_law_draw : Stmt := top 20
theorem sc_law_draw : FnScope ["pool", "size", "cell", "value"] ["pool", "size"] (fnScope s_law_draw) := fnScope_by (by decide +kernel)
abbrev s_law_few : Stmt := top 21
theorem sc_law_few : FnScope ["pool", "most", "few"] ["pool", "most"] (fnScope s_law_few) := fnScope_by (by decide +kernel)
abbrev s_law_number : Stmt := top 22
theorem sc_law_number : FnScope ["pool"] ["pool"] (fnScope s_law_number) := fnScope_by (by decide +kernel)
abbrev s_law_same : Stmt := top 23
theorem sc_law_same : FnScope ["actual", "due", "k"] ["actual", "due"] (fnScope s_law_same) := fnScope_by (by decide +kernel)
abbrev s_law_names_of_code : Stmt := top 24
theorem sc_law_names_of_code : FnScope ["text"] [] (fnScope s_law_names_of_code) := fnScope_by (by decide +kernel)
abbrev s_law_row : Stmt := top 25
theorem sc_law_row : FnScope ["pool", "names", "sizes", "moves", "rounds", "k", "many", "code", "at"] ["pool"] (fnScope s_law_row) := fnScope_by (by decide +kernel)
abbrev s_law_numbers : Stmt := top 26
theorem sc_law_numbers : FnScope ["row", "numbers", "move", "code", "pair", "size"] ["row"] (fnScope s_law_numbers) := fnScope_by (by decide +kernel)
abbrev s_law_read : Stmt := top 27
theorem sc_law_read : FnScope ["numbers", "passed", "program", "e"] ["numbers"] (fnScope s_law_read) := fnScope_by (by decide +kernel)
abbrev s_law_beyond : Stmt := top 28
theorem sc_law_beyond : FnScope ["pool", "least", "most", "far"] ["pool", "least", "most"] (fnScope s_law_beyond) := fnScope_by (by decide +kernel)
abbrev s_law_other : Stmt := top 29
theorem sc_law_other : FnScope ["pool", "row", "kind", "sizes", "moves", "rounds", "place", "code"] ["pool", "row"] (fnScope s_law_other) := fnScope_by (by decide +kernel)
abbrev s_law_spoilt : Stmt := top 30
theorem sc_law_spoilt : FnScope ["pool", "rows", "numbers", "size", "place", "wrong", "spoilt", "cut", "second", "given"] ["pool", "rows", "numbers"] (fnScope s_law_spoilt) := fnScope_by (by decide +kernel)
abbrev s_law : Stmt := top 31
theorem sc_law : FnScope ["script", "pool", "row", "rows", "numbers", "told", "made", "place", "code"] ["script"] (fnScope s_law) := fnScope_by (by decide +kernel)
end My
/-! an own exception class over ValueError (by way of GameError) whose __init__ says super().__init__('..') and keeps its one argument -/
namespace SupX_BadCode
open My PySem L2 C8 PySem.W PySem.Calls PyProof.Rows PySem.HandSPX
/-- what the written part says of the class at C, and of its __init__ at fI -/
structure Txt (P : Program) (K : Frag) (mg : Str → Option Value) (nm : Str) (C fI : Addr) : Prop where
  gC : mg nm = some (.ref C)
  cls : ∃ nm q N bs bm sn sub ab col dd k0 k1 k2 k3 k5, K.lookup C = some (excClassObj nm q C N bs bm true sn sub ab col dd k0 k1 k2 k3 k5 "ValueError.__new__") ∧ refsVE bm = true
  along : ks_superIn K C C "__init__" = some (some (.builtin "ValueError.__init__"))
  veC : subIn K (.ref C) (.type "ValueError") = some true
  sa : findIn K (.ref C) "__setattr__" = some (some (.builtin "object.__setattr__"))
  ga : findIn K (.ref C) "__getattribute__" = some (some (.builtin "BaseException.__getattribute__"))
  gg : findIn K (.ref C) "__getattr__" = some none
  noN : findIn K (.ref C) "at" = some none
  iC : findIn K (.ref C) "__init__" = some (some (.ref fI))
  tC : typeIn K (.ref fI) = some (.type "function")
  kC : keepIn K (.ref C) = true
  exC : subIn K (.ref C) (.type "BaseException") = some true
  tyC : typeIn K (.ref C) = some (.type "type")
  hdC : hasDictIn K C = true
  opq : nsIn K cStatics "thirdparty.any" = some none
  noS : mg "super" = none
  mroC : mroIn K C (.ref C) = some true
  top : (P.main.scope.names.lookup ("super" : Str)).isSome = false
  fn : ∃ (oc : Value) (od : Option Addr) (doc pm : Value) (an : Option Addr) (cda : Addr) (ct : Value) (osl : Array (Option Value)) (cc : Addr) (cl : Value) (cld : Option Addr) (csl : Array (Option Value)) (ccl : Value) (cdd : Option Addr) (vs : Array Value) (ccs : Array (Option Value)) (file : Str) (tf : Tok),
    K.lookup fI = some ⟨oc, od, .func (fnX "__init__" "BadCode.__init__" (fnArgs s_BadCode___init) (fnBody s_BadCode___init) (fnScope s_BadCode___init) [("__class__", cc)] .none .none doc pm an (.ref cda) ct), osl⟩ ∧ codeIn K (.ref cda) "BadCode.__init__" = true ∧
    K.lookup cc = some ⟨cl, cld, .cell (some (.ref C)), csl⟩ ∧ K.lookup cda = some ⟨ccl, cdd, .fields vs, ccs⟩ ∧ vs[2]? = some (.str file tf) ∧ ((P.main.file : Str) == file) = true
/-- what __init__ leaves of a fresh exception at x -/
structure Left (h h' : Heap) (x C dx t1 : Addr) (v : Value) : Prop where
  keep : ∀ b o, b ≠ x → h.get? b = some o → h'.get? b = some o
  obj : h'.get? x = some { cls := .ref C, dict := some dx, data := .fields #[.ref t1, .none, .none, .none, .bool false, .none] }
  dbig : h.objs.size ≤ dx
  dne : dx ≠ x
  ns : h'.Ns1 dx (fun y => if y = "at" then some v else none)
section
variable {prog : Program} {w : World} {A : Around} {E : Value → Shared → Prop} {R : Result → Shared → Prop} {s : Shared} {K : Frag} {mg mb : Str → Option Value} {C fI : Addr} {nm : Str}
/-- such an __init__, run on a fresh exception -/
theorem init (T : Txt prog K mg nm C fI) {x t0 : Addr} {v : Value} (X : K.In s.heap) (hlim : s.heap.NoLimit) (hmg : s.heap.Ns mainGlobals mg) (hmb : s.heap.Ns builtinsNs mb) (hsu : mb "super" = some (.type "super"))
    (hx : s.heap.get? x = some (excO C t0)) (hnx : K.lookup x = none) (hroom : A.depth < recursionLimit)
    (hq : ∀ h' tk dx t1, Left s.heap h' x C dx t1 v → R (.ok (.ret .none)) { s with heap := h', toks := tk }) :
    codeAny (model prog w) A (.call (.ref fI) ⟨[.ref x, v], []⟩) R s := by
  obtain ⟨oc, od, doc, pm, an, cda, ct, osl, cc, cl, cld, csl, ccl, cdd, vs, ccs, file, tf, ho, hcd, hcc, hcda, hvs, hfile⟩ := T.fn
  obtain ⟨nmC, q, N, bs, bm, sn, sub, ab, col, dd, k0, k1, k2, k3, k5, hC, hbm⟩ := T.cls
  have hcl : clsIn K C = some { name := nmC, bases := bs, mro := .ref C :: bm, ns := N, qualname := q, hasDict := true, slotNames := sn, subclasses := sub, abstract := ab, collection := col, hasDel := false } := by unfold clsIn; rw [hC] <;> rfl
  have hal := T.along
  unfold ks_superIn at hal
  rw [hcl] at hal
  have hxC : x ≠ C := fun z => by rw [z, hC] at hnx; cases hnx
  refine ks_codeAny_call_defAt (fd := fnX "__init__" "BadCode.__init__" (fnArgs s_BadCode___init) (fnBody s_BadCode___init) (fnScope s_BadCode___init) [("__class__", cc)] .none .none doc pm an (.ref cda) ct) (binds := [("self", .ref x), ("at", v)]) hroom (X _ _ ho) rfl hlim
    (codeRec_of X hcd) rfl ?hb ?hcell ?hloc (fun h₁ hns k => ?_) rfl rfl rfl
  case hb => exact BindsTo.of_eq (by first | rfl | with_unfolding_all rfl)
  case hcell =>
    show ∀ x ∈ (fnScope s_BadCode___init).names, x.2 ≠ .cell
    decide +kernel
  case hloc =>
    intro y hy
    rcases List.mem_cons.mp hy with rfl | hy
    · first | rfl | kernel_rfl
    · rw [List.mem_singleton.mp hy]
      first | rfl | kernel_rfl
  have X1 : K.In h₁ := X.keeps k
  have hx1 := k _ _ hx
  have hxL : s.heap.objs.size ≠ x := Nat.ne_of_gt (Heap.lt_size hx)
  show PySem.wpAt _ (A.deeper (ksEnv "BadCode.__init__" (fnScope s_BadCode___init) s.heap.objs.size fI (.ref cda) cc)) (.func (fnBody s_BadCode___init) (ksEnv "BadCode.__init__" (fnScope s_BadCode___init) s.heap.objs.size fI (.ref cda) cc)) (execs (fnBody s_BadCode___init) (ksEnv "BadCode.__init__" (fnScope s_BadCode___init) s.heap.objs.size fI (.ref cda) cc)) _ _ _
  refine ks_wpAt_execs_cons (ks_wpAt_Expr_any (ks_wpAt_MethodCall ?_))
  obtain ⟨arS, har, hars⟩ : ∃ ar, ((fnArgs s_BadCode___init).posonlyargs ++ (fnArgs s_BadCode___init).args).head? = some ar ∧ ar.arg = "self" := ⟨_, rfl, rfl⟩
  refine ks_wpAt_super_base (f := fI) (cc := cda) (file := file) (tf := tf) (vs := vs) (ar := arS) rfl rfl (by decide) rfl (X1 _ _ ho) rfl har rfl (X1 _ _ hcda) rfl hvs hfile T.top ?_
  refine ks_loadName_global rfl rfl (loadGlobal_builtin (hmg.keeps k) T.noS (hmb.keeps k) hsu ⟨rfl, ?_⟩)
  refine wpAny_loadName_free rfl rfl (c := cc) rfl ⟨_, X1 _ _ hcc, rfl⟩ ?_
  rw [hars]
  refine wpAny_loadName_local rfl rfl hns (v := .ref x) ?_ ?_
  · first | rfl | with_unfolding_all rfl | kernel_rfl
  refine ks_wpAny_isType_cls (X1 _ _ hC) rfl ⟨rfl, ?_⟩
  refine ks_wpAny_call_super (X1 _ _ hC) rfl hx1 rfl (fun c e => by cases e) (looks_mroIn X1 T.mroC) (fun h2 e2 g2 => ?_)
  have X2 : K.In h2 := X1.keeps g2
  have hx2 := g2 _ _ hx1
  have hI : InstAt h2 x (excO C t0) C none := ⟨hx2, rfl, rfl, trivial⟩
  refine kxs_getMethod kxs_ValueError e2 (looks_opaque X2 T.opq) (l₀ := .ref C :: bm) ((looks_clsIn X2 hcl).andThen .now) rfl X2 hal (hI.type.andThen (looks_subIn X2 T.veC)) hxC (by decide) ?_
  have up3 : ∀ b o, h2.get? b = some o → (h2.push (kxs_mw "ValueError.__init__" x)).get? b = some o := fun b o e => Heap.get?_push_of_some _ e
  have hw3 : (h2.push (kxs_mw "ValueError.__init__" x)).get? h2.objs.size = some (kxs_mw "ValueError.__init__" x) := Heap.get?_push_at rfl rfl
  generalize h2.push (kxs_mw "ValueError.__init__" x) = h3 at *
  refine kxs_callWith1 (u := h2.objs.size) (i := "ValueError.__init__") (x := x) (h₀ := h2) (L := x) (news := [(h2.objs.size, kxs_mw "ValueError.__init__" x)]) (fun p hp => ?_) (by simp) ?_
  · rw [List.mem_singleton] at hp
    subst hp
    exact ⟨hw3, fun z => absurd (Heap.lt_size hx2) (by rw [← show h2.objs.size = x from z]; exact Nat.lt_irrefl _), by
      cases e : h2.get? h2.objs.size with
      | none => rfl
      | some o => exact absurd (Heap.lt_size e) (Nat.lt_irrefl _)⟩
  refine PyProof.Rows.spliced_more (wpAny_Constant_str (PyProof.Rows.spliced_none ⟨hw3, ?_⟩))
  refine wpAny_call (codeAny_of_tree ?_)
  show wpAny _ _ (callAny (.ref h2.objs.size) ⟨[_], []⟩) _ _ _
  have hmwT : (Value.type "method-wrapper" == Value.type "method" || Value.type "method-wrapper" == Value.type "builtin_function_or_method" || Value.type "method-wrapper" == Value.type "method-wrapper") = true := by decide
  simp only [callAny]
  refine wpAny_bind (wpAny_load hw3 ?_)
  simp only [kxs_mw, hmwT, if_true]
  have X3 : K.In h3 := X2.keeps up3
  have hx3 := up3 _ _ hx2
  refine KFB.if_so (by decide) (wpAny_bind (check_bound_init F.excBase_ValueError.toExcCallFacts (X3 _ _ hC) hx3 rfl (wpAny_bind (wpAny_pure (wpAny_pure ⟨plainId_quiet F.excBase_ValueError.init.plain _, codeAny_builtin F.excBase_ValueError.initEntry ?_⟩)))))
  refine exc_init_tree (cls := .ref C) (t0 := t0) (dv := none) (c2 := .none) (c3 := .none) (b4 := .bool false) hx3 (by show 1 ≤ sizeLine; decide) (fun h4 k4 hx4 _ => ?_)
  have X4 : K.In h4 := fun a o e => k4 a o (fun z => by rw [z, hnx] at e; cases e) (X3 a o e)
  have old : ∀ b o, b ≠ x → h₁.get? b = some o → h4.get? b = some o := fun b o hb e => k4 b o hb (up3 b o (g2 b o e))
  have hns4 := hns.at (h' := h4) fun o e => old _ o hxL e
  refine wpAt_of_wpAny (wpAny_execs_cons (plainObj_wpAny_Assign_Attribute (wpAny_Name (wpAny_loadName_local rfl rfl hns4 (v := v) ?_ (wpAny_Name (wpAny_loadName_local rfl rfl hns4 (v := .ref x) ?_ ?_))))))
  · first | rfl | with_unfolding_all rfl | kernel_rfl
  · first | rfl | with_unfolding_all rfl | kernel_rfl
  refine set_plain X4 (ox := excO C h3.objs.size) (od := none) ⟨hx4, rfl, rfl, trivial⟩ T.sa ?_
  refine exc_osa X4 hx4 hcl (show refsVE (.ref C :: bm) = true from hbm) rfl T.noN (fun h5 tk5 dx k5 dn dne hx5 hn5 => wpAny_execs_nil (hq h5 tk5 dx _ ⟨fun b o hb e => k5 b o hb (old b o hb (k b o e)), hx5, ?_, dne, hn5⟩))
  exact Nat.le_of_lt (Nat.lt_of_lt_of_le hns4.lt dn)
/-- a made one -/
structure Made (h h' : Heap) (e C d : Addr) (v : Value) : Prop where
  keep : ∀ b o, h.get? b = some o → h'.get? b = some o
  new : h.objs.size ≤ e
  obj : ∃ oe vs, h'.get? e = some oe ∧ oe.cls = .ref C ∧ oe.dict = some d ∧ oe.data = .fields vs ∧ vs[1]? = some .none
  dbig : h.objs.size ≤ d
  dne : d ≠ e
  ns : h'.Ns1 d (fun y => if y = "at" then some v else none)
theorem made (T : Txt prog K mg nm C fI) {v : Value} (X : K.In s.heap) (hlim : s.heap.NoLimit) (hmg : s.heap.Ns mainGlobals mg) (hmb : s.heap.Ns builtinsNs mb) (hsu : mb "super" = some (.type "super")) (hroom : A.depth + 1 < recursionLimit)
    (hq : ∀ h' tk e d, Made s.heap h' e C d v → R (.ok (.ret (.ref e))) { s with heap := h', toks := tk }) : codeAny (model prog w) A (.call (.ref C) ⟨[v], []⟩) R s := by
  obtain ⟨nmC, q, N, bs, bm, sn, sub, ab, col, dd, k0, k1, k2, k3, k5, hC, hbm⟩ := T.cls
  obtain ⟨hp, g, dr, tk, os⟩ := s
  have up : ∀ b o, hp.get? b = some o → ((hp.push (kdv_tup [v])).push (excO C hp.objs.size)).get? b = some o := fun b o e => Heap.get?_push_of_some _ (Heap.get?_push_of_some _ e)
  have at2 : ((hp.push (kdv_tup [v])).push (excO C hp.objs.size)).get? (hp.objs.size + 1) = some (excO C hp.objs.size) := by heap_get
  have none2 : K.lookup (hp.objs.size + 1) = none := by
    cases e : K.lookup (hp.objs.size + 1) with
    | none => rfl
    | some o => exact absurd (Nat.lt_of_succ_lt (Heap.lt_size (show hp.get? (hp.objs.size + 1) = some o from X _ _ e))) (Nat.lt_irrefl _)
  refine call_own F.excBase_ValueError (fun Y => refsVE_contains Y bm hbm) (X _ _ hC) (looks_findIn X T.iC) (fun self => bind_fn X self T.tC) (by show 1 ≤ sizeLine; decide) ?_
  refine init (s := ⟨(hp.push (kdv_tup [v])).push (excO C hp.objs.size), g, dr, tk, os⟩) T (X.keeps up) (hlim.keeps up) (hmg.keeps up) (hmb.keeps up) hsu at2 none2 ?_ fun h' tk' dx t1 L => ⟨rfl, ?_⟩
  · show A.depth + 1 < recursionLimit
    exact hroom
  · have big : hp.objs.size + 1 + 1 ≤ dx := by
      have z := L.dbig
      rw [Heap.size_push, Heap.size_push] at z
      exact z
    exact hq h' tk' (hp.objs.size + 1) dx ⟨fun b o e => L.keep b o (Nat.ne_of_lt (Nat.lt_succ_of_lt (Heap.lt_size e))) (up b o e), Nat.le_succ _, ⟨_, _, L.obj, rfl, rfl, rfl, rfl⟩, Nat.le_trans (Nat.le_trans (Nat.le_succ _) (Nat.le_succ _)) big, L.dne, L.ns⟩
end
/-! the rules -/
theorem relO_fld {v : V} {u : Value} (r : RelV v u) (f : Str) : RelO (List.lookup f [(("at" : Str), v)]) (if f = "at" then some u else none) := by
  by_cases h : f = "at"
  · subst h
    have q : List.lookup ("at" : Str) [(("at" : Str), v)] = some v := by simp [List.lookup]
    rw [q, if_pos rfl]
    exact r
  · have e : (f == ("at" : Str)) = false := by simpa using h
    rw [if_neg h]
    simp [List.lookup, e]
    trivial
/-- BadCode(e), raised -/
def tMkE (C : Addr) (ta : TA) : L2.St → Hp → XK → Prop := fun σ H Q => ta σ H fun vs H1 => ∃ v, vs = [v] ∧ ∀ d, H1 d = none → Q (.ref C) (some d) (upd H1 d (.xd [(("at" : Str), v)]))
section
variable {X : Cx} {C fI : Addr} {nm : Str}
theorem pmk {a : Expr} {ta : TA} {p pos : Pos} {k : Nat} (T : Txt X.prog X.K X.mg nm C fI) (hr : Room k X.A) (ha : PA X [a] ta) (hg : Gl X nm := by rfl) (hdb : (nm == ("__debug__" : Str)) = false := by decide)
    (he : starEach (a :: []) X.env = (false, eval a X.env) :: starEach [] X.env := by rfl) (hpl : (backTo pos (starEach [] X.env)).any (·.1) = false := by rfl) :
    PMk X (.Call (.Name nm p) [a] [] pos) (tMkE C ta) := by
  intro pins s σ H Q I h
  refine wpAny_Call_Name_kw (ld_glob I hg T.gC ?_ hdb)
  refine PySem.W.callWith_K (h₀ := X.base) I.ok.mod.kin T.kC (thn (ha.run pos pins s σ H _ I h) fun us s1 hh => ?_) he hpl
  obtain ⟨vs, H1, I1, r1, v, ev, q1⟩ := hh
  subst ev
  refine ⟨I1.kIn, ?_⟩
  cases r1 with
  | cons rv rn =>
    rename_i u us'
    cases rn
    show wpAny _ _ (call (.ref C) [u]) _ _ _
    have lim := I1.nolimit
    obtain ⟨mb, hmb1, hmb2⟩ := I1.mod.blt
    have hg1 := I1.mod.glob.keeps I1.bk
    have hb1 := hmb1.keeps I1.bk
    have hsu : mb "super" = some (.type "super") := (hmb2 _ (by decide)).trans (by decide +kernel)
    obtain ⟨hp, g, dr, tk, os⟩ := s1
    refine wpAny_call (made (mb := mb) T I1.kIn lim hg1 hb1 hsu (by have := hr.dp; omega) fun h' tk' e d M => ?_)
    show MkP X pins σ Q (.ref e) ⟨h', g, dr, tk', os⟩
    obtain ⟨oe, fv, hoe, hc, hd, hdat, h1⟩ := M.obj
    obtain ⟨G', g1, g2⟩ := restrict h' fun b => decide (b ≠ e)
    have there : ∀ b, b ≠ e → G'.get? b = h'.get? b := fun b hb => g1 b (decide_eq_true hb)
    have gone : G'.get? e = none := g2 e (by simp)
    have J : Inv X pins σ (upd H1 d (.xd [(("at" : Str), v)])) ⟨G', g, dr, tk', os⟩ := I1.laid (t' := tk') (fun b o q => (there b (Nat.ne_of_lt (Nat.lt_of_lt_of_le (Heap.lt_size q) M.new))).trans (M.keep b o q)) M.dbig
      ⟨_, M.ns.at (fun o q => (there d M.dne).trans q), fun f => relO_fld rv f⟩
    refine ⟨e, oe, fv, ⟨G', g, dr, tk', os⟩, _, .ref C, some d, rfl, J, fun b o q => ?_, gone, hoe, ⟨hc, hd⟩, hdat, h1, ?_, rfl, I1.bare, raises_own T.exC T.tyC, q1 d (I1.hok.fresh M.dbig)⟩
    · by_cases hb : b = e
      · have q' : G'.get? b = some o := q
        rw [hb, gone] at q'; cases q'
      · exact (there b hb).symm.trans q
    · rw [upd_ne (Ne.symm M.dne)]
      exact I1.hok.fresh M.new
/-- raise BadCode(e) -/
def tRaiseE (C : Addr) (W : WX) (ta : TA) : TS := fun _ σ H => tMkE C ta σ H fun cls d H' => W cls d σ H'
theorem ps_raiseE {a : Expr} {ta : TA} {W : WX} {p pos pos2 : Pos} {k : Nat} (hc : X.calm = true) (T : Txt X.prog X.K X.mg nm C fI) (hr : Room k X.A) (tk : Takes X W) (ha : PA X [a] ta) (hg : Gl X nm := by rfl) (hdb : (nm == ("__debug__" : Str)) = false := by decide)
    (he : starEach (a :: []) X.env = (false, eval a X.env) :: starEach [] X.env := by rfl) (hpl : (backTo pos (starEach [] X.env)).any (·.1) = false := by rfl) :
    PS X (.Raise (some (.Call (.Name nm p) [a] [] pos)) none pos2) (tRaiseE C W ta) := ps_raise hc tk (pmk T hr ha hg hdb he hpl)
end
end SupX_BadCode

namespace My
open PySem L2 C8 SX
end My
/-! isinstance(e, ..) of a caught error of an own class that has its dict -/
namespace ExIs
open PySem PySem.W PySem.Spec PySem.Calls PyProof.Rows
/-- what the class at D must say -/
structure ErrC (K : Frag) (D : Addr) : Prop where
  ga : findIn K (.ref D) "__getattribute__" = some (some (.builtin "BaseException.__getattribute__"))
  gg : findIn K (.ref D) "__getattr__" = some none
  exC : subIn K (.ref D) (.type "BaseException") = some true
  hdC : hasDictIn K D = true
  ca : findIn K (.ref D) "__class__" = some (some (.builtin "object.__class__"))
  sp : specialIn K (.builtin "object.__class__") "__get__" = some (some (.builtin "getset_descriptor.__get__"))
  tk : takesIn K (.builtin "object.__class__") = some true
  mo : mroIn K D (.type "object") = some true
theorem ErrC.clsThere {K : Frag} {D : Addr} (T : ErrC K D) : ∃ cd, clsIn K D = some cd := by
  obtain ⟨cd, hc, _⟩ := any_some T.hdC
  exact ⟨cd, hc⟩
theorem ErrC.binds {K : Frag} {D : Addr} (T : ErrC K D) (od : Option Obj) : findObj K D od "__class__" = some (.bind (.builtin "getset_descriptor.__get__") (.builtin "object.__class__")) := by
  obtain ⟨cd, hcd⟩ := T.clsThere
  have e1 := T.ca
  have e2 := T.sp
  have e3 := T.tk
  unfold findObj
  rw [hcd, Option.bind_some, e1, Option.bind_some]
  simp [e2, e3]
section
variable {prog : Program} {w : World} {A : Around} {E : Value → Shared → Prop} {s : Shared} {K : Frag} {x D : Addr} {ox : Obj} {od : Option Obj}
theorem askClass {Q : Option Value → Shared → Prop} (T : ErrC K D) (X : K.In s.heap) (I : InstAt s.heap x ox D od) (h : Q (some (.ref D)) { s with toks := s.toks + 1 }) : wpAny (model prog w) A (getAttr? (.ref x) "__class__") Q E s := by
  obtain ⟨hp, gs, dr, tok, os⟩ := s
  have ty := I.type (M := model prog w)
  have lga := looks_findIn (M := model prog w) X T.ga
  have lgg := looks_findIn (M := model prog w) X T.gg
  have lcl := looks_find (M := model prog w) X I (T.binds od)
  have isB : Looks (model prog w) hp (isInstance (.ref x) (.type "BaseException")) true := ty.andThen (looks_subIn X T.exC)
  have nq : (Value.builtin "BaseException.__getattribute__" == Value.builtin "object.__getattribute__") = false := by decide +kernel
  unfold getAttr? getAttrBy? getAttrBy
  refine wpAny_bind (wpAny_mkText (wpAny_bind (wpAny_attempt (wpAny_holding (wpAny_bind (ty.at (wpAny_bind (lga.at (?goal : _))))))))) 
  show wpAny _ _ (ite ((onTheHeap (Value.ref D) && Value.builtin "BaseException.__getattribute__" == Value.builtin "object.__getattribute__") = true) _ _) _ _ _
  rw [if_neg (by rw [nq]; simp)]
  unfold getAttrByItsOwn hookBefore
  refine wpAny_bind (?g2 : _)
  have onH : onTheHeap (Value.ref D) = true := rfl
  rw [if_pos onH]
  refine lgg.at (wpAny_bind (wpAny_attempt (wpAny_holding (?g3 : _))))
  unfold callGetattribute
  rw [if_neg (by simp)]
  unfold boundAndCalled
  rw [PySem.F.excAttr_ValueError.ga.bind (.ref x)]
  refine wpAny_bind (wpAny_pure (?g4 : _))
  show wpAny _ _ (call (.builtin "BaseException.__getattribute__") [.ref x, .str "__class__" tok]) _ _ _
  refine wpAny_call (codeAny_call_builtin PySem.F.excAttr_ValueError.ga.plain PySem.F.entry_bexc_ga (@check_slot (model prog w) _ _ ⟨hp, gs, dr, tok + 1, os⟩ "BaseException.__getattribute__" "BaseException" "__getattribute__" (.ref x) [.str "__class__" tok] [] _ (by decide +kernel) (by decide +kernel) isB
    (PySem.F.args_bexc_ga (.ref x) (.str "__class__" tok)) (?g5 : _)))
  unfold Builtin.«object.__getattribute__»
  refine wpAny_bind (wpAny_of_eq (a := ((Value.ref x : Value), [Value.str "__class__" tok])) (by first | rfl | (simp only [slotArgs]; rfl)) (wpAny_bind (wpAny_pure (wpAny_bind (ty.at (wpAny_bind (lcl.at (?g6 : _))))))))
  show wpAny _ _ (holding [Value.builtin "object.__class__"] (call (.builtin "getset_descriptor.__get__") [.builtin "object.__class__", .ref x, .ref D]) >>= ret) _ _ _
  refine wpAny_bind (wpAny_holding (wpAny_call (class_get (s := ⟨hp, gs, dr, tok + 1, os⟩) (ox := ox) (od := od) X I T.mo (wpAny_pure (?g7 : _)))))
  show wpAny _ _ (handedOut (.ref D)) _ _ _
  rw [handedOut_of (v := .ref D) rfl]
  first | exact wpAny_pure (wpAny_pure h) | exact wpAny_pure h | exact wpAny_pure (wpAny_bind (wpAny_pure (wpAny_pure h)))
theorem kit (T : ErrC K D) : KitX K (.ref x) (.ref D) (fun h => InstAt h x ox D od) where
  ty := fun _ _ _ I => I.type
  it := fun _ _ X _ => by
    obtain ⟨cd, hcd⟩ := T.clsThere
    unfold clsIn at hcd
    split at hcd
    · rename_i c' d' cd' sl' ho
      intro A' Q' E' s' k q
      unfold isType loadHead
      exact wpAny_bind (wpAny_loadPart (k _ _ (X _ _ ho)) (wpAny_pure q))
    · cases hcd
  ne := fun h tp dd its n sl X htp => Bool.eq_false_iff.mpr fun q => by
    obtain ⟨cd, hcd⟩ := T.clsThere
    have e : D = tp := Value.ref.inj (beq_iff_eq.mp q)
    subst e
    unfold clsIn at hcd
    split at hcd
    · rename_i c' d' cd' sl' ho
      cases (X _ _ ho).symm.trans htp
    · cases hcd
  ca := fun X I k => askClass T X I k
end
end ExIs
namespace L2
open PySem PySem.Spec PyProof.Rows
theorem inst_of {X : Cx} {pins : List (Addr × Obj)} {σ : L2.St} {H : Hp} {s : Shared} {a D dd : Addr} {oe : Obj} {pn : List (Addr × Obj)} {fs : List (Str × V)} (I : Inv (X.suite a ((a, oe) :: pn)) pins σ H s) (hz : Zc (.ref D) (some dd) oe) (hf : ∃ vs, oe.data = .fields vs) (he : H dd = some (.xd fs)) :
    ∃ od, PySem.W.InstAt s.heap a oe D (some od) := by
  obtain ⟨ha, _⟩ := I.pin (a, oe) (List.mem_append_left _ List.mem_cons_self)
  obtain ⟨vs, hd⟩ := hf
  have hx : ObjOk X.prog X.w H s.heap dd (.xd fs) := I.hok dd _ he
  obtain ⟨mA, hns, _⟩ := hx
  obtain ⟨od, ho, _⟩ := lookIn_ns hns
  exact ⟨od, ha, hz.1, by unfold PySem.W.notCls; rw [hd] <;> rfl, by rw [hz.2]; exact ho⟩
/-- isinstance(e, C), e the caught exception -/
def rIsX (K : PySem.W.Frag) (a : Addr) (cls : Value) (d : Option Addr) : List V → Hp → VK → Prop := fun xs H Q => ∃ (D C dd : Addr) (fs : List (Str × V)) (b : Bool), xs = [.ref a, .ref C] ∧ cls = .ref D ∧ d = some dd ∧ ExIs.ErrC K D ∧ H dd = some (.xd fs) ∧ PySem.W.kitOne K (.ref D) (.ref C) = some b ∧ Q (.bl b) H
theorem call_isX {X : Cx} {a : Addr} {cls : Value} {d : Option Addr} {oe : Obj} {pn : List (Addr × Obj)} (hz : Zc cls d oe) (hf : ∃ vs, oe.data = .fields vs) : CallR (X.suite a ((a, oe) :: pn)) (.builtin "isinstance") (rIsX X.K a cls d) := by
  intro pins s σ H xs us Q I r h
  obtain ⟨D, C, dd, fs, b, rfl, rfl, rfl, T, hx, e, q⟩ := h
  obtain ⟨u1, u2, rfl, r1, r2⟩ := vals2 r
  cases (show u1 = Value.ref a from r1)
  cases (show u2 = Value.ref C from r2)
  obtain ⟨od, J⟩ := inst_of I hz hf hx
  exact PySem.W.kia_one (ExIs.kit T) I.kIn J e (fun z => nomatch z) fun tk => ⟨.bl b, H, I.tok tk, rfl, q⟩
theorem crefs_of {cs : List Addr} {its : List Value} (h : Vals (cs.map V.ref) its) : its = cs.map Value.ref := by
  induction cs generalizing its with
  | nil => cases h; rfl
  | cons c cs ih =>
    cases h with
    | cons h1 h2 => rw [ih h2]; cases (show _ = Value.ref c from h1); rfl
/-- isinstance(e, (C1, ..)) -/
def rIsXT (K : PySem.W.Frag) (a : Addr) (cls : Value) (d : Option Addr) : List V → Hp → VK → Prop := fun xs H Q => ∃ (D tp dd : Addr) (cs : List Addr) (fs : List (Str × V)) (b : Bool), xs = [.ref a, .ref tp] ∧ cls = .ref D ∧ d = some dd ∧ ExIs.ErrC K D ∧ H dd = some (.xd fs) ∧ H tp = some (.tup (cs.map V.ref)) ∧
  PySem.W.kitAny K (.ref D) (cs.map Value.ref) = some b ∧ Q (.bl b) H
theorem call_isXT {X : Cx} {a : Addr} {cls : Value} {d : Option Addr} {oe : Obj} {pn : List (Addr × Obj)} (hz : Zc cls d oe) (hf : ∃ vs, oe.data = .fields vs) : CallR (X.suite a ((a, oe) :: pn)) (.builtin "isinstance") (rIsXT X.K a cls d) := by
  intro pins s σ H xs us Q I r h
  obtain ⟨D, tp, dd, cs, fs, b, rfl, rfl, rfl, T, hx, hT, e, q⟩ := h
  obtain ⟨u1, u2, rfl, r1, r2⟩ := vals2 r
  cases (show u1 = Value.ref a from r1)
  cases (show u2 = Value.ref tp from r2)
  obtain ⟨od, J⟩ := inst_of I hz hf hx
  obtain ⟨_, its, rv, o, h1, h2, n, h3⟩ := (show ObjOk X.prog X.w H s.heap tp (.tup (cs.map V.ref)) from I.hok tp _ hT)
  have e3 := crefs_of rv
  subst e3
  obtain ⟨oc, od2, dt, sl⟩ := o
  simp only at h2 h3
  subst h2 h3
  exact PySem.W.kia_tup (ExIs.kit T) I.kIn J h1 e (fun z => nomatch z) fun tk => ⟨.bl b, H, I.tok tk, rfl, q⟩
end L2
namespace My
open PySem L2 C8 SX

/-- what the walk asks of the module -/
structure Txt (K : PySem.W.Frag) (mg : Str → Option Value) (C_Program : Addr) (C_Numbers : Addr) (C_GameError : Addr) (C_BadText : Addr) (C_TooLarge : Addr) (C_BadMove : Addr) (C_BadCode : Addr) (T_NAMES : Addr) : Prop where
  n_bool : mg "bool" = none
  n_int : mg "int" = none
  n_isinstance : mg "isinstance" = none
  n_len : mg "len" = none
  n_list : mg "list" = none
  n_min : mg "min" = none
  n_range : mg "range" = none
  n_str : mg "str" = none
  n_tuple : mg "tuple" = none
  cl_Program : Cls K C_Program
  m_Program : mg "Program" = some (.ref C_Program)
  i_Program : InsC K C_Program
  a_Program_sizes : NoAttr K C_Program "sizes"
  a_Program_moves : NoAttr K C_Program "moves"
  a_Program_rounds : NoAttr K C_Program "rounds"
  cl_Numbers : Cls K C_Numbers
  m_Numbers : mg "Numbers" = some (.ref C_Numbers)
  i_Numbers : InsC K C_Numbers
  a_Numbers_numbers : NoAttr K C_Numbers "numbers"
  a_Numbers_at : NoAttr K C_Numbers "at"
  v_GREATEST : ∃ u, mg "GREATEST" = some u ∧ RelV (.int 65535) u
  v_NAMES : ∃ u, mg "NAMES" = some u ∧ RelV (.ref T_NAMES) u
  q_NAMES : ∀ H : Hp, SqT K H T_NAMES ((["push", "load", "store", "sign", "jump", "skip", "lot", "end", "ask", "show", "pay", "take", "view", "long", "unit", "back"] : List Str).map V.str)
  d_NAMES : ∃ o, K.lookup T_NAMES = some o ∧ o.cls = .type "tuple" ∧ o.dict = none
  v_MOST_MOVES : ∃ u, mg "MOST_MOVES" = some u ∧ RelV (.int 8) u
  v_MOST_BRANCHINGS : ∃ u, mg "MOST_BRANCHINGS" = some u ∧ RelV (.int 24) u
  v_MOST_VARIABLES : ∃ u, mg "MOST_VARIABLES" = some u ∧ RelV (.int 12) u
  v_MOST_ROUNDS : ∃ u, mg "MOST_ROUNDS" = some u ∧ RelV (.int 8) u
  m_GameError : mg "GameError" = some (.ref C_GameError)
  m_BadText : mg "BadText" = some (.ref C_BadText)
  m_TooLarge : mg "TooLarge" = some (.ref C_TooLarge)
  m_BadMove : mg "BadMove" = some (.ref C_BadMove)
  m_BadCode : mg "BadCode" = some (.ref C_BadCode)
  e_BadCode : ExIs.ErrC K C_BadCode
  f_BadCode : XfC K C_BadCode
  no_BadCode : PySem.W.findIn K (.ref C_BadCode) "at" = some none
  x_BadCode : PySem.W.exmOne K (.ref C_BadCode) (.ref C_BadCode) = some true
  kit1 : PySem.W.kitOne K (.ref C_BadCode) (.ref C_GameError) = some true
  kit2 : PySem.W.kitAny K (.ref C_BadCode) [.ref C_BadMove, .ref C_BadText, .ref C_TooLarge] = some false
  ok : True
/-! defs that raise: their promise, their calls (in a def that raises, in a try) -/
structure CalX (P : Program) (w : World) (K : PySem.W.Frag) (mg : Str → Option Value) (base : Heap) (k : Nat) (x : Str) (sp : Sp) (dvs : List V) : Prop where
  ex : ∃ (f : Addr) (fd : FuncData) (ps : List Str) (ds : List Value), FnOk P w K mg base (L2.CX P w) k f fd ps sp ∧ mg x = some (.ref f) ∧ PySem.W.keepIn K (.ref f) = true ∧ Binds K fd ps ds ∧ Vals dvs ds
/-- .. called with keywords -/
structure CalXK (P : Program) (w : World) (K : PySem.W.Frag) (mg : Str → Option Value) (base : Heap) (k : Nat) (x : Str) (sp : Sp) (n : Nat) (ks : List Str) (gV : List V → List V → List V) : Prop where
  ex : ∃ (f : Addr) (fd : FuncData) (ps : List Str) (g : List Value → List Value → List Value), FnOk P w K mg base (L2.CX P w) k f fd ps sp ∧ mg x = some (.ref f) ∧ PySem.W.keepIn K (.ref f) = true ∧ KBn K fd ps n ks g gV
structure MetX (P : Program) (w : World) (K : PySem.W.Frag) (mg : Str → Option Value) (base : Heap) (k : Nat) (C : Addr) (m : Str) (sp : Sp) (dvs : List V) : Prop where
  ex : ∃ (f : Addr) (fd : FuncData) (ps : List Str) (ds : List Value), Cls K C ∧ Meth K C m f ∧ FnOk P w K mg base (L2.CX P w) k f fd ps sp ∧ Binds K fd ps ds ∧ Vals dvs ds
section
variable {P : Program} {w : World} {K : PySem.W.Frag} {mg : Str → Option Value} {base : Heap}
theorem fnx {x qual : Str} {st : Stmt} {f : Addr} {fd : FuncData} {N ps : List Str} {k : Nat} {sp : Sp} (F : C8.Fun K x qual st f fd) (S : FnScope N ps (fnScope st)) (len : ∀ vs H Q E, sp vs H Q E → vs.length = ps.length)
    (hbody : ∀ (cdv : Value) (A : Around) (outer : List Env) (s : Shared) (H : Hp) (vs : List V) (Q : VK) (E : XK), Room k (A.deeper (PyProof.Rows.envOfC qual (fnScope st) s.heap.objs.size f cdv)) → sp vs H Q E →
      ∃ t, PSs (cxOf (L2.CX P w) P w K mg base N qual (fnScope st) f cdv A outer s H E) (fnBody st) t ∧ t { nx := fun _ H' => Q .non H', rt := Q } (start N vs) H) : FnOk P w K mg base (L2.CX P w) (k + 1) f fd ps sp := by
  obtain ⟨oc, od, dV, kV, doc, pm, an, cdv, ct, osl, rfl, lk, hcd⟩ := F.ex
  exact fn_of lk hcd S len fun A outer s H vs Q E hr hsp => hbody cdv A outer s H vs Q E hr hsp
theorem CalX.of {x : Str} {st : Stmt} {f : Addr} {fd : FuncData} {ps : List Str} {ds : List Value} {dvs : List V} {k : Nat} {sp : Sp} (F : C8.Def K mg x st f fd) (ok : FnOk P w K mg base (L2.CX P w) k f fd ps sp) (b : Binds K fd ps ds) (d : Vals dvs ds) : CalX P w K mg base k x sp dvs :=
  ⟨f, fd, ps, ds, ok, F.mgf, F.kp, b, d⟩
end
section
variable {X : Cx} {k j n : Nat} {C : Addr} {x m : Str} {sp : Sp} {dvs : List V} {p pos apos : Pos} {e o : Expr} {es : List Expr} {ta : TE} {t tk : TA} {E : XK} {W : WX} {ks : List Str} {gV : List V → List V → List V} {kws : List Keyword}
/-- called in a def that lets out what E says -/
theorem pe_cX (c : CalX X.prog X.w X.K X.mg X.base k x sp dvs) (hr : Room j X.A) (hk : k ≤ j) (hg : Gl X x) (hx : Passes (L2.CX X.prog X.w) X E) (ha : PA X (e :: es) t)
    (hdb : (x == ("__debug__" : Str)) = false := by decide) (he : starEach (e :: es) X.env = (false, eval e X.env) :: starEach es X.env := by rfl) (hpl : (backTo pos (starEach es X.env)).any (·.1) = false := by rfl) :
    PE X (.Call (.Name x p) (e :: es) [] pos) (tCall sp dvs E t) := by
  obtain ⟨f, fd, ps, ds, F, hm, kp, b, d⟩ := c.ex
  exact pe_call F (hr.mono hk) hg hm kp b d hx ha hdb he hpl
/-- called in a try -/
theorem pe_cS (c : CalX X.prog X.w X.K X.mg X.base k x sp dvs) (hr : Room j X.A) (hk : k ≤ j) (hg : Gl X x) (tk : Takes X W) (ha : PA X (e :: es) t)
    (hdb : (x == ("__debug__" : Str)) = false := by decide) (he : starEach (e :: es) X.env = (false, eval e X.env) :: starEach es X.env := by rfl) (hpl : (backTo pos (starEach es X.env)).any (·.1) = false := by rfl) :
    PE X (.Call (.Name x p) (e :: es) [] pos) (tCallSD sp dvs (WE W) t) := by
  obtain ⟨f, fd, ps, ds, F, hm, kp, b, d⟩ := c.ex
  exact pe_callSD F (hr.mono hk) hg hm kp b d (fun σ => passAt tk σ) ha hdb he hpl
def tCallSK (sp : Sp) (n : Nat) (ks : List Str) (gV : List V → List V → List V) (E : L2.St → XK) (t tk : TA) : TE := fun σ H Q => t σ H fun vs H1 => tk σ H1 fun zs H2 => vs.length = n ∧ zs.length = ks.length ∧ sp (gV vs zs) H2 Q (E σ)
/-- called in a try, with keywords -/
theorem pe_cKS (c : CalXK X.prog X.w X.K X.mg X.base k x sp n ks gV) (hr : Room j X.A) (hk : k ≤ j) (hg : Gl X x) (tw : Takes X W) (ha : PA X (e :: es) t) (hkw : PK X kws tk)
    (hall : (backToKw pos (keywordEach kws X.env)).all (·.1.isSome) = true := by rfl) (hks : (backToKw pos (keywordEach kws X.env)).filterMap (·.1) = ks := by rfl)
    (hdb : (x == ("__debug__" : Str)) = false := by decide) (he : starEach (e :: es) X.env = (false, eval e X.env) :: starEach es X.env := by rfl)
    (hpl : ((backTo pos (starEach (e :: es) X.env)).any (·.1) || (backToKw pos (keywordEach kws X.env)).any (·.1.isNone)) = false := by rfl) :
    PE X (.Call (.Name x p) (e :: es) kws pos) (tCallSK sp n ks gV (WE W) t tk) := by
  obtain ⟨f, fd, ps, g, F, hm, kp, b⟩ := c.ex
  refine ⟨fun pins s σ H Q I h => wpAny_Call_Name_kw (ld_glob I hg hm (PySem.W.callWith_KW (h₀ := X.base) I.ok.mod.kin kp hall (thn (ha.run pos pins s σ H _ I h) fun us s1 ⟨vs, H1, I1, r, q⟩ => ?_) hpl he) hdb)⟩
  refine thn (hkw.run pos pins s1 σ H1 _ I1 q) fun ws s2 ⟨zs, H2, I2, rz, l1, l2, q2⟩ => ⟨I2.kIn, ?_⟩
  rw [hks]
  have r2 := b.rel r rz
  refine wpAny_call (codeAny_mono (F.run X.A X.stack s2 H2 ⟨us, ks.zip ws⟩ (g us ws) (gV vs zs) Q (WE W σ) (hr.mono hk) I2.env0 (b.to s2 us ws I2.kIn (r.length.symm.trans l1) (rz.length.symm.trans l2)) r2 q2) fun r s' hq => ?_)
  cases r with
  | error er => exact passAt tw σ pins H2 s2 er s' I2 hq
  | ok fl =>
    cases fl with
    | ret u => exact I2.after hq
    | next => exact hq.elim
    | brk => exact hq.elim
    | cont => exact hq.elim
end

/-! properties, raising methods, calls with keywords -/
structure Prp (P : Program) (w : World) (K : PySem.W.Frag) (mg : Str → Option Value) (base : Heap) (k : Nat) (C : Addr) (f : Str) (sp : Sp) : Prop where
  ex : ∃ (p g : Addr) (fd : FuncData) (ps : List Str), Cls K C ∧ PropOf K C f p g ∧ FnOk P w K mg base C8.CX0 k g fd ps sp ∧ Binds K fd ps []
structure MakK (P : Program) (w : World) (K : PySem.W.Frag) (mg : Str → Option Value) (base : Heap) (k : Nat) (x : Str) (C : Addr) (sp : Sp) (n : Nat) (ks : List Str) (gV : List V → List V → List V) : Prop where
  ex : ∃ (f : Addr) (fd : FuncData) (ps : List Str) (g : List Value → List Value → List Value), Mk K C f ∧ FnOk P w K mg base C8.CX0 k f fd ps sp ∧ mg x = some (.ref C) ∧ KBn K fd ps (n + 1) ks g gV
section
variable {X : Cx} {k j n : Nat} {C : Addr} {x m f : Str} {sp : Sp} {dvs : List V} {p pos apos : Pos} {e o : Expr} {es : List Expr} {ta : TE} {t tk : TA} {E : XK} {W : WX} {ks : List Str} {gV : List V → List V → List V} {kws : List Keyword}
theorem pe_pr (c : Prp X.prog X.w X.K X.mg X.base k C f sp) (hr : Room j X.A) (hk : k + 1 ≤ j) (he : PE X e ta) (hab : attributeBase e f X.env (eval e X.env) = eval e X.env) : PE X (.Attribute e f pos) (tProp C sp [] C8.E0 ta) := by
  obtain ⟨p, g, fd, ps, hc, hp, F, b⟩ := c.ex
  exact pe_prop he hc hp F (hr.mono hk) b .nil C8.pass0 hab
theorem pe_mX {pl : Sem Bool} (c : MetX X.prog X.w X.K X.mg X.base k C m sp dvs) (hr : Room j X.A) (hk : k ≤ j) (hx : Passes (L2.CX X.prog X.w) X E) (he : PE X o ta) (ha : PA X (e :: es) t)
    (hst : starEach (e :: es) X.env = (false, eval e X.env) :: starEach es X.env := by rfl) (hpl : (backTo pos (starEach es X.env)).any (·.1) = false := by rfl)
    (ht : eval (.Call (.Attribute o m apos) (e :: es) [] pos) X.env = (do
      let ov ← eval o X.env
      standAt apos.atName
      let (f, first) ← holding [ov] (getMethod ov m pl)
      callWith pos f first (backTo pos (starEach (e :: es) X.env)) (backToKw pos (keywordEach [] X.env))) := by rfl) :
    PE X (.Call (.Attribute o m apos) (e :: es) [] pos) (tMeth C m sp dvs E ta t) := by
  obtain ⟨f, fd, ps, ds, hc, hm, F, b, d⟩ := c.ex
  exact pe_meth (pl := pl) he hc hm F (hr.mono hk) b d hx ha hst hpl ht
def tCallKX (sp : Sp) (n : Nat) (ks : List Str) (gV : List V → List V → List V) (E : XK) (t tk : TA) : TE := fun σ H Q => t σ H fun vs H1 => tk σ H1 fun zs H2 => vs.length = n ∧ zs.length = ks.length ∧ sp (gV vs zs) H2 Q E
/-- called with keywords, in a def that lets out what E says -/
theorem pe_cKX (c : CalXK X.prog X.w X.K X.mg X.base k x sp n ks gV) (hr : Room j X.A) (hk : k ≤ j) (hg : Gl X x) (hx : Passes (L2.CX X.prog X.w) X E) (ha : PA X (e :: es) t) (hkw : PK X kws tk)
    (hall : (backToKw pos (keywordEach kws X.env)).all (·.1.isSome) = true := by rfl) (hks : (backToKw pos (keywordEach kws X.env)).filterMap (·.1) = ks := by rfl)
    (hdb : (x == ("__debug__" : Str)) = false := by decide) (he : starEach (e :: es) X.env = (false, eval e X.env) :: starEach es X.env := by rfl)
    (hpl : ((backTo pos (starEach (e :: es) X.env)).any (·.1) || (backToKw pos (keywordEach kws X.env)).any (·.1.isNone)) = false := by rfl) :
    PE X (.Call (.Name x p) (e :: es) kws pos) (tCallKX sp n ks gV E t tk) := by
  obtain ⟨f, fd, ps, g, F, hm, kp, b⟩ := c.ex
  refine ⟨fun pins s σ H Q I h => wpAny_Call_Name_kw (ld_glob I hg hm (PySem.W.callWith_KW (h₀ := X.base) I.ok.mod.kin kp hall (thn (ha.run pos pins s σ H _ I h) fun us s1 ⟨vs, H1, I1, r, q⟩ => ?_) hpl he) hdb)⟩
  refine thn (hkw.run pos pins s1 σ H1 _ I1 q) fun ws s2 ⟨zs, H2, I2, rz, l1, l2, q2⟩ => ⟨I2.kIn, ?_⟩
  rw [hks]
  have r2 := b.rel r rz
  refine wpAny_call (codeAny_mono (F.run X.A X.stack s2 H2 ⟨us, ks.zip ws⟩ (g us ws) (gV vs zs) Q E (hr.mono hk) I2.env0 (b.to s2 us ws I2.kIn (r.length.symm.trans l1) (rz.length.symm.trans l2)) r2 q2) fun r s' hq => ?_)
  cases r with
  | error er => exact hx pins σ H2 s2 er s' I2 hq
  | ok fl =>
    cases fl with
    | ret u => exact I2.after hq
    | next => exact hq.elim
    | brk => exact hq.elim
    | cont => exact hq.elim
theorem pe_mkK (c : MakK X.prog X.w X.K X.mg X.base k x C sp n ks gV) (hr : Room j X.A) (hk : k + 1 ≤ j) (hg : Gl X x) (ha : PA X (e :: es) t) (hkw : PK X kws tk)
    (hall : (backToKw pos (keywordEach kws X.env)).all (·.1.isSome) = true := by rfl) (hks : (backToKw pos (keywordEach kws X.env)).filterMap (·.1) = ks := by rfl) (hdb : (x == ("__debug__" : Str)) = false := by decide)
    (he : starEach (e :: es) X.env = (false, eval e X.env) :: starEach es X.env := by rfl) (hpl : ((backTo pos (starEach (e :: es) X.env)).any (·.1) || (backToKw pos (keywordEach kws X.env)).any (·.1.isNone)) = false := by rfl) :
    PE X (.Call (.Name x p) (e :: es) kws pos) (tMakeK C n ks.length sp gV C8.E0 t tk) := by
  obtain ⟨f, fd, ps, g, M, F, hm, b⟩ := c.ex
  exact pe_makeK M F (hr.mono hk) hg hm b C8.pass0 ha hkw hall hks hdb he hpl
end
section
variable {X : Cx} {k j : Nat} {C : Addr} {m : Str} {sp : Sp} {dvs : List V} {pos apos : Pos} {o : Expr} {ta : TE} {E : XK}
theorem pe_mX0 {pl : Sem Bool} (c : MetX X.prog X.w X.K X.mg X.base k C m sp dvs) (hr : Room j X.A) (hk : k ≤ j) (hx : Passes (L2.CX X.prog X.w) X E) (he : PE X o ta)
    (ht : eval (.Call (.Attribute o m apos) [] [] pos) X.env = (do
      let ov ← eval o X.env
      standAt apos.atName
      let (f, first) ← holding [ov] (getMethod ov m pl)
      callWith pos f first (backTo pos (starEach [] X.env)) (backToKw pos (keywordEach [] X.env))) := by rfl) :
    PE X (.Call (.Attribute o m apos) [] [] pos) (tMeth C m sp dvs E ta tNil) := by
  obtain ⟨f, fd, ps, ds, hc, hm, F, b, d⟩ := c.ex
  exact pe_meth0 (pl := pl) he hc hm F (hr.mono hk) b d hx ht
end

/-! list comprehensions whose element may raise, in a def that raises: the exception goes on in the def's own frame -/
/-- the block of such a comprehension -/
abbrev blkX (X : Cx) (s : Shared) (H : Hp) (scope : Scope) (ce : Env) (fp : List Addr) : Cx := (X.blk s H scope ce fp).wish (notedBy (model X.prog X.w) X.A ce (CompFails (model X.prog X.w) X.A X.xe ce))
section
variable {M : Model} {A : Around} {E : Value → Shared → Prop} {s : Shared} {B : Heap} {ce : Env} {l : List Env} {a L : Addr} {Z : Obj → Prop} {m : Str → Option Value}
/-- the block's names are let go, then it goes on -/
theorem lcx_fails (hf : ce.frame = some L) (nB : B.get? ce.locals = none) (hn : s.heap.Ns ce.locals m) (hh : HandSPX.HeldZ B l a Z L s.heap)
    (k : ∀ h2, HandSPX.HeldZ B l a Z L h2 → (∀ b o, b ≠ ce.locals → s.heap.get? b = some o → (∀ vs, o.data ≠ .fields vs) → ∃ sl, h2.get? b = some { o with slots := sl }) → E (.ref a) { s with heap := h2 }) :
    CompFails M A E ce (.ref a) s := by
  refine ⟨m, hn, fun h2 m2 hn2 sb => ?_⟩
  obtain ⟨st, na, fr, oe, vs, T, oT, ts, e0, hz, e1, e2, nT, nTa, e3, e4, e5⟩ := hh
  have rec_ : ∀ {b : Addr} {o : Obj} {ws : Array Value}, s.heap.get? b = some o → o.data = .fields ws → h2.get? b = some o := fun {b o ws} p q => by
    refine (sb.2 b fun z => ?_).trans p
    obtain ⟨u, _, _, p', q', _⟩ := hn
    rw [z, p'] at p; cases p
    rw [q'] at q; cases q
  have g0 := rec_ e0 e1
  have hh2 : HandSPX.HeldZ B l a Z L h2 := ⟨fun b o p => (sb.2 b fun z => by rw [z, nB] at p; cases p).trans (st b o p), na, Heap.FunFrames.sameBut sb hn2 fr, oe, vs, T, oT, ts, g0, hz, e1, e2, nT, nTa, rec_ e3 e4, e4, e5⟩
  unfold passOn
  refine wpAny_bind (wpAny_field g0 e1 e2 ?_)
  rw [if_neg (by simp), hf]
  exact wpAny_bind (HandSPX.setFlight_onZ hh2 fun h4 hh4 up => wpAny_throw (k h4 hh4 fun b o nb p nf => up b o ((sb.2 b nb).trans p) nf))
end
section
variable {X : Cx} {W : WX} {E : XK} {pins : List (Addr × Obj)} {σ : St} {H H3 : Hp} {s s3 : Shared} {scope : Scope} {cl : List (Str × Addr)} {fp : List Addr}
theorem lcx_passes (tk : Takes X W) (hst : X.stack = X.env :: X.outer) (hfr : X.env.frame = some X.env.locals) (I3 : Inv X pins σ H3 s3) (f3 : ∀ b ∈ fp, FpOk X pins H3 b) (hW : ∀ cls d H, E cls d H → W cls d σ H) :
    Passes (L2.CX X.prog X.w) (blkX X s3 H3 scope (compEnvC scope cl s3.heap.objs.size X.env) fp) E := by
  rintro pins' σ' H4 s4 _ s5 I c
  obtain ⟨a, B, H5, cls, d, rfl, fl, hok, ub, na, os, ag, hE⟩ := c
  obtain ⟨C, hC⟩ : ∃ C, C = s3.heap.objs.size := ⟨_, rfl⟩
  rw [← hC] at I ⊢
  have nC4 : H4 C = none := I.free
  obtain ⟨m, hm, _⟩ := I.loc
  change s4.heap.Ns C m at hm
  have ltC : ∀ {b : Addr} {o : Obj}, s3.heap.get? b = some o → b ≠ C := fun p => by rw [hC]; exact Nat.ne_of_lt (Heap.lt_size p)
  have nCf : C ∉ frs X.stack := fun z => by
    rcases List.mem_cons.mp (I3.stkSub C z) with e | e
    · rw [hC] at e; exact absurd I3.lt (by rw [← e]; exact Nat.lt_irrefl _)
    · exact I3.nofs (Nat.le_of_eq hC.symm) e
  obtain ⟨oC, esC, epC, gC, dC, rC⟩ := id hm
  have nC5 : H5 C = none := ub.free C oC gC nC4
  -- the ground without the block's names
  obtain ⟨B', hB'⟩ : ∃ B', B' = PySem.W.hideAll B [C] := ⟨_, rfl⟩
  have b1 : ∀ {b : Addr} {o : Obj}, B'.get? b = some o → B.get? b = some o := fun p => by rw [hB'] at p; exact PySem.W.of_hideAll _ p
  have b2 : ∀ {b : Addr} {o : Obj}, B.get? b = some o → b ≠ C → B'.get? b = some o := fun p q => by rw [hB']; exact PySem.W.hideAll_get _ p (by simpa using q)
  have b3 : B'.get? C = none := by rw [hB']; exact PySem.W.hideAll_none _ (by simp)
  have b0 : ∀ {b : Addr}, B.get? b = none → B'.get? b = none := fun {b} p => by
    cases q : B'.get? b with
    | none => rfl
    | some o => rw [b1 q] at p; cases p
  obtain ⟨f1, f2, f3', oe, vs, T, oT, ts, e0, hz, e1, e2, nT, nTa, e3, e4, e5⟩ := fl
  have fl' : HandSPX.FlyingZ B' X.stack a (Zc cls d) s5.heap := ⟨fun b o p => f1 b o (b1 p), b0 f2, funFrames_none f3' fun b hb => b0 (f3'.mem hb).1, oe, vs, T, oT, ts, e0, hz, e1, e2, b0 nT, nTa, e3, e4, e5⟩
  have hfrm : X.A.frames = some (X.env :: X.outer) := by rw [I3.ok.frames, hst]
  rw [hst] at fl'
  show wpAny (model X.prog X.w) X.A (noteFrame (.ref a) (compEnvC scope cl C X.env)) _ _ s5
  rw [noteFrame_env (.ref a) (show (compEnvC scope cl C X.env).frame = X.env.frame from rfl)]
  refine HandSPX.looks_onZ Zc.steady hfrm hfr fl' fun h1 hh1 up1 => ?_
  have nb5 : ∀ {b : Addr} {o : Obj}, s4.heap.get? b = some o → H4 b = none → b ∉ frs X.stack → s5.heap.get? b = some o := fun p q r => f1 _ _ (ub.keep _ _ p q r)
  have hm5 : s5.heap.Ns C m := ⟨oC, esC, epC, nb5 gC nC4 nCf, dC, rC⟩
  have hm1 : ({ s5 with heap := h1 } : Shared).heap.Ns (compEnvC scope cl C X.env).locals m := hm5.upToSlots up1
  refine lcx_fails (ce := compEnvC scope cl C X.env) (L := X.env.locals) hfr b3 hm1 hh1 fun h2 hh2 up2 => tk _ _ ?_
  obtain ⟨G, g1, g2⟩ := restrict h2 fun b => (B'.get? b).isSome || decide (b ∈ frs X.stack)
  have st2 : B'.StaysIn h2 := hh2.1
  have gB : ∀ {b : Addr} {o : Obj}, B'.get? b = some o → G.get? b = some o := fun {b o} p => by
    rw [g1 b (by simp [p])]; exact st2 b o p
  have gF : ∀ {b : Addr}, b ∈ frs X.stack → G.get? b = h2.get? b := fun {b} p => g1 b (by simp [p])
  have og : ∀ {b : Addr} {o : Obj}, G.get? b = some o → h2.get? b = some o ∧ ((B'.get? b).isSome = true ∨ b ∈ frs X.stack) := fun {b o} p => by
    cases q : ((B'.get? b).isSome || decide (b ∈ frs X.stack)) with
    | false => rw [g2 b q] at p; cases p
    | true =>
      rw [g1 b q] at p
      exact ⟨p, by simpa [Bool.or_eq_true] using q⟩
  -- a frame's object is up to its slots in h2
  have frm : ∀ {b : Addr} {o : Obj}, b ∈ frs X.stack → s4.heap.get? b = some o → ∃ sl, h2.get? b = some { o with slots := sl } := fun {b o} p q => by
    obtain ⟨sl, q5⟩ := ub.slot b o q p
    obtain ⟨_, o5, p5, nf⟩ := f3'.mem p
    rw [q5] at p5; cases p5
    obtain ⟨sl1, q1⟩ := up1 b _ q5 nf
    obtain ⟨sl2, q2⟩ := up2 b _ (fun z => nCf (by have z : b = C := z; rw [← z]; exact p)) q1 nf
    exact ⟨sl2, q2⟩
  have un : Un (frs X.stack) fp H3 H4 s3.heap s4.heap := I.base
  refine ⟨a, B', { s5 with heap := G }, pins, σ, H5, cls, d, rfl, ?_, fun b o p q => ?_, Heap.UpToSlots.of_keeps fun b o p => (og p).1, .inr (.inr (by rw [hst]; exact hh2)), na, rfl, ag, hW _ _ _ hE⟩
  · refine I3.call' (ch := fp) (os.trans I.os) ⟨fun b o p n nf nx => ?_, fun b o p n hb nx => ?_, fun b o p n nx => ?_, fun b o p nx => ?_, fun b xs p => ub.tups _ _ (un.tups _ _ p), fun b o u p => ub.frzs _ _ _ (un.frzs _ _ _ p), fun b ps p => ?_⟩ ?_ ag fun b hb => ⟨(f3 b hb).2.2.2.1, (f3 b hb).2.1, (f3 b hb).2.2.2.2.1, (f3 b hb).2.2.2.2.2⟩
    · exact gB (b2 (ub.keep b o (un.keep b o p n nf nx) (un.free b o p n nx) nf) (ltC p))
    · obtain ⟨sl, q⟩ := un.slot b o p n hb nx
      obtain ⟨sl2, q2⟩ := frm hb q
      exact ⟨sl2, by rw [gF hb]; exact q2⟩
    · obtain ⟨sl, q⟩ := un.any p n nx
      exact ub.free b _ q (un.free b o p n nx)
    · obtain ⟨o', q⟩ := un.there b o p nx
      by_cases hb : b ∈ frs X.stack
      · obtain ⟨sl2, q2⟩ := frm hb q
        exact ⟨_, by rw [gF hb]; exact q2⟩
      · obtain ⟨o2, q2⟩ := ub.there b o' q hb
        exact ⟨o2, gB (b2 q2 (ltC p))⟩
    · obtain ⟨m1, q1⟩ := un.tbls b ps p
      obtain ⟨m2, q2⟩ := ub.tbls b _ q1
      exact ⟨m1 ++ m2, by rw [q2, Array.append_assoc]⟩
    · intro b o p
      refine (hok b o p).stay (fun c u hc r => gB (b2 r fun z => ?_)) (fun _ r => r) fun _ _ r => r
      rcases hc with hc | hc
      · rw [← hc, z, nC5] at p; cases p
      · rw [z, nC5] at hc; cases hc
  · obtain ⟨q1, q2 | q2⟩ := og p
    · obtain ⟨o', q3⟩ := Option.isSome_iff_exists.mp q2
      have := st2 b o' q3
      rw [q1] at this; cases this
      exact q3
    · exact absurd q2 q
end
section
variable {X : Cx}
/-- the reading: as a comprehension's; what the element does may depend on the def's own slots -/
def tLcX (wi : TI) (g : TG) (tt : TT) (te : St → TE) (vs : List Nat) : TE := fun σ H Q => tLc wi g tt (te σ) vs σ H Q
theorem lcx_core {pins : List (Addr × Obj)} {s : Shared} {σ : St} {H : Hp} {Q : VK} {elt tg iter : Expr} {ifs : List Expr} {scope : Scope} {own : List (Str × Nat)} {pos pos' : Pos} {wi : TI} {g : TG} {tt : TT} {te : St → TE} {W : WX} {u : Value → Sem Unit} {Qf : Value → Shared → Prop}
    (tk : Takes X W) (hst : X.stack = X.env :: X.outer) (hfr : X.env.frame = some X.env.locals) (hc : X.calm = true) (hN : X.N.Nodup) (I : Inv X pins σ H s) (hi : PI X tg iter wi) (ok : BlkOk X.N X.env.scope scope own)
    (hg : ∀ s H C cl fp, PG (blkX X s H scope (compEnvC scope cl C X.env) fp) tg g) (ht : ∀ s H C cl fp, PTs (blkX X s H scope (compEnvC scope cl C X.env) fp) ifs tt)
    (he : ∀ s H cl C fp σ0, (∀ E : XK, (∀ cls d H, E cls d H → W cls d σ0 H) → Passes (L2.CX X.prog X.w) (blkX X s H scope (compEnvC scope cl C X.env) fp) E) → PE (blkX X s H scope (compEnvC scope cl C X.env) fp) elt (te σ0))
    (hs : ∀ x, foldedSetIterable iter X.env x = pure x) (h : tLc wi g tt (te σ) (own.map (·.2)) σ H Q)
    (fin : ∀ D C cl s' m H', Inv X pins σ H' s' → Q (.ref D) H' → s'.heap.Ns C m → FpOk X pins H' C → compEnds (model X.prog X.w) X.A X.xe (some u) Qf (.ref D) (compEnvC scope cl C X.env) (.ok .next) s') :
    wpAny (model X.prog X.w) X.A (comprehension (.ListComp elt [⟨tg, iter, ifs, 0⟩] scope pos) scope X.env pos' (newList []) false (eval iter X.env) (some u)) Qf X.xe s := by
  have caught : ∀ y ∈ scope.names, y.2 = .free → ∃ c, X.env.cells.lookup y.1 = some c := fun y hy e => I.ok.has _ (ok.free y hy e)
  refine comprehension_at (use := some u) rfl hs (closure_ok caught) ok.kind (fun y hy e => (ok.uniq y hy).trans (by rw [e])) (thn (hi.run pins s σ H _ I h) fun _ s1 h1 => thn h1 fun _ s2 h2 => ?_)
  obtain ⟨it, fp, tn, J, H2, rfl, I2, T, st2, f2, q⟩ := h2
  refine wpAny_newObj_type (newEnv_comp ?_) (Nat.zero_le _)
  obtain ⟨D, hD⟩ : ∃ D, s2.heap.objs.size = D := ⟨_, rfl⟩
  obtain ⟨s3, e3⟩ : ∃ s3 : Shared, { s2 with heap := s2.heap.push { cls := .type "list", data := .seq ([] : List Value).toArray } } = s3 := ⟨_, rfl⟩
  obtain ⟨H3, eH⟩ : ∃ H3, upd H2 D (.lst []) = H3 := ⟨_, rfl⟩
  rw [hD]
  have nD : H2 D = none := I2.hok.fresh (Nat.le_of_eq hD)
  obtain ⟨W0, ⟨m0, w0⟩, turn⟩ := q D nD
  have g3 : s3.heap = s2.heap.push { cls := .type "list", data := .seq ([] : List Value).toArray } := by rw [← e3]
  have up3 : ∀ {b : Addr} {o : Obj}, s2.heap.get? b = some o → s3.heap.get? b = some o := fun p => by rw [g3]; exact Heap.get?_push_of_some _ p
  have z3 : s3.heap.objs.size = s2.heap.objs.size + 1 := by rw [g3, Heap.size_push]
  have I3 : Inv X pins σ H3 s3 := by
    rw [← e3, ← eH]
    exact I2.laid (t' := s2.toks) (fun b o p => Heap.get?_push_of_some _ p) (Nat.le_of_eq hD) ⟨Nat.zero_le _, [], 0, .nil, by rw [← hD]; exact Heap.get?_push_size _ rfl⟩
  have f3 : ∀ b ∈ fp, FpOk X pins H3 b ∧ b < s3.heap.objs.size := fun b hb => by
    obtain ⟨o, p, _⟩ := T.obj _ _ st2 b hb
    have lt := Heap.lt_size p
    refine ⟨⟨?_, (f2 b hb).2⟩, by rw [z3]; exact Nat.lt_succ_of_lt lt⟩
    rw [← eH, upd_ne (by rw [← hD]; exact Nat.ne_of_lt lt)]
    exact (f2 b hb).1
  have I4 := (block_start I3 ok hN f3)
  have ps := fun (E : XK) (hW : ∀ cls d H, E cls d H → W cls d σ H) => lcx_passes (scope := scope) (cl := cellsFrom (s3.heap.objs.size + 1) scope.names (cloFrom X.env.cells scope.names [])) tk hst hfr I3 (fun b hb => (f3 b hb).1) hW
  have pe := he s3 H3 (cellsFrom (s3.heap.objs.size + 1) scope.names (cloFrom X.env.cells scope.names [])) s3.heap.objs.size fp σ ps
  clear ps
  rw [e3]
  obtain ⟨cl, ecl⟩ : ∃ cl, cellsFrom (s3.heap.objs.size + 1) scope.names (cloFrom X.env.cells scope.names []) = cl := ⟨_, rfl⟩
  rw [ecl] at I4 pe
  obtain ⟨C, eC⟩ : ∃ C, s3.heap.objs.size = C := ⟨_, rfl⟩
  have fin' := fin D C cl
  show codeAny (model X.prog X.w) X.A (.compStart (.ListComp elt [⟨tg, iter, ifs, 0⟩] scope pos) 0 (.ref it) (.ref D) (compEnvC scope (cellsFrom (s3.heap.objs.size + 1) scope.names (cloFrom X.env.cells scope.names [])) s3.heap.objs.size X.env)) (compEnds (model X.prog X.w) X.A X.xe (some u) Qf (.ref D) (compEnvC scope (cellsFrom (s3.heap.objs.size + 1) scope.names (cloFrom X.env.cells scope.names [])) s3.heap.objs.size X.env)) { s3 with heap := pushCells (s3.heap.push { cls := .type "dict", data := .dict #[] }) scope.names }
  rw [ecl]
  rw [eC] at I4 pe ⊢
  obtain ⟨ce, ece⟩ : ∃ ce, compEnvC scope cl C X.env = ce := ⟨_, rfl⟩
  have pg := hg s3 H3 C cl fp
  have pt := ht s3 H3 C cl fp
  rw [ece] at I4 pe pg pt fin' ⊢
  have lC : ce.locals = C := by rw [← ece]; rfl
  have I5 := I4.wish (notedBy (model X.prog X.w) X.A ce (CompFails (model X.prog X.w) X.A X.xe ce))
  obtain ⟨s4, e4⟩ : ∃ s4 : Shared, { s3 with heap := pushCells (s3.heap.push { cls := .type "dict", data := .dict #[] }) scope.names } = s4 := ⟨_, rfl⟩
  rw [e4] at I5 ⊢
  have st4 : tn 0 s4.heap := T.keep _ _ _ st2 fun b _ o p => by rw [← e4]; exact pushCells_keeps _ _ _ _ (Heap.get?_push_of_some _ (up3 p))
  have fpk : ∀ {pl : List (Addr × Obj)} {σ' : St} {H' : Hp} {s' : Shared}, Inv (blkX X s3 H3 scope ce fp) pl σ' H' s' → pl = [] → (∀ b ∈ fp, H' b = none) → ∀ b ∈ fp, FpOk (blkX X s3 H3 scope ce fp) [] H' b := fun {pl σ' H' s'} J e n b hb =>
    ⟨n b hb, (J.ok.exf b hb).1, J.ok.exfs b hb, .inl hb, fun x c => (J.ok.exf b hb).2 x c, fun p hp => by cases hp⟩
  have loop : codeAny (model X.prog X.w) X.A (.compLoop (.ListComp elt [⟨tg, iter, ifs, 0⟩] scope pos) 0 (.ref it) (.ref D) ce) (compEnds (model X.prog X.w) X.A X.xe (some u) Qf (.ref D) ce) s4 := by
    refine compLoop_any (fun n s' => ∃ i H', Inv (blkX X s3 H3 scope ce fp) [] (wipe σ (own.map (·.2))) H' s' ∧ tn i s'.heap ∧ (∀ b ∈ fp, H' b = none) ∧ W0 i n H') ?_ m0 ⟨0, H3, I5, st4, fun b hb => (f3 b hb).1.1, by rw [← eH]; exact w0⟩
    rintro n s5 ⟨i, H5, J5, t5, n5, w5⟩
    have stands := fpk J5 rfl n5
    rcases turn i n H5 w5 with ⟨stop, fq⟩ | ⟨go, Nx, hNx, step⟩
    · refine thn (T.done (blkX X s3 H3 scope ce fp) rfl rfl rfl hc i [] s5 _ H5 _ J5 stands t5 stop) fun r s6 ⟨er, J6⟩ => ?_
      cases er
      have free6 : H5 C = none := by have z : H5 ce.locals = none := J6.free; rwa [lC] at z
      obtain ⟨m, hm, _⟩ := J6.loc
      have hm : s6.heap.Ns C m := by have z : s6.heap.Ns ce.locals m := hm; rwa [lC] at z
      exact fin' s6 m H5 (I3.call' (ch := fp) J6.os J6.base J6.hok J6.bare fun b hb => (f3 b hb).1.2.2.2 |> fun ⟨k1, k2, k3⟩ => ⟨k1, (f3 b hb).1.2.1, k2, k3⟩) fq hm (I3.fpOk (Nat.le_of_eq eC) free6)
    · refine thn (T.item (blkX X s3 H3 scope ce fp) rfl rfl rfl hc i [] s5 _ H5 _ J5 stands t5 go) fun r s6 ⟨v, er, h6⟩ => ?_
      cases er
      refine thn h6 fun _ s7 ⟨x, H7, J7, rx, yx, t7, n7⟩ => ?_
      refine thn (pg.run _ s7 _ H7 x v _ (J7.pinned (fpk J7 rfl n7) (T.obj _ _ t7)) rx (step x H7 yx)) fun _ s8 ⟨σ8, H8, J8, hw8, q8⟩ => ?_
      have again : ∀ {s' : Shared} {H' : Hp}, Inv (blkX X s3 H3 scope ce fp) ([] ++ pinsAt fp s7.heap) σ8 H' s' → Nx H' → ∃ m, m < n ∧ ∃ i H', Inv (blkX X s3 H3 scope ce fp) [] (wipe σ (own.map (·.2))) H' s' ∧ tn i s'.heap ∧ (∀ b ∈ fp, H' b = none) ∧ W0 i m H' := fun {s' H'} J nx => by
        obtain ⟨m', lt, w'⟩ := hNx H' nx
        have at7 : ∀ b ∈ fp, ∀ o, s7.heap.get? b = some o → s'.heap.get? b = some o ∧ H' b = none := fun b hb o p => by
          have := J.pin (b, o) (List.mem_append_right _ (List.mem_append_right _ (mem_pinsAt hb p)))
          exact ⟨this.1, this.2.1⟩
        refine ⟨m', lt, i + 1, H', (Inv.unpinned (pins := []) J).weak (by rw [← wipe_length σ8 (own.map (·.2)), hw8]) (fun j v p => (wipe_some (vs := own.map (·.2)) (by rw [hw8]; exact p)).1), T.keep _ _ _ t7 fun b hb o p => (at7 b hb o p).1, fun b hb => ?_, w'⟩
        obtain ⟨o, p, _⟩ := T.obj _ _ t7 b hb
        exact (at7 b hb o p).2
      refine thn (pt.run _ s8 σ8 H8 _ J8 q8) fun b s9 ⟨H9, J9, q9⟩ => ?_
      cases b with
      | true => exact thn (pe.run _ s9 σ8 H9 _ J9 q9) fun _ s10 ⟨_, H10, J10, r10, acc, hacc, lt, nx⟩ => app_ok (X := blkX X s3 H3 scope ce fp) J10 hacc lt r10 fun s11 J11 => again J11 nx
      | false => exact again J9 q9
  exact codeAny_compStart_list loop (T.self X.A 0 _ _ _ st4 loop)
/-- name = [..], the name a local -/
theorem ps_setLcX {i : Nat} {y : Str} {py : Pos} {elt tg iter : Expr} {ifs : List Expr} {scope : Scope} {own : List (Str × Nat)} {pos spos : Pos} {wi : TI} {g : TG} {tt : TT} {te : St → TE} {W : WX} (tk : Takes X W) (hst : X.stack = X.env :: X.outer) (hfr : X.env.frame = some X.env.locals)
    (hc : X.calm = true) (hN : X.N.Nodup) (hy : X.N[i]? = some y) (hyl : X.env.scope.names.lookup y = some .local) (hsw : swapsWith (.ListComp elt [⟨tg, iter, ifs, 0⟩] scope pos) (some (.Name y py)) spos.line X.env = pure true) (hi : PI X tg iter wi) (ok : BlkOk X.N X.env.scope scope own)
    (hg : ∀ s H C cl fp, PG (blkX X s H scope (compEnvC scope cl C X.env) fp) tg g) (ht : ∀ s H C cl fp, PTs (blkX X s H scope (compEnvC scope cl C X.env) fp) ifs tt)
    (he : ∀ s H cl C fp σ0, (∀ E : XK, (∀ cls d H, E cls d H → W cls d σ0 H) → Passes (L2.CX X.prog X.w) (blkX X s H scope (compEnvC scope cl C X.env) fp) E) → PE (blkX X s H scope (compEnvC scope cl C X.env) fp) elt (te σ0))
    (hs : ∀ x, foldedSetIterable iter X.env x = pure x := by intro _; rfl) : PS X (.Assign [.Name y py] (.ListComp elt [⟨tg, iter, ifs, 0⟩] scope pos) spos) (tAsg (tLcX wi g tt te (own.map (·.2))) (gName i)) := by
  refine ⟨fun pins s σ H D I h => ?_⟩
  rw [exec_Assign_Name_used _ _ _ _ hsw]
  refine wpAny_bind (wpAny_standAt (wpAny_bind ?_))
  show wpAny (model X.prog X.w) X.A ((comprehension (.ListComp elt [⟨tg, iter, ifs, 0⟩] scope pos) scope X.env (firstIterPos [⟨tg, iter, ifs, 0⟩] pos) (newList []) false (eval iter X.env) (some (assign (.Name y py) X.env))) >>= fun _ => pure ()) _ _ s
  refine wpAny_bind (thn (lcx_core (Qf := fun _ s' => SP X pins D .next s') (Q := fun x H1 => gName i x σ H1 D.nx) tk hst hfr hc hN I hi ok hg ht he hs h fun L C cl s' m H' J q hn fo => ?_) fun _ _ z => wpAny_pure (wpAny_pure z))
  show wpAny (model X.prog X.w) X.A (assign (.Name y py) X.env (.ref L)) _ _ s'
  refine wpAny_assign_Name (store_ok2 (v := V.ref L) J hN hy (.inl hyl) rfl (fun s2 J2 ⟨p, sb, hp⟩ => ?_) (.inr hyl))
  obtain ⟨o0, o1, _, o3, o4, o5⟩ := fo
  have ne : C ≠ p := hp.elim (fun z => by rw [z]; exact o1) fun z e => o4 y p z e.symm
  exact ⟨m, hn.sameBut sb ne, fun h3 sb3 => ⟨_, H', J2.turned (t' := s2.toks) (fun b o hb p => (sb3.2 b hb).trans p) o0 o1 o3 o4 o5, q⟩⟩
end
section
variable {X : Cx} {K : PySem.W.Frag}
theorem call_tuple_ofK (hK : X.K = K := by rfl) : CallR X (.type "tuple") (fun xs H Q => ∃ p ys, xs = [.ref p] ∧ ((SqL K H p ys ∧ ∀ l, H l = none → Q (.ref l) (upd H l (.tup ys))) ∨ (SqT K H p ys ∧ Q (.ref p) H))) := hK ▸ call_tuple_of
end

/-! ratios: an own object of two ints -/
theorem kND : ¬ (("num" : Str) = "den") := by decide +kernel
theorem kDN : ¬ (("den" : Str) = "num") := by decide +kernel
def rf (n d : Int) : List (Str × V) := putF "den" (.int d) (putF "num" (.int n) [])
theorem rf_num (n d : Int) : (rf n d).lookup ("num" : Str) = some (.int n) := by
  unfold rf
  rw [lookup_putF, if_neg kND, lookup_putF, if_pos rfl]
theorem rf_den (n d : Int) : (rf n d).lookup ("den" : Str) = some (.int d) := by
  unfold rf
  rw [lookup_putF, if_pos rfl]
theorem rf_no (n d : Int) {m : Str} (h1 : ¬ m = "num") (h2 : ¬ m = "den") : (rf n d).lookup m = none := by
  unfold rf
  rw [lookup_putF, if_neg h2, lookup_putF, if_neg h1]; rfl
/-- a Ratio stands at p -/
def RatAt (C : Addr) (H : Hp) (p : Addr) (n d : Int) : Prop := ∃ dx, H p = some (.ins C dx (rf n d))
theorem RatAt.keep {C p : Addr} {H H' : Hp} {W : List Addr} {n d : Int} (h : RatAt C H p n d) (k : Keep W H H') (w : p ∉ W) : RatAt C H' p n d := by
  obtain ⟨dx, h⟩ := h
  exact ⟨dx, k _ _ h w⟩
theorem RatAt.keep0 {C p : Addr} {H H' : Hp} {n d : Int} (h : RatAt C H p n d) (k : Keep [] H H') : RatAt C H' p n d := h.keep k (by simp)
/-- the sign of the divisor stands with the common part -/
def sg (n d : Int) : Int := if d < 0 then -((Nat.gcd n.natAbs d.natAbs : Nat) : Int) else ((Nat.gcd n.natAbs d.natAbs : Nat) : Int)
def redN (n d : Int) : Int := n.fdiv (sg n d)
def redD (n d : Int) : Int := d.fdiv (sg n d)
theorem gcd_pos_of {n d : Int} (h : d ≠ 0) : 0 < Nat.gcd n.natAbs d.natAbs := Nat.gcd_pos_of_pos_right _ (by omega)
theorem sg_ne {n d : Int} (h : d ≠ 0) : sg n d ≠ 0 := by
  have := gcd_pos_of (n := n) h
  unfold sg
  split <;> omega
theorem sg_dvd_n (n d : Int) : sg n d ∣ n := by
  have h : ((Nat.gcd n.natAbs d.natAbs : Nat) : Int) ∣ n := Int.ofNat_dvd_left.mpr (Nat.gcd_dvd_left _ _)
  unfold sg
  split
  · exact Int.neg_dvd.mpr h
  · exact h
theorem sg_dvd_d (n d : Int) : sg n d ∣ d := by
  have h : ((Nat.gcd n.natAbs d.natAbs : Nat) : Int) ∣ d := Int.ofNat_dvd_left.mpr (Nat.gcd_dvd_right _ _)
  unfold sg
  split
  · exact Int.neg_dvd.mpr h
  · exact h
theorem fdiv_of_mul {m c s : Int} (hs : s ≠ 0) (h : m = s * c) : m.fdiv s = c := by
  subst h; exact Int.mul_fdiv_cancel_left c hs
theorem red_n {n d : Int} (h : d ≠ 0) : redN n d * sg n d = n := by
  obtain ⟨c, hc⟩ := sg_dvd_n n d
  unfold redN
  rw [fdiv_of_mul (sg_ne h) hc, Int.mul_comm]; exact hc.symm
theorem red_d {n d : Int} (h : d ≠ 0) : redD n d * sg n d = d := by
  obtain ⟨c, hc⟩ := sg_dvd_d n d
  unfold redD
  rw [fdiv_of_mul (sg_ne h) hc, Int.mul_comm]; exact hc.symm
theorem redD_pos {n d : Int} (h : d ≠ 0) : 0 < redD n d := by
  have e := red_d (n := n) h
  have g := gcd_pos_of (n := n) h
  have hne : redD n d ≠ 0 := fun z => by rw [z, Int.zero_mul] at e; exact h e.symm
  rcases Int.lt_or_gt_of_ne hne with hl | hl
  · exfalso
    unfold sg at e
    split at e
    · rename_i hd
      have : 0 ≤ redD n d * -((Nat.gcd n.natAbs d.natAbs : Nat) : Int) := Int.mul_nonneg_of_nonpos_of_nonpos (by omega) (by omega)
      omega
    · rename_i hd
      have : redD n d * ((Nat.gcd n.natAbs d.natAbs : Nat) : Int) < 0 := Int.mul_neg_of_neg_of_pos hl (by omega)
      omega
  · exact hl
/-- the same ratio -/
theorem red_cross {n d : Int} (h : d ≠ 0) : redN n d * d = n * redD n d := by
  have e1 := red_n (n := n) h
  have e2 := red_d (n := n) h
  calc redN n d * d = redN n d * (redD n d * sg n d) := by rw [e2]
    _ = redN n d * sg n d * redD n d := by rw [Int.mul_comm (redD n d), Int.mul_assoc]
    _ = n * redD n d := by rw [e1]
theorem red_gcd {n d : Int} (h : d ≠ 0) : Nat.gcd (redN n d).natAbs (redD n d).natAbs = 1 := by
  have e1 : (redN n d).natAbs * (sg n d).natAbs = n.natAbs := by rw [← Int.natAbs_mul, red_n h]
  have e2 : (redD n d).natAbs * (sg n d).natAbs = d.natAbs := by rw [← Int.natAbs_mul, red_d h]
  have e3 : (sg n d).natAbs = Nat.gcd n.natAbs d.natAbs := by unfold sg; split <;> omega
  have e4 := Nat.gcd_mul_right (redN n d).natAbs (sg n d).natAbs (redD n d).natAbs
  rw [e1, e2, e3] at e4
  have g := gcd_pos_of (n := n) h
  exact Nat.eq_of_mul_eq_mul_right g (by omega)
theorem red_abs_n {n d : Int} (h : d ≠ 0) : (redN n d).natAbs ≤ n.natAbs := by
  have e1 : (redN n d).natAbs * (sg n d).natAbs = n.natAbs := by rw [← Int.natAbs_mul, red_n h]
  have : 0 < (sg n d).natAbs := by have := sg_ne (n := n) h; omega
  rw [← e1]
  exact Nat.le_mul_of_pos_right _ this
theorem red_dvd {n d : Int} (h : d ≠ 0) : redD n d ∣ d := ⟨sg n d, (red_d h).symm⟩
/-- what the rules ask of numbers below a power of two -/
theorem log2_lt9 {i : Int} {b : Nat} (h : i.natAbs < 2 ^ b) (h0 : 0 < b) : i.natAbs.log2 < b := PySem.Flt.log2_lt_of h0 h
section
variable {X : Cx}
def CDivG (_ j : Int) : Prop := j ≠ 0 ∧ j.natAbs.log2 < 9000
theorem op_fdivG : OpR X (binaryOp .FloorDiv) (rI CDivG fun i j => .int (i.fdiv j)) := opI fun i j _ _ _ _ _ hc q =>
  PyProof.Rows.floordiv_int hc.1 q (.inl (PyProof.noPylong_of_log2 hc.2))
def CPowB (i j : Int) : Prop := 2 ≤ i.natAbs ∧ 1 ≤ j ∧ (Builtin.Int.intBits i : Int) * j ≤ 100000000
theorem op_mulO : OpR X (binaryOp .Mult) (rI IntMulOk fun i j => .int (i * j)) := opI fun _ _ _ _ _ _ _ hc q => PyProof.Rows.mul_int q hc
end
def sp_rat (C : Addr) : Sp := fun vs H Q _ => ∃ (x dx : Addr) (n d : Int), vs = [.ref x, .int n, .int d] ∧ d ≠ 0 ∧ d.natAbs < 2 ^ 8000 ∧ H x = some (.ins C dx []) ∧
  ∀ H', Keep [x] H H' → H' x = some (.ins C dx (rf (redN n d) (redD n d))) → Q .non H'

/-! the law's draws -/
def Pool (H : Hp) (p q : Addr) (ns : List Int) : Prop := ∃ (i1 i2 i3 i4 i5 : Int), H p = some (.lst [.ref q, .int i1, .int i2, .int i3, .int i4, .int i5]) ∧ H q = some (.lst (ns.map V.int)) ∧ q ≠ p ∧ 0 ≤ i1
theorem Pool.some {H : Hp} {p q : Addr} {ns : List Int} (h : Pool H p q ns) : ∃ o, H p = Option.some o := by
  obtain ⟨i1, i2, i3, i4, i5, h, _⟩ := h
  exact ⟨_, h⟩
theorem Pool.some2 {H : Hp} {p q : Addr} {ns : List Int} (h : Pool H p q ns) : ∃ o, H q = Option.some o := by
  obtain ⟨i1, i2, i3, i4, i5, _, h, _⟩ := h
  exact ⟨_, h⟩
theorem Pool.keep {H H' : Hp} {p q : Addr} {ns : List Int} {W : List Addr} (h : Pool H p q ns) (k : Keep W H H') (w : ∀ b, b ∈ W → H b = none) : Pool H' p q ns := by
  obtain ⟨i1, i2, i3, i4, i5, h1, h2, h3, h4⟩ := h
  have no : ∀ b o, H b = Option.some o → b ∉ W := fun b o e z => by rw [w b z] at e; cases e
  exact ⟨i1, i2, i3, i4, i5, k _ _ h1 (no _ _ h1), k _ _ h2 (no _ _ h2), h3, h4⟩
theorem Pool.keep0 {H H' : Hp} {p q : Addr} {ns : List Int} (h : Pool H p q ns) (k : Keep [] H H') : Pool H' p q ns := h.keep k fun _ z => by cases z
theorem Pool.new {H : Hp} {p q a : Addr} {ns : List Int} {o : HO} (h : Pool H p q ns) (n : H a = none) : Pool (upd H a o) p q ns := h.keep0 (Keep.new n)
theorem Pool.own {H : Hp} {p q a : Addr} {ns : List Int} {o : HO} (h : Pool H p q ns) (h1 : a ≠ p) (h2 : a ≠ q) : Pool (upd H a o) p q ns := by
  obtain ⟨i1, i2, i3, i4, i5, g1, g2, g3, g4⟩ := h
  exact ⟨i1, i2, i3, i4, i5, by rw [upd_ne h1.symm]; exact g1, by rw [upd_ne h2.symm]; exact g2, g3, g4⟩
theorem Pool.free {H H' : Hp} {p q l : Addr} {ns : List Int} (P : Pool H' p q ns) (e : Keep [p] H H') (h : H' l = none) : H l = none := by
  obtain ⟨o, ho⟩ := P.some
  exact e.free1 ho h
theorem Pool.nep {H : Hp} {p q l : Addr} {ns : List Int} (P : Pool H p q ns) (h : H l = none) : l ≠ p := by
  obtain ⟨o, ho⟩ := P.some
  exact (ne_of_none ho h).symm
theorem Pool.neq {H : Hp} {p q l : Addr} {ns : List Int} (P : Pool H p q ns) (h : H l = none) : l ≠ q := by
  obtain ⟨o, ho⟩ := P.some2
  exact (ne_of_none ho h).symm
def sp_law_pool (K : PySem.W.Frag) : Sp := fun vs H Q _ => ∃ (a : Addr) (ns : List Int) (b : Int), vs = [.ref a, .int b] ∧ SqL K H a (ns.map V.int) ∧
  ∀ p q H', H p = none → Pool H' p q ns → Keep [] H H' → Q (.ref p) H'
def sp_law_draw : Sp := fun vs H Q _ => ∃ (p q : Addr) (ns : List Int) (size : Int), vs = [.ref p, .int size] ∧ 0 < size ∧ size < 2 ^ 60 ∧ Pool H p q ns ∧
  ∀ r H', 0 ≤ r → r < size → Pool H' p q ns → Keep [p] H H' → Q (.int r) H'
section
variable {P : Program} {w : World} {K : PySem.W.Frag} {mg : Str → Option Value} {base : Heap} {C_Program : Addr} {C_Numbers : Addr} {C_GameError : Addr} {C_BadText : Addr} {C_TooLarge : Addr} {C_BadMove : Addr} {C_BadCode : Addr} {f_BadCode___init : Addr} {T_NAMES : Addr}
theorem ok_law_pool {f : Addr} {fd : FuncData} (D : C8.Def K mg "_law_pool" s_law_pool f fd) (b : Binds K fd ["script", "budget"] []) (T : Txt K mg C_Program C_Numbers C_GameError C_BadText C_TooLarge C_BadMove C_BadCode T_NAMES) : C8.Cal P w K mg base 1 "_law_pool" (sp_law_pool K) [] := by
  refine cal0 D b .nil sc_law_pool (fun vs H Q E h => ?_) (fun cdv A outer s H vs Q E hr h => ?_)
  · obtain ⟨a, ns, b, rfl, _⟩ := h
    rfl
  · obtain ⟨a, ns, b, rfl, hS, k⟩ := h
    refine ⟨_, (pss_one (ps_ret (pe_lst (pa_cons (pe_callTy call_list_of (by rfl) T.n_list bo_list (pa_cons (pv 0) pa_nil)) (pa_cons pe_int (pa_cons pe_int (pa_cons pe_int (pa_cons pe_int (pa_cons (pv 1) pa_nil))))))))), ?_⟩
    refine ⟨_, rfl, _, _, rfl, .inl hS, fun l hl => ⟨_, rfl, (by show 6 ≤ sizeLine; decide), fun p hp => ?_⟩⟩
    have hlp : l ≠ p := ne_of_none (H := upd H l (.lst (ns.map V.int))) upd_same hp
    have hp0 : H p = none := (Keep.new (W := []) hl).free hp
    refine k p l _ hp0 ⟨_, _, _, _, _, upd_same, (by rw [upd_ne hlp]; exact upd_same), hlp, Int.le_refl 0⟩ ((Keep.new hl).then_new hp)
theorem ok_law_draw {f : Addr} {fd : FuncData} (D : C8.Def K mg "_law_draw" s_law_draw f fd) (b : Binds K fd ["pool", "size"] []) (T : Txt K mg C_Program C_Numbers C_GameError C_BadText C_TooLarge C_BadMove C_BadCode T_NAMES) : C8.Cal P w K mg base 1 "_law_draw" sp_law_draw [] := by
  refine cal0 D b .nil sc_law_draw (fun vs H Q E h => ?_) (fun cdv A outer s H vs Q E hr h => ?_)
  · obtain ⟨p, q, ns, size, rfl, _⟩ := h
    rfl
  · obtain ⟨p, q, ns, size, rfl, hs0, hs1, ⟨i1, i2, i3, i4, i5, h1, h2, hqp, hi1⟩, k⟩ := h
    have hbig : (2147483647 : Int) > 0 := by decide
    have cdg : ∀ {i : Int}, CDivG i size := ⟨by omega, Nat.lt_trans (log2_lt9 (b := 60) (by omega) (by decide)) (by decide)⟩
    refine ⟨_, (pss_cut (ps_if (PW.pt (pw_and (pt_cmpR op_le (pe_ix ix_list (pv 0) pe_int (fun _ _ => rfl)) pe_int (nomark _)) (pw_and (pt_cmpR op_le (pe_ix ix_list (pv 0) pe_int (fun _ _ => rfl)) pe_int (nomark _)) (pw_and1 (pt_cmpR op_lt (pe_ix ix_list (pv 0) pe_int (fun _ _ => rfl)) (pe_callB call_len_seq (by rfl) T.n_len bo_len (pa_cons (pe_ix ix_list (pv 0) pe_int (fun _ _ => rfl)) pa_nil)) (nomark _))))))
  (pss_cons (ps_set (i := 2) sc_law_draw.nd rfl (by first | exact Or.inl rfl | exact Or.inr rfl) (pe_ix ix_list (pe_ix ix_list (pv 0) pe_int (fun _ _ => rfl)) (pe_ix ix_list (pv 0) pe_int (fun _ _ => rfl)) (fun _ _ => rfl)))
  (pss_cons (ps_asg (pe_op op_add (pe_ix ix_list (pv 0) pe_int (fun _ _ => rfl)) pe_int) (pg_sub (pv 0) pe_int set_list))
  (pss_cons (ps_asg (pe_op op_mod (pe_callTy call_int1 (by rfl) T.n_int bo_int (pa_cons (pe_op op_add (pe_op op_mul (pe_ix ix_list (pv 0) pe_int (fun _ _ => rfl)) pe_int) (pv 2)) pa_nil)) pe_int) (pg_sub (pv 0) pe_int set_list))
  (pss_cons (ps_asg pe_int (pg_sub (pv 0) pe_int set_list))
  (pss_one (ps_if (pt_cmpR op_ge (pv 2) (pe_op op_pow pe_int pe_int) (nomark _))
    (pss_one (ps_asg (pv 2) (pg_sub (pv 0) pe_int set_list)))
    pss_nil))))))
  pss_nil)
(pss_cons (ps_if (pt_cmpR op_gt (pe_ix ix_list (pv 0) pe_int (fun _ _ => rfl)) pe_int (nomark _))
  (pss_cons (ps_set (i := 3) sc_law_draw.nd rfl (by first | exact Or.inl rfl | exact Or.inr rfl) (pe_op op_mod (pe_callTy call_int1 (by rfl) T.n_int bo_int (pa_cons (pe_ix ix_list (pv 0) pe_int (fun _ _ => rfl)) pa_nil)) (pv 1)))
  (pss_cons (ps_asg (pe_op op_fdivG (pe_ix ix_list (pv 0) pe_int (fun _ _ => rfl)) (pv 1)) (pg_sub (pv 0) pe_int set_list))
  (pss_cons (ps_asg pe_int (pg_sub (pv 0) pe_int set_list))
  (pss_one (ps_ret (pv 3))))))
  pss_nil)
(pss_cons (ps_asg (pe_op op_sub (pe_ix ix_list (pv 0) pe_int (fun _ _ => rfl)) pe_int) (pg_sub (pv 0) pe_int set_list))
(pss_cons (ps_asg (pe_op op_mod (pe_callTy call_int1 (by rfl) T.n_int bo_int (pa_cons (pe_op op_add (pe_op op_mul (pe_ix ix_list (pv 0) pe_int (fun _ _ => rfl)) pe_int) pe_int) pa_nil)) pe_int) (pg_sub (pv 0) pe_int set_list))
(pss_one (ps_ret (pe_op op_mod (pe_op op_mod (pe_callTy call_int1 (by rfl) T.n_int bo_int (pa_cons (pe_op op_add (pe_op op_mul (pe_ix ix_list (pv 0) pe_int (fun _ _ => rfl)) pe_int) pe_int) pa_nil)) pe_int) (pv 1)))))))), ?_⟩
    -- the state between the statements
    refine ⟨fun σ H' => ∃ (c : Option V) (j1 j2 j3 j4 j5 : Int), σ = [some (.ref p), some (.int size), c, none] ∧ H' p = some (.lst [.ref q, .int j1, .int j2, .int j3, .int j4, .int j5]) ∧ Keep [p] H H' ∧ 0 ≤ j1, ?_, ?_⟩
    · have stay : ∃ (c : Option V) (j1 j2 j3 j4 j5 : Int), ([some (.ref p), some (.int size), none, none] : List (Option V)) = [some (.ref p), some (.int size), c, none] ∧ H p = some (.lst [.ref q, .int j1, .int j2, .int j3, .int j4, .int j5]) ∧ Keep [p] H H ∧ 0 ≤ j1 :=
        ⟨_, i1, i2, i3, i4, i5, rfl, h1, Keep.refl _ _, hi1⟩
      refine ⟨_, rfl, _, _, _, _, rfl, rfl, SqL.of h1, rfl, _, _, rfl, rfl, _, rfl, iteD (fun _ => ?_) (fun _ => stay)⟩
      refine ⟨_, rfl, _, _, _, _, rfl, rfl, SqL.of h1, rfl, _, _, rfl, rfl, _, rfl, iteD (fun _ => ?_) (fun _ => stay)⟩
      refine ⟨_, rfl, _, _, _, _, rfl, rfl, SqL.of h1, rfl, _, rfl, _, _, _, _, rfl, rfl, SqL.of h1, rfl, _, _, rfl, .inl (SqL.of h2), _, _, rfl, rfl, _, rfl, iteD (fun hlt => ?_) (fun _ => stay)⟩
      obtain ⟨j, rfl⟩ : ∃ j : Nat, i1 = (j : Int) := ⟨i1.toNat, by omega⟩
      rw [List.length_map] at hlt
      have hj : j < ns.length := by omega
      have hc : (ns.map V.int)[j]? = some (.int ns[j]) := by rw [List.getElem?_map, List.getElem?_eq_getElem hj]; rfl
      refine ⟨_, rfl, _, _, _, _, rfl, rfl, SqL.of h1, rfl, _, rfl, _, _, _, _, rfl, rfl, SqL.of h1, rfl, _, _, _, _, rfl, rfl, SqL.of h2, atI_nat hc, ?_⟩
      refine ⟨_, rfl, _, _, _, _, rfl, rfl, SqL.of h1, rfl, _, _, rfl, rfl, _, rfl, _, _, _, _, rfl, rfl, h1, rfl, ?_⟩
      refine ⟨_, rfl, _, _, _, _, rfl, rfl, SqL.of upd_same, rfl, _, _, rfl, rfl, .inr ⟨by decide, by decide⟩, _, rfl, _, _, rfl, rfl, .inl ⟨_, rfl, _, _, rfl, rfl, hbig, _, rfl, _, _, _, _, rfl, rfl, upd_same, rfl, ?_⟩⟩
      refine ⟨_, rfl, _, _, _, _, rfl, rfl, upd_same, rfl, ?_⟩
      have kk : Keep [p] H (upd (upd (upd H p (.lst (List.set [.ref q, .int (j : Int), .int i2, .int i3, .int i4, .int i5] 1 (.int ((j : Int) + 1))))) p
        (.lst (List.set (List.set [.ref q, .int (j : Int), .int i2, .int i3, .int i4, .int i5] 1 (.int ((j : Int) + 1))) 3 (.int ((i3 * 31 + ns[j]) % 2147483647))))) p
        (.lst (List.set (List.set (List.set [.ref q, .int (j : Int), .int i2, .int i3, .int i4, .int i5] 1 (.int ((j : Int) + 1))) 3 (.int ((i3 * 31 + ns[j]) % 2147483647))) 4 (.int 7)))) :=
        ((Keep.at_ (List.mem_singleton.mpr rfl)).then_at (List.mem_singleton.mpr rfl)).then_at (List.mem_singleton.mpr rfl)
      refine ⟨_, rfl, _, _, rfl, rfl, ⟨by decide, by decide, by decide⟩, _, _, rfl, rfl, _, rfl, iteD (fun _ => ?_) (fun _ => ?_)⟩
      · refine ⟨_, rfl, _, rfl, _, _, _, _, rfl, rfl, upd_same, rfl, ?_⟩
        exact ⟨_, _, _, _, _, _, rfl, upd_same, kk.then_at (List.mem_singleton.mpr rfl), by omega⟩
      · exact ⟨_, _, _, _, _, _, rfl, upd_same, kk, by omega⟩
    · rintro σ' H' ⟨c, j1, j2, j3, j4, j5, rfl, g1, kk, hj1⟩
      have g2 : H' q = some (.lst (ns.map V.int)) := kk q _ h2 (by simpa using hqp)
      refine ⟨_, rfl, _, _, _, _, rfl, rfl, SqL.of g1, rfl, _, _, rfl, rfl, _, rfl, iteD (fun _ => ?_) (fun _ => ?_)⟩
      · refine ⟨_, rfl, _, _, _, _, rfl, rfl, SqL.of g1, rfl, .inl ⟨_, rfl, _, rfl, _, _, rfl, rfl, hs0, ?_⟩⟩
        refine ⟨_, rfl, _, _, _, _, rfl, rfl, SqL.of g1, rfl, _, rfl, _, _, rfl, rfl, cdg, _, rfl, _, _, _, _, rfl, rfl, g1, rfl, ?_⟩
        refine ⟨_, rfl, _, _, _, _, rfl, rfl, upd_same, rfl, ?_⟩
        refine ⟨_, rfl, ?_⟩
        refine k _ _ (Int.emod_nonneg _ (by omega)) (Int.emod_lt_of_pos _ hs0) ⟨_, _, _, _, _, upd_same, ?_, hqp, hj1⟩ ((kk.then_at (List.mem_singleton.mpr rfl)).then_at (List.mem_singleton.mpr rfl))
        rw [upd_ne hqp, upd_ne hqp]; exact g2
      · refine ⟨_, rfl, _, _, _, _, rfl, rfl, SqL.of g1, rfl, _, _, rfl, rfl, _, rfl, _, _, _, _, rfl, rfl, g1, rfl, ?_⟩
        refine ⟨_, rfl, _, _, _, _, rfl, rfl, SqL.of upd_same, rfl, _, _, rfl, rfl, .inr ⟨by decide, by decide⟩, _, _, rfl, rfl, .inl ⟨_, rfl, _, _, rfl, rfl, hbig, _, rfl, _, _, _, _, rfl, rfl, upd_same, rfl, ?_⟩⟩
        refine ⟨_, rfl, _, _, _, _, rfl, rfl, SqL.of upd_same, rfl, _, _, rfl, rfl, .inr ⟨by decide, by decide⟩, _, _, rfl, rfl, .inl ⟨_, rfl, _, _, rfl, rfl, hbig, _, rfl, _, _, rfl, rfl, hs0, ?_⟩⟩
        refine k _ _ (Int.emod_nonneg _ (by omega)) (Int.emod_lt_of_pos _ hs0) ⟨_, _, _, _, _, upd_same, ?_, hqp, hj1⟩ ((kk.then_at (List.mem_singleton.mpr rfl)).then_at (List.mem_singleton.mpr rfl))
        rw [upd_ne hqp, upd_ne hqp]; exact g2
end

/-! the law's small draws -/
def sp_law_few : Sp := fun vs H Q _ => ∃ (p q : Addr) (ns : List Int) (most : Int), vs = [.ref p, .int most] ∧ 0 ≤ most ∧ most < 1000000 ∧ Pool H p q ns ∧
  ∀ r H', 0 ≤ r → r ≤ most → Pool H' p q ns → Keep [p] H H' → Q (.int r) H'
section
variable {P : Program} {w : World} {K : PySem.W.Frag} {mg : Str → Option Value} {base : Heap} {C_Program : Addr} {C_Numbers : Addr} {C_GameError : Addr} {C_BadText : Addr} {C_TooLarge : Addr} {C_BadMove : Addr} {C_BadCode : Addr} {f_BadCode___init : Addr} {T_NAMES : Addr}
theorem ok_law_few {f : Addr} {fd : FuncData} (D : C8.Def K mg "_law_few" s_law_few f fd) (b : Binds K fd ["pool", "most"] []) (T : Txt K mg C_Program C_Numbers C_GameError C_BadText C_TooLarge C_BadMove C_BadCode T_NAMES) (c_law_draw : C8.Cal P w K mg base 1 "_law_draw" sp_law_draw []) : C8.Cal P w K mg base 2 "_law_few" sp_law_few [] := by
  refine cal0 D b .nil sc_law_few (fun vs H Q E h => ?_) (fun cdv A outer s H vs Q E hr h => ?_)
  · obtain ⟨p, q, ns, m, rfl, _⟩ := h
    rfl
  · obtain ⟨p, q, ns, m, rfl, m0, m1, hP, k⟩ := h
    refine ⟨_, (pss_cons (ps_set (i := 2) sc_law_few.nd rfl (by first | exact Or.inl rfl | exact Or.inr rfl) (pe_c c_law_draw hr (by first | exact Nat.le_refl _ | decide | omega) rfl (pa_cons (pv 0) (pa_cons pe_int pa_nil))))
(pss_cons (ps_if (pt_cmpR op_eq (pv 2) pe_int (nomark _))
  (pss_one (ps_ret (pe_c c_law_draw hr (by first | exact Nat.le_refl _ | decide | omega) rfl (pa_cons (pv 0) (pa_cons (pe_op op_add (pv 1) pe_int) pa_nil)))))
  pss_nil)
(pss_one (ps_ret (pe_callB (call_min2 rfl) (by rfl) T.n_min bo_min (pa_cons (pv 2) (pa_cons (pv 1) pa_nil))))))), ?_⟩
    refine ⟨_, rfl, p, q, ns, 4, rfl, by decide, by decide, hP, fun r H1 r0 r1 P1 K1 => ?_⟩
    refine ⟨_, rfl, rfl, _, rfl, iteD (fun _ => ?_) (fun _ => ?_)⟩
    · refine ⟨_, rfl, _, rfl, _, _, rfl, rfl, p, q, ns, _, rfl, by omega, by omega, P1, fun r2 H2 z0 z1 P2 K2 => ?_⟩
      exact k _ _ z0 (by omega) P2 (K1.trans K2)
    · refine ⟨_, rfl, _, rfl, _, _, rfl, k _ _ ?_ ?_ P1 K1⟩
      · split <;> omega
      · split <;> omega
end

/-! the law's look whether two values are the same: only the answer True is told -/
def SameV : Nat → Hp → V → V → Prop
  | 0, _, _, _ => False
  | n + 1, H, a, d => (a = d ∧ ((∃ x, d = .str x) ∨ (∃ i, d = .int i) ∨ (∃ b, d = .bl b) ∨ d = .non)) ∨
    ∃ p q xs ys, a = .ref p ∧ d = .ref q ∧ ((H p = some (.lst xs) ∧ H q = some (.lst ys)) ∨ (H p = some (.tup xs) ∧ H q = some (.tup ys))) ∧ xs.length = ys.length ∧ xs.length ≤ sizeLine ∧
      ∀ (i : Nat) x y, xs[i]? = some x → ys[i]? = some y → SameV n H x y
def sp_law_same (n : Nat) : Sp := fun vs H Q _ => ∃ a d, vs = [a, d] ∧ SameV n H a d ∧ Q (.bl true) H
theorem sameV_strs {n : Nat} {H : Hp} {p q : Addr} {ys : List Str} (h1 : H p = some (.lst (ys.map V.str))) (h2 : H q = some (.lst (ys.map V.str))) (hl : ys.length ≤ sizeLine) : SameV (n + 2) H (.ref p) (.ref q) := by
  refine .inr ⟨p, q, _, _, rfl, rfl, .inl ⟨h1, h2⟩, rfl, by rw [List.length_map]; exact hl, fun i x y hx hy => ?_⟩
  rw [hx] at hy; cases hy
  obtain ⟨z, _, rfl⟩ := strs_get hx
  exact .inl ⟨rfl, .inl ⟨z, rfl⟩⟩
theorem sameV_str {n : Nat} {H : Hp} (x : Str) : SameV (n + 1) H (.str x) (.str x) := .inl ⟨rfl, .inl ⟨x, rfl⟩⟩
section
variable {K : PySem.W.Frag}
theorem kLT : PySem.W.kitOne K (.type "list") (.type "tuple") = some false := kit_ty (by decide +kernel)
theorem kLL : PySem.W.kitOne K (.type "list") (.type "list") = some true := kit_ty (by decide +kernel)
theorem kTT : PySem.W.kitOne K (.type "tuple") (.type "tuple") = some true := kit_ty (by decide +kernel)
theorem kTL : PySem.W.kitOne K (.type "tuple") (.type "list") = some false := kit_ty (by decide +kernel)
theorem kST : PySem.W.kitOne K (.type "str") (.type "tuple") = some false := kit_ty (by decide +kernel)
theorem kSL : PySem.W.kitOne K (.type "str") (.type "list") = some false := kit_ty (by decide +kernel)
theorem kSB : PySem.W.kitOne K (.type "str") (.type "bool") = some false := kit_ty (by decide +kernel)
theorem kSI : PySem.W.kitOne K (.type "str") (.type "int") = some false := kit_ty (by decide +kernel)
theorem kSS : PySem.W.kitOne K (.type "str") (.type "str") = some true := kit_ty (by decide +kernel)
theorem kIT : PySem.W.kitOne K (.type "int") (.type "tuple") = some false := kit_ty (by decide +kernel)
theorem kIL : PySem.W.kitOne K (.type "int") (.type "list") = some false := kit_ty (by decide +kernel)
theorem kIB : PySem.W.kitOne K (.type "int") (.type "bool") = some false := kit_ty (by decide +kernel)
theorem kII : PySem.W.kitOne K (.type "int") (.type "int") = some true := kit_ty (by decide +kernel)
theorem kBT : PySem.W.kitOne K (.type "bool") (.type "tuple") = some false := kit_ty (by decide +kernel)
theorem kBL : PySem.W.kitOne K (.type "bool") (.type "list") = some false := kit_ty (by decide +kernel)
theorem kBB : PySem.W.kitOne K (.type "bool") (.type "bool") = some true := kit_ty (by decide +kernel)
theorem kBI : PySem.W.kitOne K (.type "bool") (.type "int") = some true := kit_ty (by decide +kernel)
theorem kNT : PySem.W.kitOne K (.type "NoneType") (.type "tuple") = some false := kit_ty (by decide +kernel)
theorem kNL : PySem.W.kitOne K (.type "NoneType") (.type "list") = some false := kit_ty (by decide +kernel)
theorem kNB : PySem.W.kitOne K (.type "NoneType") (.type "bool") = some false := kit_ty (by decide +kernel)
theorem kNI : PySem.W.kitOne K (.type "NoneType") (.type "int") = some false := kit_ty (by decide +kernel)
end
theorem paired_strs {K : PySem.W.Frag} {H : Hp} {n : Nat} : ∀ ys : List Str, Paired (EqV K H (n + 1)) (ys.map V.str) (ys.map V.str)
  | [] => .nil
  | y :: r => .cons (.inl ⟨rfl, rfl⟩) (paired_strs r)
theorem canLay_intsL : ∀ l : List Int, PyData.canLayAll0 (l.map PyData.int) = true
  | [] => rfl
  | a :: r => by simp [PyData.canLayAll0, PyData.canLay0, canLay_intsL r]
theorem depth_intsL : ∀ l : List Int, PyData.depthAll (l.map PyData.int) ≤ 1
  | [] => by simp [PyData.depthAll]
  | a :: r => by
    have := depth_intsL r
    simp only [List.map_cons, PyData.depthAll, PyData.depth]
    omega
theorem shaped_ints (ys : List Int) : SeqAt.shaped (.list (ys.map PyData.int)) = true := by
  unfold SeqAt.shaped
  have h := depth_intsL ys
  rw [Bool.and_eq_true]
  refine ⟨by simp only [PyData.canLay0]; exact canLay_intsL ys, decide_eq_true ?_⟩
  simp only [PyData.depth]
  omega
theorem eqv_ints (ys : List Int) : PyData.eqv (.list (ys.map PyData.int)) (.list (ys.map PyData.int)) = true := SeqAt.eqv_refl _ (SeqAt.canLay_of_shaped (shaped_ints ys))
theorem dp_ints {K : PySem.W.Frag} {H : Hp} : ∀ (ys : List Int), DpAll K H (ys.map V.int) (ys.map PyData.int)
  | [] => .nil
  | y :: r => .cons (.int y) (dp_ints r)

section
variable {P : Program} {w : World} {K : PySem.W.Frag} {mg : Str → Option Value} {base : Heap} {C_Program : Addr} {C_Numbers : Addr} {C_GameError : Addr} {C_BadText : Addr} {C_TooLarge : Addr} {C_BadMove : Addr} {C_BadCode : Addr} {f_BadCode___init : Addr} {T_NAMES : Addr}
theorem ok_law_same0 {f : Addr} {fd : FuncData} (D : C8.Def K mg "_law_same" s_law_same f fd) (b : Binds K fd ["actual", "due"] []) : C8.Cal P w K mg base 0 "_law_same" (sp_law_same 0) [] :=
  ⟨f, fd, ["actual", "due"], [], ⟨fun vs H Q E h => (by obtain ⟨a, d, rfl, _⟩ := h; rfl), fun A outer s H args us vs Q E _ _ _ _ h => (by obtain ⟨a, d, _, z, _⟩ := h; exact z.elim)⟩, D.mgf, D.kp, b, .nil⟩
theorem ok_law_same {f : Addr} {fd : FuncData} (D : C8.Def K mg "_law_same" s_law_same f fd) (b : Binds K fd ["actual", "due"] []) (T : Txt K mg C_Program C_Numbers C_GameError C_BadText C_TooLarge C_BadMove C_BadCode T_NAMES) {n k : Nat} (c_law_same : C8.Cal P w K mg base k "_law_same" (sp_law_same n) []) :
    C8.Cal P w K mg base (k + 1) "_law_same" (sp_law_same (n + 1)) [] := by
  refine cal0 D b .nil sc_law_same (fun vs H Q E h => ?_) (fun cdv A outer s H vs Q E hr h => ?_)
  · obtain ⟨a, d, rfl, _⟩ := h
    rfl
  · obtain ⟨a, d, rfl, hs, k⟩ := h
    have hu := hu_of hr
    refine ⟨_, (pss_cons (ps_if (PW.pt (pw_or (pt_val (pe_callB call_isi (by rfl) T.n_isinstance bo_isinstance (pa_cons (pv 1) (pa_cons (pe_bltn (v := .ty "tuple") (by rfl) T.n_tuple bo_tuple rfl) pa_nil)))) (pw_or1 (pt_val (pe_callB call_isi (by rfl) T.n_isinstance bo_isinstance (pa_cons (pv 1) (pa_cons (pe_bltn (v := .ty "list") (by rfl) T.n_list bo_list rfl) pa_nil)))))))
  (pss_cons (ps_if (PW.pt (pw_or (pt_cmpR op_ne (pe_callB call_isi (by rfl) T.n_isinstance bo_isinstance (pa_cons (pv 1) (pa_cons (pe_bltn (v := .ty "tuple") (by rfl) T.n_tuple bo_tuple rfl) pa_nil))) (pe_callB call_isi (by rfl) T.n_isinstance bo_isinstance (pa_cons (pv 0) (pa_cons (pe_bltn (v := .ty "tuple") (by rfl) T.n_tuple bo_tuple rfl) pa_nil))) (nomark _)) (pw_or1 (pt_cmpR op_ne (pe_callB call_isi (by rfl) T.n_isinstance bo_isinstance (pa_cons (pv 1) (pa_cons (pe_bltn (v := .ty "list") (by rfl) T.n_list bo_list rfl) pa_nil))) (pe_callB call_isi (by rfl) T.n_isinstance bo_isinstance (pa_cons (pv 0) (pa_cons (pe_bltn (v := .ty "list") (by rfl) T.n_list bo_list rfl) pa_nil))) (nomark _)))))
    (pss_one (ps_ret pe_bl))
    pss_nil)
  (pss_cons (ps_if (pt_cmpR op_ne (pe_callB call_len_seq (by rfl) T.n_len bo_len (pa_cons (pv 0) pa_nil)) (pe_callB call_len_seq (by rfl) T.n_len bo_len (pa_cons (pv 1) pa_nil)) (nomark _))
    (pss_one (ps_ret pe_bl))
    pss_nil)
  (pss_cons (ps_for PassesOwn.never rfl (pi_range1 (by rfl) T.n_range (pa_cons (pe_callB call_len_seq (by rfl) T.n_len bo_len (pa_cons (pv 1) pa_nil)) pa_nil)) (pg_name (i := 2) sc_law_same.nd rfl (by first | exact Or.inl rfl | exact Or.inr rfl))
    (pss_one (ps_if (pt_not (pt_val (pe_c c_law_same hr (by first | exact Nat.le_refl _ | decide | omega) rfl (pa_cons (pe_ix ix_seq (pv 0) (pv 2) (fun _ _ => rfl)) (pa_cons (pe_ix ix_seq (pv 1) (pv 2) (fun _ _ => rfl)) pa_nil)))))
      (pss_one (ps_ret pe_bl))
      pss_nil)))
  (pss_one (ps_ret pe_bl)))))
  pss_nil)
(pss_cons (ps_if (PW.pt (pw_or (pt_cmpR op_isN (pv 1) pe_non (nomark _)) (pw_or1 (pt_val (pe_callB call_isi (by rfl) T.n_isinstance bo_isinstance (pa_cons (pv 1) (pa_cons (pe_bltn (v := .ty "bool") (by rfl) T.n_bool bo_bool rfl) pa_nil)))))))
  (pss_one (ps_ret (pe_and (pe_cmpR op_eq (pe_cmpR op_isN (pv 0) pe_non (nomark _)) (pe_cmpR op_isN (pv 1) pe_non (nomark _)) (nomark _)) (pe_and (pe_or (pe_cmpR op_isN (pv 1) pe_non (nomark _)) (pe_one (pe_callB call_isi (by rfl) T.n_isinstance bo_isinstance (pa_cons (pv 0) (pa_cons (pe_bltn (v := .ty "bool") (by rfl) T.n_bool bo_bool rfl) pa_nil))))) (pe_one (pe_cmpR op_eq (pv 0) (pv 1) (nomark _)))))))
  pss_nil)
(pss_cons (ps_if (pt_val (pe_callB call_isi (by rfl) T.n_isinstance bo_isinstance (pa_cons (pv 1) (pa_cons (pe_bltn (v := .ty "int") (by rfl) T.n_int bo_int rfl) pa_nil))))
  (pss_one (ps_ret (pe_and (pe_callB call_isi (by rfl) T.n_isinstance bo_isinstance (pa_cons (pv 0) (pa_cons (pe_bltn (v := .ty "int") (by rfl) T.n_int bo_int rfl) pa_nil))) (pe_and (pe_not (pe_callB call_isi (by rfl) T.n_isinstance bo_isinstance (pa_cons (pv 0) (pa_cons (pe_bltn (v := .ty "bool") (by rfl) T.n_bool bo_bool rfl) pa_nil)))) (pe_one (pe_cmpR op_eq (pv 0) (pv 1) (nomark _)))))))
  pss_nil)
(pss_one (ps_ret (pe_and (pe_callB call_isi (by rfl) T.n_isinstance bo_isinstance (pa_cons (pv 0) (pa_cons (pe_bltn (v := .ty "str") (by rfl) T.n_str bo_str rfl) pa_nil))) (pe_one (pe_cmpR op_eq (pv 0) (pv 1) (nomark _))))))))), ?_⟩
    -- the part behind the lengths, for lists and for tuples
    rcases hs with ⟨rfl, ⟨x, rfl⟩ | ⟨x, rfl⟩ | ⟨x, rfl⟩ | rfl⟩ | ⟨p, q, xs, ys, rfl, rfl, hh, hl, hz, hall⟩
    · refine ⟨_, rfl, _, _, _, _, _, rfl, .ty _, .base (.str x), kST, _, rfl, iteF ⟨_, rfl, _, _, _, _, _, rfl, .ty _, .base (.str x), kSL, _, rfl, iteF ?_⟩⟩
      refine ⟨_, rfl, rfl, _, rfl, iteDF (by simp) ⟨_, rfl, _, _, _, _, _, rfl, .ty _, .base (.str x), kSB, _, rfl, iteF ?_⟩⟩
      refine ⟨_, rfl, _, _, _, _, _, rfl, .ty _, .base (.str x), kSI, _, rfl, iteF ?_⟩
      refine ⟨_, rfl, _, _, _, _, _, rfl, .ty _, .base (.str x), kSS, _, rfl, iteT ⟨_, rfl, _, rfl, rfl, ?_⟩⟩
      rw [decide_eq_true rfl]; exact k
    · refine ⟨_, rfl, _, _, _, _, _, rfl, .ty _, .base (.int x), kIT, _, rfl, iteF ⟨_, rfl, _, _, _, _, _, rfl, .ty _, .base (.int x), kIL, _, rfl, iteF ?_⟩⟩
      refine ⟨_, rfl, rfl, _, rfl, iteDF (by simp) ⟨_, rfl, _, _, _, _, _, rfl, .ty _, .base (.int x), kIB, _, rfl, iteF ?_⟩⟩
      refine ⟨_, rfl, _, _, _, _, _, rfl, .ty _, .base (.int x), kII, _, rfl, iteT ?_⟩
      refine ⟨_, rfl, _, _, _, _, _, rfl, .ty _, .base (.int x), kII, _, rfl, iteT ⟨_, rfl, _, _, _, _, _, rfl, .ty _, .base (.int x), kIB, _, rfl, _, rfl, iteT ⟨_, rfl, _, rfl, rfl, ?_⟩⟩⟩
      rw [decide_eq_true rfl]; exact k
    · refine ⟨_, rfl, _, _, _, _, _, rfl, .ty _, .base (.bl x), kBT, _, rfl, iteF ⟨_, rfl, _, _, _, _, _, rfl, .ty _, .base (.bl x), kBL, _, rfl, iteF ?_⟩⟩
      refine ⟨_, rfl, rfl, _, rfl, iteDF (by simp) ⟨_, rfl, _, _, _, _, _, rfl, .ty _, .base (.bl x), kBB, _, rfl, iteT ?_⟩⟩
      refine ⟨_, rfl, rfl, _, rfl, rfl, rfl, _, rfl, iteDT (by simp) ?_⟩
      refine ⟨_, rfl, rfl, _, rfl, iteDF (by simp) ?_⟩
      refine ⟨_, rfl, _, _, _, _, _, rfl, .ty _, .base (.bl x), kBB, ?_⟩
      refine ⟨_, rfl, iteT ⟨_, rfl, _, rfl, rfl, ?_⟩⟩
      rw [decide_eq_true rfl]; exact k
    · refine ⟨_, rfl, _, _, _, _, _, rfl, .ty _, .base .non, kNT, _, rfl, iteF ⟨_, rfl, _, _, _, _, _, rfl, .ty _, .base .non, kNL, _, rfl, iteF ?_⟩⟩
      refine ⟨_, rfl, rfl, _, rfl, iteDT (by simp) ?_⟩
      refine ⟨_, rfl, rfl, _, rfl, rfl, rfl, _, rfl, iteDT (by simp) ?_⟩
      refine ⟨_, rfl, rfl, _, rfl, iteDT (by simp) ?_⟩
      refine ⟨_, rfl, iteT ⟨_, rfl, _, rfl, rfl, ?_⟩⟩
      rw [decide_eq_true rfl]; exact k
    · obtain ⟨t, b1, b2, ty1, ty2, k1, k2, hb, sq⟩ : ∃ (t : Value) (b1 b2 : Bool), TyX K H (.ref p) t ∧ TyX K H (.ref q) t ∧ PySem.W.kitOne K t (.type "tuple") = some b1 ∧ PySem.W.kitOne K t (.type "list") = some b2 ∧ (b1 = true ∨ b2 = true) ∧
          ((SqL K H p xs ∧ SqL K H q ys) ∨ (SqT K H p xs ∧ SqT K H q ys)) := by
        rcases hh with ⟨h1, h2⟩ | ⟨h1, h2⟩
        · exact ⟨_, _, _, .base (.lst h1), .base (.lst h2), kLT, kLL, .inr rfl, .inl ⟨SqL.of h1, SqL.of h2⟩⟩
        · exact ⟨_, _, _, .base (.tup h1), .base (.tup h2), kTT, kTL, .inl rfl, .inr ⟨SqT.of h1, SqT.of h2⟩⟩
      have sqp : SqL K H p xs ∨ SqT K H p xs := sq.elim (fun z => .inl z.1) fun z => .inr z.1
      have sqq : SqL K H q ys ∨ SqT K H q ys := sq.elim (fun z => .inl z.2) fun z => .inr z.2
      have bz : (ys.length : Int) < 2 ^ 62 := by
        have e : sizeLine = 16777216 := sizeLine_eq
        have : ys.length ≤ 16777216 := by omega
        omega
      -- the part behind the first test
      have rest : ∀ {D : Ends} {t1 : TS}, t1 D [some (.ref p), some (.ref q), none] H → t1 D [some (.ref p), some (.ref q), none] H := fun z => z
      refine ⟨_, rfl, _, _, _, _, _, rfl, .ty _, ty2, k1, _, rfl, iteB (fun e1 => ?_) (fun e1 => ⟨_, rfl, _, _, _, _, _, rfl, .ty _, ty2, k2, _, rfl, iteB (fun e2 => ?_) (fun e2 => ?_)⟩)⟩
      rotate_left 2
      · rcases hb with z | z
        · rw [e1] at z; cases z
        · rw [e2] at z; cases z
      all_goals
        refine ⟨_, rfl, _, _, _, _, _, rfl, .ty _, ty2, k1, _, rfl, _, _, _, _, _, rfl, .ty _, ty1, k1, rfl, _, rfl, iteNF (by simp) ?_⟩
        refine ⟨_, rfl, _, _, _, _, _, rfl, .ty _, ty2, k2, _, rfl, _, _, _, _, _, rfl, .ty _, ty1, k2, rfl, _, rfl, iteNF (by simp) ?_⟩
        refine ⟨_, rfl, _, _, rfl, sqp, _, rfl, _, _, rfl, sqq, rfl, _, rfl, iteNF (by rw [hl]) ?_⟩
        refine ⟨_, rfl, _, _, rfl, sqq, _, rfl, by omega, bz, for_range (lo := 0) (n := ys.length) (fun i σ H' => ∃ kv, σ = [some (.ref p), some (.ref q), kv] ∧ H' = H) ⟨none, rfl, rfl⟩ ?_ ?_⟩
        · rintro i σ H' hi ⟨kv, rfl, rfl⟩
          have hx : xs[i]? = some (xs[i]'(by omega)) := List.getElem?_eq_getElem _
          have hy : ys[i]? = some ys[i] := List.getElem?_eq_getElem _
          have e0 : (0 : Int) + (i : Int) = (i : Int) := by omega
          rw [e0]
          rcases sq with ⟨s1, s2⟩ | ⟨s1, s2⟩
          · refine ⟨_, rfl, _, rfl, .inl ⟨_, _, _, _, rfl, rfl, s1, atI_nat hx, _, rfl, _, rfl, .inl ⟨_, _, _, _, rfl, rfl, s2, atI_nat hy, ?_⟩⟩⟩
            exact ⟨_, _, rfl, hall i _ _ hx hy, _, rfl, iteF ⟨_, rfl, rfl⟩⟩
          · refine ⟨_, rfl, _, rfl, .inr (.inl ⟨_, _, _, _, rfl, rfl, s1, atI_nat hx, _, rfl, _, rfl, .inr (.inl ⟨_, _, _, _, rfl, rfl, s2, atI_nat hy, ?_⟩)⟩)⟩
            exact ⟨_, _, rfl, hall i _ _ hx hy, _, rfl, iteF ⟨_, rfl, rfl⟩⟩
        · rintro σ H' ⟨kv, rfl, rfl⟩
          exact k
end

/-- tuples stand -/
def TK (H H' : Hp) : Prop := ∀ b xs, H b = some (.tup xs) → H' b = some (.tup xs)
theorem TK.refl (H : Hp) : TK H H := fun _ _ h => h
theorem TK.trans {H H1 H2 : Hp} (a : TK H H1) (b : TK H1 H2) : TK H H2 := fun c xs h => b c xs (a c xs h)
theorem TK.new {H : Hp} {p : Addr} {o : HO} (h : H p = none) : TK H (upd H p o) := fun b xs q => by rw [upd_ne (ne_of_none q h)]; exact q
theorem TK.lst {H : Hp} {p : Addr} {o : HO} {ys : List V} (h : H p = some (.lst ys)) : TK H (upd H p o) := fun b xs q => by
  rw [upd_ne (ne_of q h (by intro z; cases z))]; exact q
theorem Keep.tk {H H' : Hp} (k : Keep [] H H') : TK H H' := fun b xs q => k b _ q (by simp)
theorem Keep.tk1 {H H' : Hp} {p : Addr} {ys : List V} (k : Keep [p] H H') (h : H p = some (.lst ys)) : TK H H' := fun b xs q => k b _ q (by
  have := ne_of q h (by intro z; cases z)
  simpa using this)

/-! data of tuples: what never changes -/
mutual
inductive TD (H : Hp) : V → PyData → Prop
  | non : TD H .non .none
  | bl (b : Bool) : TD H (.bl b) (.bool b)
  | int (i : Int) : TD H (.int i) (.int i)
  | str (x : Str) : TD H (.str x) (.str x)
  | tup {a : Addr} {xs : List V} {ds : List PyData} : H a = some (.tup xs) → TDs H xs ds → TD H (.ref a) (.tuple ds)
inductive TDs (H : Hp) : List V → List PyData → Prop
  | nil : TDs H [] []
  | cons {v : V} {vs : List V} {d : PyData} {ds : List PyData} : TD H v d → TDs H vs ds → TDs H (v :: vs) (d :: ds)
end
mutual
theorem TD.tk {H H' : Hp} (k : TK H H') : ∀ {d : PyData} {v : V}, TD H v d → TD H' v d
  | _, _, .non => .non
  | _, _, .bl b => .bl b
  | _, _, .int i => .int i
  | _, _, .str x => .str x
  | _, _, .tup h t => .tup (k _ _ h) (TDs.tk k t)
theorem TDs.tk {H H' : Hp} (k : TK H H') : ∀ {ds : List PyData} {vs : List V}, TDs H vs ds → TDs H' vs ds
  | _, _, .nil => .nil
  | _, _, .cons h t => .cons (TD.tk k h) (TDs.tk k t)
end
mutual
theorem TD.dp {K : PySem.W.Frag} {H : Hp} : ∀ {d : PyData} {v : V}, TD H v d → Dp K H v d
  | _, _, .non => .non
  | _, _, .bl b => .bl b
  | _, _, .int i => .int i
  | _, _, .str x => .str x
  | _, _, .tup h t => .tup (SqT.of h) (TDs.dp t)
theorem TDs.dp {K : PySem.W.Frag} {H : Hp} : ∀ {ds : List PyData} {vs : List V}, TDs H vs ds → DpAll K H vs ds
  | _, _, .nil => .nil
  | _, _, .cons h t => .cons (TD.dp h) (TDs.dp t)
end
theorem TDs.length {H : Hp} : ∀ {vs : List V} {ds : List PyData}, TDs H vs ds → vs.length = ds.length
  | _, _, .nil => rfl
  | _, _, .cons _ t => by rw [List.length_cons, List.length_cons, t.length]
theorem TDs.get {H : Hp} : ∀ {vs : List V} {ds : List PyData}, TDs H vs ds → ∀ {i : Nat} {d : PyData}, ds[i]? = some d → ∃ v, vs[i]? = some v ∧ TD H v d
  | _, _, .nil, i, d, e => by simp at e
  | _, _, .cons h t, 0, d, e => by simp at e; subst e; exact ⟨_, rfl, h⟩
  | _, _, .cons h t, i + 1, d, e => by
    obtain ⟨v, h1, h2⟩ := t.get (i := i) (by simpa using e)
    exact ⟨v, by simpa using h1, h2⟩
theorem TDs.append {H : Hp} : ∀ {vs ws : List V} {ds es : List PyData}, TDs H vs ds → TDs H ws es → TDs H (vs ++ ws) (ds ++ es)
  | _, _, _, _, .nil, s => s
  | _, _, _, _, .cons h t, s => .cons h (t.append s)
theorem TDs.take {H : Hp} : ∀ {vs : List V} {ds : List PyData} (n : Nat), TDs H vs ds → TDs H (vs.take n) (ds.take n)
  | _, _, 0, _ => .nil
  | _, _, _ + 1, .nil => .nil
  | _, _, n + 1, .cons h t => .cons h (t.take n)
theorem TDs.reverse {H : Hp} : ∀ {vs : List V} {ds : List PyData}, TDs H vs ds → TDs H vs.reverse ds.reverse
  | _, _, .nil => .nil
  | _, _, .cons h t => by rw [List.reverse_cons, List.reverse_cons]; exact t.reverse.append (.cons h .nil)
theorem TDs.snoc {H : Hp} {vs : List V} {ds : List PyData} {v : V} {d : PyData} (t : TDs H vs ds) (h : TD H v d) : TDs H (vs ++ [v]) (ds ++ [d]) := t.append (.cons h .nil)
theorem TDs.nil_of {H : Hp} {vs : List V} (t : TDs H vs []) : vs = [] := by cases t; rfl
/-! events and views -/
abbrev Ev := Str × List Int
def dEv (e : Ev) : PyData := .tuple (.str e.1 :: e.2.map PyData.int)
def dView (L : List Ev) : PyData := .tuple (L.map dEv)
abbrev Row := List Ev × Int
def dRow (r : Row) : PyData := .tuple [dView r.1, .int r.2]
def dRowO : Option Row → PyData
  | none => .none
  | some r => dRow r
theorem td_ints {H : Hp} : ∀ l : List Int, TDs H (l.map V.int) (l.map PyData.int)
  | [] => .nil
  | a :: r => .cons (.int a) (td_ints r)
def isDid (e : Ev) : Bool := decide (e.1 = "did")
def lastR : List Ev → Option Row
  | [] => none
  | e :: r => if isDid e = true then some (r.reverse, e.2.headD 0) else lastR r
def lastRow (L : List Ev) : Option Row := lastR L.reverse
def rowsR : List Ev → List Row
  | [] => []
  | e :: r => if isDid e = true then rowsR r ++ [(r.reverse, e.2.headD 0)] else rowsR r
theorem rowsR_cons (e : Ev) (r : List Ev) : rowsR (e :: r) = if isDid e = true then rowsR r ++ [(r.reverse, e.2.headD 0)] else rowsR r := rfl
theorem lastR_cons (e : Ev) (r : List Ev) : lastR (e :: r) = if isDid e = true then some (r.reverse, e.2.headD 0) else lastR r := rfl
def allRows (L : List Ev) : List Row := rowsR L.reverse
theorem allRows_snoc (L : List Ev) (e : Ev) : allRows (L ++ [e]) = if isDid e = true then allRows L ++ [(L, e.2.headD 0)] else allRows L := by
  unfold allRows
  rw [List.reverse_append]
  show rowsR (e :: L.reverse) = _
  rw [rowsR, List.reverse_reverse]
theorem lastR_rows : ∀ (R : List Ev), rowsR R = (match lastR R with | none => [] | some (V, k) => rowsR V.reverse ++ [(V, k)])
  | [] => rfl
  | e :: r => by
    rw [rowsR_cons, lastR_cons]
    by_cases h : isDid e = true
    · rw [if_pos h, if_pos h]; simp only [List.reverse_reverse]
    · rw [if_neg h, if_neg h]; exact lastR_rows r
theorem lastRow_rows (L : List Ev) : allRows L = (match lastRow L with | none => [] | some (V, k) => allRows V ++ [(V, k)]) := lastR_rows L.reverse
theorem lastR_len : ∀ (R : List Ev) {V : List Ev} {k : Int}, lastR R = some (V, k) → V.length < R.length
  | [], V, k, h => by cases h
  | e :: r, V, k, h => by
    rw [lastR_cons] at h
    by_cases g : isDid e = true
    · rw [if_pos g] at h
      cases h
      simp
    · rw [if_neg g] at h
      have := lastR_len r h
      simp; omega
theorem lastRow_len {L V : List Ev} {k : Int} (h : lastRow L = some (V, k)) : V.length < L.length := by
  have := lastR_len _ h
  simpa using this
theorem lastRow_last (L : List Ev) : lastRow L = (allRows L).getLast? := by
  rw [lastRow_rows]
  cases h : lastRow L with
  | none => rfl
  | some x => simp
theorem rowsR_take : ∀ (R : List Ev) {j : Nat} {V : List Ev} {k : Int}, (rowsR R)[j]? = some (V, k) → rowsR V.reverse = (rowsR R).take j
  | [], j, V, k, h => by simp [rowsR] at h
  | e :: r, j, V, k, h => by
    rw [rowsR_cons] at h ⊢
    by_cases g : isDid e = true
    · rw [if_pos g] at h ⊢
      by_cases hj : j < (rowsR r).length
      · rw [List.getElem?_append_left hj] at h
        rw [List.take_append_of_le_length (Nat.le_of_lt hj)]
        exact rowsR_take r h
      · have hj' : j = (rowsR r).length := by
          have := (List.getElem?_eq_some_iff.mp h).1
          rw [List.length_append] at this
          simp at this; omega
        subst hj'
        rw [List.getElem?_append_right (Nat.le_refl _), Nat.sub_self] at h
        have e1 : r.reverse = V := congrArg Prod.fst (Option.some.inj h)
        rw [← e1, List.reverse_reverse, List.take_left]
    · rw [if_neg g] at h ⊢
      exact rowsR_take r h
theorem allRows_take {L : List Ev} {j : Nat} {V : List Ev} {k : Int} (h : (allRows L)[j]? = some (V, k)) : allRows V = (allRows L).take j := rowsR_take _ h
theorem rowsR_mem : ∀ (R : List Ev) {V : List Ev} {k : Int}, (V, k) ∈ rowsR R → ∃ M, R.reverse = V ++ M
  | [], V, k, h => by cases h
  | e :: r, V, k, h => by
    rw [rowsR_cons] at h
    rw [List.reverse_cons]
    by_cases g : isDid e = true
    · rw [if_pos g] at h
      rcases List.mem_append.mp h with h | h
      · obtain ⟨M, e1⟩ := rowsR_mem r h
        exact ⟨M ++ [e], by rw [e1, List.append_assoc]⟩
      · have := List.mem_singleton.mp h
        cases this
        exact ⟨[e], rfl⟩
    · rw [if_neg g] at h
      obtain ⟨M, e1⟩ := rowsR_mem r h
      exact ⟨M ++ [e], by rw [e1, List.append_assoc]⟩
theorem allRows_mem {L V : List Ev} {k : Int} (h : (V, k) ∈ allRows L) : ∃ M, L = V ++ M := by
  obtain ⟨M, e⟩ := rowsR_mem _ h
  exact ⟨M, by rw [← e, List.reverse_reverse]⟩
theorem rowsR_len : ∀ R : List Ev, (rowsR R).length ≤ R.length
  | [] => Nat.le_refl _
  | e :: r => by
    have h := rowsR_len r
    rw [rowsR_cons]
    split
    · rw [List.length_append]; simp; omega
    · simp; omega
theorem allRows_len (L : List Ev) : (allRows L).length ≤ L.length := by
  have h := rowsR_len L.reverse
  rw [List.length_reverse] at h
  exact h
/-- every move made tells it -/
def Good (L : List Ev) : Prop := ∀ e ∈ L, isDid e = true → e.2 ≠ []
theorem Good.pre {L V M : List Ev} (g : Good L) (h : L = V ++ M) : Good V := fun e he => g e (by rw [h]; exact List.mem_append_left _ he)
theorem lastRow_pre {L V : List Ev} {k : Int} (h : lastRow L = some (V, k)) : ∃ M, L = V ++ M := by
  refine allRows_mem (k := k) ?_
  rw [lastRow_rows, h]
  simp
def sp_last_row : Sp := fun vs H Q _ => ∃ (v : V) (L : List Ev), vs = [v] ∧ TD H v (dView L) ∧ L.length ≤ 100000 ∧ Good L ∧ ∀ r H', Keep [] H H' → TD H' r (dRowO (lastRow L)) → Q r H'
theorem td_view {H : Hp} {v : V} {ds : List PyData} (h : TD H v (.tuple ds)) : ∃ a xs, v = .ref a ∧ H a = some (.tup xs) ∧ TDs H xs ds := by
  cases h with
  | tup h t => exact ⟨_, _, rfl, h, t⟩

/-! == and != by a def of the text's own, whatever it answers -/
structure Own (P : Program) (w : World) (K : PySem.W.Frag) (mg : Str → Option Value) (base : Heap) (k : Nat) (C : Addr) (nm : Str) (sp : Sp) : Prop where
  ex : ∃ (f : Addr) (fd : FuncData) (ps : List Str), PySem.W.findIn K (.ref C) nm = some (some (.ref f)) ∧ PySem.W.isFn K (.ref f) = true ∧ FnOk P w K mg base C8.CX0 k f fd ps sp ∧ Binds K fd ps []
def qB (Q : VK) : VK := fun v H => match v with
  | .bl r => Q (.bl r) H
  | _ => False
def qN (Q : VK) : VK := fun v H => match v with
  | .bl r => Q (.bl (!r)) H
  | _ => False
/-- two instances of the class at C: what the own def answers -/
def rOwn (C : Addr) (sp : Sp) : R2 := fun x y H Q => ∃ a b dx dy fs gs, x = .ref a ∧ y = .ref b ∧ H a = some (.ins C dx fs) ∧ H b = some (.ins C dy gs) ∧ sp [.ref a, .ref b] H (qB Q) C8.E0
def rOwnN (C : Addr) (sp : Sp) : R2 := fun x y H Q => ∃ a b dx dy fs gs, x = .ref a ∧ y = .ref b ∧ H a = some (.ins C dx fs) ∧ H b = some (.ins C dy gs) ∧ sp [.ref a, .ref b] H (qN Q) C8.E0
theorem ne_bind (self : Value) : bindSpecial (.builtin "object.__ne__") self = pure (.builtin "object.__ne__", [self]) :=
  (Slot.of (T := "object") (name := "__ne__") (owner := "object") (n := "__ne__") (by rw [typeLookup_type, builtinLookup_eq_fast]; kernel_rfl) (by decide +kernel) (by decide +kernel) (by decide +kernel)
    (.inl (by decide +kernel)) (by rw [isSubtype_type]; kernel_rfl)).bind self
theorem ne_plain : plainId "object.__ne__" = true := by decide +kernel
section
variable {X : Cx} {k j : Nat} {C : Addr} {sp : Sp}
theorem own_call {A : Around} {pins : List (Addr × Obj)} {s : Shared} {σ : St} {H : Hp} {a b f : Addr} {fd : FuncData} {ps : List Str} {Q : VK} (sb : Sub X k A) (I : Inv X pins σ H s)
    (F : FnOk X.prog X.w X.K X.mg X.base C8.CX0 k f fd ps sp) (bi : Binds X.K fd ps []) (hsp : sp [.ref a, .ref b] H Q C8.E0) :
    wpAny (model X.prog X.w) A (call (.ref f) [.ref a, .ref b]) (fun v s' => ∃ z H', Inv X pins σ H' s' ∧ RelV z v ∧ Q z H') X.xe s := by
  have e0 : Env0 X.prog X.w X.K X.mg X.base A X.stack s H := by
    have e := I.env0
    exact ⟨by rw [sb.fr]; exact e.frames, e.mod, e.bs, e.bsz, e.funs, e.frf, e.hok, e.bare⟩
  have hl := F.len _ _ _ _ hsp
  have r2 : Vals [V.ref a, V.ref b] [Value.ref a, Value.ref b] := .cons rfl (.cons rfl .nil)
  refine wpAny_call (codeAny_mono (F.run A X.stack s H ⟨[.ref a, .ref b], []⟩ [.ref a, .ref b] [.ref a, .ref b] _ C8.E0 sb.room e0 (by
    have := bi s [.ref a, .ref b] I.kIn (by simpa using hl)
    simpa using this) r2 hsp) fun r s' hq => ?_)
  cases r with
  | error e => exact C8.pass0 (X := X) (E := C8.E0) pins σ H s e s' I hq
  | ok fl =>
    cases fl with
    | ret w =>
      obtain ⟨z, H', I', rz, ez⟩ := I.after hq
      exact ⟨z, H', I', rz, ez⟩
    | next => exact False.elim hq
    | brk => exact False.elim hq
    | cont => exact False.elim hq
theorem op_own (c : Own X.prog X.w X.K X.mg X.base k C "__eq__" sp) (hr : Room j X.A) (hk : k ≤ j) : OpR X (compareOp .Eq) (rOwn C sp) := by
  intro pins s σ H x y v u Q I rx ry hq
  obtain ⟨f, fd, ps, hs, hf, F, bi⟩ := c.ex
  obtain ⟨a, b, dx, dy, fs, gs, rfl, rfl, ha, hb, hsp⟩ := hq
  cases rx
  cases ry
  obtain ⟨mA, J, _⟩ := ins_get I.hok ha
  obtain ⟨mB, J', _⟩ := ins_get I.hok hb
  obtain ⟨od, J, _⟩ := J.look
  obtain ⟨od', J', _⟩ := J'.look
  obtain ⟨m, hF⟩ := I.fr
  have sb : Sub X k X.A := ⟨hr.mono hk, rfl⟩
  show wpAny (model X.prog X.w) X.A (richCompare .Eq (.ref a) (.ref b)) (EP X pins σ Q) X.xe s
  refine PySem.W.cmp_K (op := .Eq) (tb := .ref C) sb.room.units0 hF I.ok.mod.kin J J'.type (by simp [PySem.W.notFirst]) hs hf ?_
  refine wpAny_mono (own_call sb I F bi hsp) (fun v s' z => ?_) fun _ _ x => x
  obtain ⟨z, H', I', rz, q⟩ := z
  cases z with
  | bl r => cases rz; exact ⟨.bl r, H', I', rfl, q⟩
  | _ => exact False.elim q
theorem op_ownN (c : Own X.prog X.w X.K X.mg X.base k C "__eq__" sp) (hn : PySem.W.findIn X.K (.ref C) "__ne__" = some (some (.builtin "object.__ne__"))) (hm : PySem.W.mroIn X.K C (.type "object") = some true) (hr : Room j X.A) (hk : k + 1 ≤ j) : OpR X (compareOp .NotEq) (rOwnN C sp) := by
  intro pins s σ H x y v u Q I rx ry hq
  obtain ⟨f, fd, ps, hs, hf, G, bi⟩ := c.ex
  obtain ⟨a, b, dx, dy, fs, gs, rfl, rfl, ha, hb, hsp⟩ := hq
  cases rx
  cases ry
  obtain ⟨mA, J, _⟩ := ins_get I.hok ha
  obtain ⟨mB, J', _⟩ := ins_get I.hok hb
  obtain ⟨od, J, _⟩ := J.look
  obtain ⟨od', J', _⟩ := J'.look
  obtain ⟨m, hF⟩ := I.fr
  have sb : Sub X (k + 1) X.A := ⟨hr.mono hk, rfl⟩
  have XK := I.ok.mod.kin.keeps hF.keep
  show wpAny (model X.prog X.w) X.A (richCompare .NotEq (.ref a) (.ref b)) (EP X pins σ Q) X.xe s
  unfold richCompare
  simp only [oneThing_ref]
  refine wpAny_holding (wpAny_bind (wpAny_cRoomFor sb.room.units0 ?_))
  rw [cmpInfo_NotEq]
  dsimp only
  refine wpAny_bind (J.type.here (wpAny_bind (J'.type.here ?_)))
  rw [show (Value.ref C != Value.ref C) = false from by simp]
  simp only [Bool.false_eq_true, if_false]
  refine wpAny_bind (wpAny_pure ?_)
  simp only [Bool.false_eq_true, if_false]
  have fin : ∀ (v : Value) (s' : Shared), (∃ z H', Inv X pins σ H' s' ∧ RelV z v ∧ qN Q z H') → ∃ r : Bool, v = .bool r ∧ EP X pins σ Q (.bool (!r)) s' := by
    rintro v s' ⟨z, H', I', rz, q⟩
    cases z with
    | bl r => cases rz; exact ⟨r, rfl, .bl (!r), H', I', rfl, q⟩
    | _ => exact False.elim q
  have inner : wpAny (model X.prog X.w) X.A (call (.builtin "object.__ne__") [.ref a, .ref b]) (fun v s' => ∃ r : Bool, v = .bool r ∧ EP X pins σ Q v s') X.xe s := by
    refine wpAny_call (codeAny_call_builtin ne_plain PySem.F.cmpEntry_ne (PySem.W.check_slot PySem.F.cmpKind_ne PySem.F.cmpSplit_ne (J.type.andThen (PySem.W.looks_mroIn XK hm)) (PySem.F.cmpArgs_ne _ _) ?_))
    unfold Builtin.«object.__ne__»
    repeat (first
      | with_reducible refine wpAny_cRoomFor sb.in1.room.units0 ?_
      | (refine wpAny_bind (m := callSpecialIfBound? (.ref a) (Str.ofString "__eq__") [.ref b]) (PySem.W.ifBound_K XK J hs hf (wpAny_mono (own_call sb.in1 I G bi hsp) (fun v s' z => ?_) fun _ _ x => x)))
      | wp_step)
    obtain ⟨r, rfl, q⟩ := fin v s' z
    refine wpAny_bind (m := truthy (.bool _)) (wpAny_truthy_bool ?_)
    exact wpAny_pure ⟨!r, rfl, q⟩
  unfold tryCompare
  refine wpAny_bind (wpAny_bind ?_)
  simp only [callSpecialIfBound?, bindSpecialIfBound?]
  refine wpAny_holding (wpAny_bind (wpAny_bind (wpAny_bind (J.type.here ((PySem.W.looks_findIn XK hn).here ?_)))))
  refine wpAny_bind (wpAny_askSetting (wpAny_ite ?_))
  split
  · refine wpAny_bind ?_
    rw [ne_bind]
    refine wpAny_pure (wpAny_pure ?_)
    refine wpAny_bind (wpAny_mono inner (fun v s' z => ?_) fun _ _ x => x)
    obtain ⟨r, rfl, q⟩ := z
    exact wpAny_pure (wpAny_pure (wpAny_pure q))
  · refine wpAny_tryCatch (wpAny_bind ?_)
    rw [ne_bind]
    refine wpAny_pure (wpAny_pure ?_)
    refine wpAny_bind (wpAny_mono inner (fun v s' z => ?_) fun _ _ x => x)
    obtain ⟨r, rfl, q⟩ := z
    exact wpAny_pure (wpAny_pure (wpAny_pure q))
end

/-! in a comprehension: unpack a tuple (the written part named) -/
theorem pg_tupK {X : Cx} {K : PySem.W.Frag} {es : List Expr} {k : Nat} {t : TGs} {n : Nat} {pos : Pos} (h : PGs X es t) (hc : X.calm = true := by rfl) (hK : X.K = K := by rfl)
    (hn : (assignEach es X.env).length = n := by rfl) (hst : (assignEach es X.env).findIdx? (·.1) = none := by rfl) : PG X (.Tuple es k pos) (gTup K n t) := hK ▸ pg_tup hc h hn hst
theorem op_in_seqK {X : Cx} {K : PySem.W.Frag} (hK : X.K = K := by rfl) : OpR X (compareOp .In) (rIn K false) := hK ▸ op_in_seq
theorem op_notIn_seqK {X : Cx} {K : PySem.W.Frag} (hK : X.K = K := by rfl) : OpR X (compareOp .NotIn) (rIn K true) := hK ▸ op_notIn_seq

theorem calUp {P : Program} {w : World} {K : PySem.W.Frag} {mg : Str → Option Value} {base : Heap} {j k : Nat} {x : Str} {sp : Sp} {dvs : List V} (c : C8.Cal P w K mg base j x sp dvs) (h : j ≤ k) : C8.Cal P w K mg base k x sp dvs := by
  obtain ⟨f, fd, ps, ds, F, hm, kp, b, d⟩ := c.ex
  exact ⟨f, fd, ps, ds, F.mono h, hm, kp, b, d⟩

/-! addresses that all stand and are unlike one another -/
structure Liv (H : Hp) (L : List Addr) : Prop where
  nd : L.Nodup
  on : ∀ a ∈ L, ∃ o, H a = some o
theorem Liv.nil {H : Hp} : Liv H [] := ⟨List.nodup_nil, fun _ h => by cases h⟩
theorem Liv.cons {H : Hp} {L : List Addr} {a : Addr} {o : HO} (h : Liv H L) (n : H a = none) : Liv (upd H a o) (a :: L) := by
  have hne : ∀ b ∈ L, b ≠ a := fun b hb => by obtain ⟨u, hu⟩ := h.on b hb; exact ne_of_none hu n
  refine ⟨List.nodup_cons.mpr ⟨fun z => hne a z rfl, h.nd⟩, fun b hb => ?_⟩
  rcases List.mem_cons.mp hb with rfl | hb
  · exact ⟨_, upd_same⟩
  · obtain ⟨u, hu⟩ := h.on b hb
    exact ⟨u, by rw [upd_ne (hne b hb)]; exact hu⟩
/-- one that stands, new since a heap in which the others stand -/
theorem Liv.cons' {H H' : Hp} {L : List Addr} {a : Addr} {o : HO} (h : Liv H L) (n : H a = none) (h' : Liv H' L) (ha : H' a = some o) : Liv H' (a :: L) :=
  ⟨List.nodup_cons.mpr ⟨fun z => (by obtain ⟨u, hu⟩ := h.on a z; rw [n] at hu; cases hu), h.nd⟩, fun b hb => by
    rcases List.mem_cons.mp hb with rfl | hb
    · exact ⟨_, ha⟩
    · exact h'.on b hb⟩
theorem Liv.keep {H H' : Hp} {L W : List Addr} (h : Liv H L) (k : Keep W H H') (w : ∀ a ∈ W, ∃ o, H' a = some o) : Liv H' L :=
  ⟨h.nd, fun a ha => by
    by_cases z : a ∈ W
    · exact w a z
    · obtain ⟨o, ho⟩ := h.on a ha
      exact ⟨o, k _ _ ho z⟩⟩
theorem Liv.keep0 {H H' : Hp} {L : List Addr} (h : Liv H L) (k : Keep [] H H') : Liv H' L := h.keep k fun _ z => by cases z
theorem Liv.keep1 {H H' : Hp} {L : List Addr} {p : Addr} {o : HO} (h : Liv H L) (k : Keep [p] H H') (hp : H' p = some o) : Liv H' L := h.keep k fun a z => by
  rw [List.mem_singleton] at z; exact ⟨o, by rw [z]; exact hp⟩
theorem nodup_ne {L : List Addr} (h : L.Nodup) {i j : Nat} {a b : Addr} (ha : L[i]? = some a) (hb : L[j]? = some b) (hij : i ≠ j) : a ≠ b := by
  obtain ⟨h1, e1⟩ := List.getElem?_eq_some_iff.mp ha
  obtain ⟨h2, e2⟩ := List.getElem?_eq_some_iff.mp hb
  have hp := List.pairwise_iff_getElem.mp h
  rcases Nat.lt_or_gt_of_ne hij with z | z
  · have := hp i j h1 h2 z
    rwa [e1, e2] at this
  · have := hp j i h2 h1 z
    rw [e1, e2] at this
    exact fun w => this w.symm
theorem Liv.ne {H : Hp} {L : List Addr} (h : Liv H L) (i j : Nat) {a b : Addr} (ha : L[i]? = some a) (hb : L[j]? = some b) (hij : i ≠ j := by decide) : a ≠ b := nodup_ne h.nd ha hb hij
theorem Liv.notNew {H : Hp} {L : List Addr} (h : Liv H L) {a : Addr} (n : H a = none) : a ∉ L := fun z => by
  obtain ⟨u, hu⟩ := h.on a z; rw [n] at hu; cases hu
theorem Liv.cons2 {H H' : Hp} {L : List Addr} {a b : Addr} {o u : HO} (h : Liv H L) (na : H a = none) (nb : H b = none) (ne : a ≠ b) (h' : Liv H' L) (ha : H' a = some o) (hb : H' b = some u) : Liv H' (b :: a :: L) := by
  have h1 := h.cons' na h' ha
  refine ⟨List.nodup_cons.mpr ⟨fun z => ?_, h1.nd⟩, fun c hc => ?_⟩
  · rcases List.mem_cons.mp z with z | z
    · exact ne z.symm
    · exact h.notNew nb z
  · rcases List.mem_cons.mp hc with rfl | hc
    · exact ⟨_, hb⟩
    · exact h1.on c hc
/-- a new instance and its dict -/
theorem Liv.made {H : Hp} {L : List Addr} {x d : Addr} {o : HO} (h : Liv H L) (nx : H x = none) (nd : H d = none) (ne : d ≠ x) : Liv (upd (upd H d (.own x)) x o) (x :: L) :=
  (h.keep0 (Keep.new nd)).cons (by rw [upd_ne ne.symm]; exact nx)
theorem made_at {H : Hp} {x d b : Addr} {o u : HO} (hx : H x = none) (hd : H d = none) (h : H b = some u) : upd (upd H d (.own x)) x o b = some u := by
  rw [upd_ne (ne_of_none h hx), upd_ne (ne_of_none h hd)]; exact h
theorem Keep.made {H : Hp} {x d : Addr} {o : HO} (hx : H x = none) (hd : H d = none) : Keep [] H (upd (upd H d (.own x)) x o) := fun _ _ h _ => made_at hx hd h
theorem Keep.tkL {H H' : Hp} {W : List Addr} (k : Keep W H H') (h : ∀ a ∈ W, ∃ ys, H a = some (.lst ys)) : TK H H' := fun b xs q => k b _ q fun z => by
  obtain ⟨ys, hy⟩ := h b z
  rw [q] at hy; cases hy

/-! what a law holds between its draws: the pool, lists that stand, and what stands with the tuples -/
structure LS (H : Hp) (p q : Addr) (is : List Int) (ls : List (Addr × List V)) (ex : Hp → Prop) : Prop where
  P : Pool H p q is
  L : ∀ z ∈ ls, H z.1 = some (.lst z.2) ∧ z.1 ≠ p
  X : ex H
  M : ∀ H H', TK H H' → ex H → ex H'
section
variable {H H' : Hp} {p q a : Addr} {is : List Int} {ls ls' : List (Addr × List V)} {ex ex' : Hp → Prop} {o : HO}
theorem Pool.tk' (h : Pool H p q is) (k : Keep [p] H H') : TK H H' := by
  obtain ⟨i1, i2, i3, i4, i5, g1, _⟩ := h
  exact k.tk1 g1
theorem LS.draw (h : LS H p q is ls ex) (P' : Pool H' p q is) (k : Keep [p] H H') : LS H' p q is ls ex :=
  ⟨P', fun z hz => ⟨k _ _ (h.L z hz).1 (by simpa using (h.L z hz).2), (h.L z hz).2⟩, h.M _ _ (h.P.tk' k) h.X, h.M⟩
theorem LS.keep0 (h : LS H p q is ls ex) (k : Keep [] H H') : LS H' p q is ls ex :=
  ⟨h.P.keep0 k, fun z hz => ⟨k _ _ (h.L z hz).1 (by simp), (h.L z hz).2⟩, h.M _ _ k.tk h.X, h.M⟩
theorem LS.new (h : LS H p q is ls ex) (n : H a = none) : LS (upd H a o) p q is ls ex := h.keep0 (Keep.new n)
theorem LS.add (h : LS H p q is ls ex) {xs : List V} (ha : H a = some (.lst xs)) (n : a ≠ p) : LS H p q is ((a, xs) :: ls) ex :=
  ⟨h.P, fun z hz => by
    rcases List.mem_cons.mp hz with rfl | hz
    · exact ⟨ha, n⟩
    · exact h.L z hz, h.X, h.M⟩
/-- a new list -/
theorem LS.push (h : LS H p q is ls ex) {xs : List V} (n : H a = none) : LS (upd H a (.lst xs)) p q is ((a, xs) :: ls) ex := (h.new n).add upd_same (h.P.nep n)
theorem LS.sub (h : LS H p q is ls ex) (hs : ∀ z ∈ ls', z ∈ ls) : LS H p q is ls' ex := ⟨h.P, fun z hz => h.L z (hs z hz), h.X, h.M⟩
theorem LS.setEx (h : LS H p q is ls ex) (f : ex' H) (g : ∀ H H', TK H H' → ex' H → ex' H') : LS H p q is ls ex' := ⟨h.P, h.L, f, g⟩
theorem LS.and (h : LS H p q is ls ex) (f : ex' H) (g : ∀ H H', TK H H' → ex' H → ex' H') : LS H p q is ls (fun H => ex H ∧ ex' H) := ⟨h.P, h.L, ⟨h.X, f⟩, fun _ _ k z => ⟨h.M _ _ k z.1, g _ _ k z.2⟩⟩
theorem LS.nep (h : LS H p q is ls ex) (n : H a = none) : a ≠ p := h.P.nep n
/-- a new list that a callee made behind a draw -/
theorem LS.got (h : LS H p q is ls ex) (P' : Pool H' p q is) (k : Keep [p] H H') {xs : List V} (ha : H' a = some (.lst xs)) (n : H a = none) : LS H' p q is ((a, xs) :: ls) ex := (h.draw P' k).add ha (h.P.nep n)
/-- a store to a list that is let go -/
theorem LS.store (h : LS H p q is ls ex) (ha : a ≠ p) (hq : a ≠ q) (hs : ∀ z ∈ ls', z ∈ ls ∧ z.1 ≠ a) {xs : List V} (hx : H a = some (.lst xs)) : LS (upd H a o) p q is ls' ex :=
  ⟨h.P.own ha hq, fun z hz => ⟨by rw [upd_ne (hs z hz).2]; exact (h.L z (hs z hz).1).1, (h.L z (hs z hz).1).2⟩, h.M _ _ (TK.lst hx) h.X, h.M⟩
end
theorem LS.notNew {H : Hp} {p q a : Addr} {is : List Int} {ls : List (Addr × List V)} {ex : Hp → Prop} (h : LS H p q is ls ex) (n : H a = none) : ∀ z ∈ ls, z ∈ ls ∧ z.1 ≠ a := fun z hz => ⟨hz, ne_of_none (h.L z hz).1 n⟩
theorem cutToS {xs : List Str} {m : Int} (h0 : 0 ≤ m) (h : m.toNat ≤ xs.length) : cutV (xs.map V.str) none (some m) = (xs.take m.toNat).map V.str := by
  obtain ⟨k, rfl⟩ := Int.eq_ofNat_of_zero_le h0
  have h : k ≤ xs.length := h
  unfold cutV
  rw [HT.sIx_nat, HT.sIx_none, List.length_map, Nat.min_eq_left h, List.map_take]
  show ((xs.map V.str).drop 0).take (k - 0) = _
  rw [List.drop_zero, Nat.sub_zero]; rfl
theorem ixN_n {n j : Nat} (hj : j < n) : ixN n (j : Int) = some j := by
  unfold ixN
  rw [if_pos (by omega), if_pos (by omega)]
  rfl
theorem LS.keepW {H H' : Hp} {p q : Addr} {is : List Int} {ls ls' : List (Addr × List V)} {ex : Hp → Prop} {W : List Addr} (h : LS H p q is ls ex) (k : Keep W H H') (hp : p ∉ W) (hq : q ∉ W) (ht : TK H H') (hs : ∀ z ∈ ls', z ∈ ls ∧ z.1 ∉ W) : LS H' p q is ls' ex :=
  ⟨by
    obtain ⟨i1, i2, i3, i4, i5, h1, h2, h3, h4⟩ := h.P
    exact ⟨i1, i2, i3, i4, i5, k _ _ h1 hp, k _ _ h2 hq, h3, h4⟩, fun z hz => ⟨k _ _ (h.L z (hs z hz).1).1 (hs z hz).2, (h.L z (hs z hz).1).2⟩, h.M _ _ ht h.X, h.M⟩
theorem TK.keep {H H' : Hp} {W : List Addr} (k : Keep W H H') (h : ∀ b ∈ W, ∃ xs, H b = some (.lst xs)) : TK H H' := fun b xs hb => k b _ hb fun z => by
  obtain ⟨ys, e⟩ := h b z
  rw [e] at hb; cases hb

theorem take_snoc {α : Type} {l : List α} {i : Nat} {s : α} (h : l[i]? = some s) : l.take (i + 1) = l.take i ++ [s] := by
  rw [List.take_add_one, h]; rfl
abbrev Rw := List Int × List (Int × Int) × List (List (Str × Int))
abbrev Cl := Int × Int × Int
def nmL : List Str := ["push", "load", "store", "sign", "jump", "skip", "lot", "end", "ask", "show", "pay", "take", "view", "long", "unit", "back"]
def nmI (n : Str) : Nat := nmL.findIdx fun z => decide (z = n)
def dMv (p : Int × Int) : PyData := .tuple [.int p.1, .int p.2]
def dIn (p : Str × Int) : PyData := .tuple [.str p.1, .int p.2]
def dCd (c : List (Str × Int)) : PyData := .tuple (c.map dIn)
def dRw (r : Rw) : PyData := .tuple [.tuple (r.1.map PyData.int), .tuple (r.2.1.map dMv), .tuple (r.2.2.map dCd)]
def inC (p : Str × Int) : List Cl := [(((nmI p.1 : Nat) : Int), 0, 15), (p.2, 0, 65535)]
def mvC (p : Int × Int) : List Cl := [(p.1, 1, 2), (p.2, 1, 8)]
def szC (s : Int) : List Cl := [(s, 1, 65535)]
def cdC (c : List (Str × Int)) : List Cl := [(((c.length : Nat) : Int), 0, 65535)] ++ c.flatMap inC
def cells (r : Rw) : List Cl := [(((r.1.length : Nat) : Int), 0, 12)] ++ (r.1.flatMap szC ++ ([(((r.2.1.length : Nat) : Int), 0, 24)] ++ (r.2.1.flatMap mvC ++ ([(((r.2.2.length : Nat) : Int), 0, 8)] ++ r.2.2.flatMap cdC))))
def nums (r : Rw) : List Int := (cells r).map Prod.fst
structure OkIn (p : Str × Int) : Prop where
  n : p.1 ∈ nmL
  a0 : 0 ≤ p.2
  a1 : p.2 ≤ 65535
structure OkRw (r : Rw) : Prop where
  s : r.1.length ≤ 12 ∧ ∀ s ∈ r.1, 1 ≤ s ∧ s ≤ 65535
  m : r.2.1.length ≤ 24 ∧ ∀ p ∈ r.2.1, (1 ≤ p.1 ∧ p.1 ≤ 2) ∧ (1 ≤ p.2 ∧ p.2 ≤ 8)
  r : r.2.2.length ≤ 8 ∧ ∀ c ∈ r.2.2, c.length ≤ 300 ∧ ∀ p ∈ c, OkIn p
/-! the reader -/
abbrev Ps (α : Type) := List Int → Nat → Except Nat (α × Nat)
def andThen {α β : Type} (x : Except Nat (α × Nat)) (f : α → Nat → Except Nat (β × Nat)) : Except Nat (β × Nat) := match x with
  | .error e => .error e
  | .ok (v, a) => f v a
def tk1 (lo hi : Int) : Ps Int := fun ns o => match ns[o]? with
  | none => .error o
  | some v => if lo ≤ v ∧ v ≤ hi then .ok (v, o + 1) else .error o
def rep {α : Type} (p : Ps α) : Nat → Ps (List α)
  | 0 => fun _ o => .ok ([], o)
  | n + 1 => fun ns o => andThen (rep p n ns o) fun l a => andThen (p ns a) fun v b => .ok (l ++ [v], b)
def pIn : Ps (Str × Int) := fun ns o => andThen (tk1 0 15 ns o) fun i a => andThen (tk1 0 65535 ns a) fun v b => .ok ((nmL.getD i.toNat "", v), b)
def pMv : Ps (Int × Int) := fun ns o => andThen (tk1 1 2 ns o) fun i a => andThen (tk1 1 8 ns a) fun v b => .ok ((i, v), b)
def pCd : Ps (List (Str × Int)) := fun ns o => andThen (tk1 0 65535 ns o) fun n a => rep pIn n.toNat ns a
def pSz : Ps (List Int) := fun ns o => andThen (tk1 0 12 ns o) fun n a => rep (tk1 1 65535) n.toNat ns a
def pMs : Ps (List (Int × Int)) := fun ns o => andThen (tk1 0 24 ns o) fun n a => rep pMv n.toNat ns a
def pRs : Ps (List (List (Str × Int))) := fun ns o => andThen (tk1 0 8 ns o) fun n a => rep pCd n.toNat ns a
def pCore : Ps Rw := fun ns o => andThen (pSz ns o) fun s a => andThen (pMs ns a) fun m b => andThen (pRs ns b) fun r c => .ok ((s, m, r), c)
def pAll (ns : List Int) : Except Nat Rw := match pCore ns 0 with
  | .error e => .error e
  | .ok (r, e) => if e < ns.length then .error e else .ok r
structure Gd {α : Type} (p : Ps α) (o : Nat) (R : List Cl) (v : α) : Prop where
  ok : ∀ ns, (∀ j c, R[j]? = some c → ns[o + j]? = some c.1) → p ns o = .ok (v, o + R.length)
  bad : ∀ ns q, q < R.length → (∀ j c, j < q → R[j]? = some c → ns[o + j]? = some c.1) → (∀ x c, ns[o + q]? = some x → R[q]? = some c → ¬ (c.2.1 ≤ x ∧ x ≤ c.2.2)) → p ns o = .error (o + q)
theorem Gd.tk {o : Nat} {v lo hi : Int} (h : lo ≤ v ∧ v ≤ hi) : Gd (tk1 lo hi) o [(v, lo, hi)] v := by
  refine ⟨fun ns g => ?_, fun ns q hq g b => ?_⟩
  · have := g 0 _ rfl
    unfold tk1
    rw [show ns[o]? = some v from this]
    simp only [if_pos h]; rfl
  · have e : q = 0 := by simpa using hq
    subst e
    unfold tk1
    cases z : ns[o]? with
    | none => rfl
    | some x =>
      have := b x _ (by simpa using z) rfl
      simp only [if_neg this]; rfl
theorem Gd.then {α β : Type} {p : Ps α} {f : α → Ps β} {o : Nat} {R R' : List Cl} {v : α} {u : β} (h : Gd p o R v) (k : Gd (f v) (o + R.length) R' u) : Gd (fun ns o => andThen (p ns o) fun x a => f x ns a) o (R ++ R') u := by
  have sh : ∀ {ns : List Int} {q : Nat}, (∀ j c, j < q → (R ++ R')[j]? = some c → ns[o + j]? = some c.1) → (∀ j c, R.length + j < q → R'[j]? = some c → ns[o + R.length + j]? = some c.1) := fun {ns q} g j c hj hc => by
    have := g (R.length + j) c hj (by rw [List.getElem?_append_right (by omega), Nat.add_sub_cancel_left]; exact hc)
    rwa [← Nat.add_assoc] at this
  have lt : ∀ {j : Nat} {c : Cl}, R[j]? = some c → (R ++ R')[j]? = some c := fun {j c} hc => by
    rw [List.getElem?_append_left (List.getElem?_eq_some_iff.mp hc).1]; exact hc
  refine ⟨fun ns g => ?_, fun ns q hq g b => ?_⟩
  · show andThen (p ns o) (fun x a => f x ns a) = _
    rw [h.ok ns fun j c hc => g j c (lt hc)]
    show f v ns (o + R.length) = _
    rw [k.ok ns fun j c hc => sh (q := R.length + j + 1) (fun j c _ hc => g j c hc) j c (by omega) hc, List.length_append, Nat.add_assoc]
  · show andThen (p ns o) (fun x a => f x ns a) = _
    by_cases z : q < R.length
    · rw [h.bad ns q z (fun j c hj hc => g j c hj (lt hc)) fun x c hx hc => b x c hx (lt hc)]; rfl
    · obtain ⟨i, rfl⟩ : ∃ i, q = R.length + i := ⟨q - R.length, by omega⟩
      rw [List.length_append] at hq
      rw [h.ok ns fun j c hc => g j c (by have := (List.getElem?_eq_some_iff.mp hc).1; omega) (lt hc)]
      show f v ns (o + R.length) = _
      rw [k.bad ns i (by omega) (fun j c hj hc => sh g j c (by omega) hc) (fun x c hx hc => b x c (by rwa [← Nat.add_assoc]) (by rw [List.getElem?_append_right (by omega), Nat.add_sub_cancel_left]; exact hc)), Nat.add_assoc]
theorem Gd.ret {α : Type} {o : Nat} (v : α) : Gd (fun _ o => .ok (v, o)) o [] v := ⟨fun _ _ => rfl, fun _ q hq => absurd hq (Nat.not_lt_zero _)⟩
theorem Gd.rep {α : Type} {p : Ps α} {Rf : α → List Cl} {l : List α} (h : ∀ v ∈ l, ∀ o, Gd p o (Rf v) v) (o : Nat) : Gd (rep p l.length) o (l.flatMap Rf) l := by
  have : ∀ i, i ≤ l.length → Gd (My.rep p i) o ((l.take i).flatMap Rf) (l.take i) := by
    intro i
    induction i with
    | zero => intro _; rw [List.take_zero]; exact Gd.ret _
    | succ i ih =>
      intro hi
      have e : l[i]? = some l[i] := List.getElem?_eq_getElem (by omega)
      have := (ih (by omega)).then (f := fun l a ns => andThen (p a ns) fun v b => .ok (l ++ [v], b)) ((h l[i] (List.getElem_mem _) _).then (f := fun v _ b => .ok (l.take i ++ [v], b)) (Gd.ret _))
      have t : Gd (My.rep p (i + 1)) o ((l.take i).flatMap Rf ++ Rf l[i]) (l.take i ++ [l[i]]) := by rw [List.append_nil] at this; exact this
      rw [take_snoc e, List.flatMap_append, List.flatMap_cons, List.flatMap_nil, List.append_nil]
      exact t
  have := this l.length (Nat.le_refl _)
  rwa [List.take_length] at this
theorem nm_at : ∀ n ∈ nmL, nmI n < 16 ∧ nmL.getD (nmI n) "" = n := by decide +kernel
theorem gd_in {p : Str × Int} (h : OkIn p) (o : Nat) : Gd pIn o (inC p) p := by
  obtain ⟨a, b⟩ := nm_at _ h.n
  have := (Gd.tk (o := o) (v := ((nmI p.1 : Nat) : Int)) (lo := 0) (hi := 15) ⟨by omega, by omega⟩).then (f := fun i ns a => andThen (tk1 0 65535 ns a) fun v b => .ok ((nmL.getD i.toNat "", v), b)) ((Gd.tk ⟨h.a0, h.a1⟩).then (f := fun v _ b => .ok ((nmL.getD (((nmI p.1 : Nat) : Int)).toNat "", v), b)) (Gd.ret _))
  rw [Int.toNat_natCast, b] at this
  exact this
theorem gd_mv {p : Int × Int} (h : (1 ≤ p.1 ∧ p.1 ≤ 2) ∧ (1 ≤ p.2 ∧ p.2 ≤ 8)) (o : Nat) : Gd pMv o (mvC p) p :=
  (Gd.tk h.1).then (f := fun i ns a => andThen (tk1 1 8 ns a) fun v b => .ok ((i, v), b)) ((Gd.tk h.2).then (f := fun v _ b => .ok ((p.1, v), b)) (Gd.ret _))
theorem gd_many {α : Type} {p : Ps α} {Rf : α → List Cl} {l : List α} {hi : Int} (hl : (l.length : Int) ≤ hi) (h : ∀ v ∈ l, ∀ o, Gd p o (Rf v) v) (o : Nat) : Gd (fun ns o => andThen (tk1 0 hi ns o) fun n a => rep p n.toNat ns a) o ([(((l.length : Nat) : Int), 0, hi)] ++ l.flatMap Rf) l := by
  refine (Gd.tk (lo := 0) ⟨by omega, hl⟩).then (f := fun n => My.rep p n.toNat) ?_
  rw [Int.toNat_natCast]
  exact Gd.rep h _
theorem gd_core {r : Rw} (h : OkRw r) (o : Nat) : Gd pCore o (cells r) r := by
  obtain ⟨s, m, rs⟩ := r
  have g1 : ∀ o, Gd pSz o ([(((s.length : Nat) : Int), 0, 12)] ++ s.flatMap szC) s := gd_many (by have := h.s.1; simp only at this; omega) fun v hv o => Gd.tk (h.s.2 v hv)
  have g2 : ∀ o, Gd pMs o ([(((m.length : Nat) : Int), 0, 24)] ++ m.flatMap mvC) m := gd_many (by have := h.m.1; simp only at this; omega) fun v hv o => gd_mv (h.m.2 v hv) o
  have g3 : ∀ o, Gd pRs o ([(((rs.length : Nat) : Int), 0, 8)] ++ rs.flatMap cdC) rs := gd_many (by have := h.r.1; simp only at this; omega) fun v hv o => gd_many (by have := (h.r.2 v hv).1; omega) (fun p hp o => gd_in ((h.r.2 v hv).2 p hp) o) o
  have := (g1 o).then (f := fun s ns a => andThen (pMs ns a) fun m b => andThen (pRs ns b) fun r c => .ok ((s, m, r), c)) ((g2 _).then (f := fun m ns b => andThen (pRs ns b) fun r c => .ok ((s, m, r), c)) ((g3 _).then (f := fun r _ c => .ok ((s, m, r), c)) (Gd.ret _)))
  unfold cells
  simp only [List.append_assoc, List.append_nil] at this ⊢
  exact this
theorem nums_at {r : Rw} {j : Nat} : (nums r)[j]? = ((cells r)[j]?).map Prod.fst := by unfold nums; rw [List.getElem?_map]
theorem nums_len (r : Rw) : (nums r).length = (cells r).length := by unfold nums; rw [List.length_map]
theorem all_ok {r : Rw} (h : OkRw r) : pAll (nums r) = .ok r := by
  unfold pAll
  rw [(gd_core h 0).ok (nums r) fun j c hc => by rw [Nat.zero_add, nums_at, hc]; rfl]
  simp only [Nat.zero_add, nums_len, Nat.lt_irrefl, if_false]
theorem all_more {r : Rw} (h : OkRw r) (x : Int) (l : List Int) : pAll (nums r ++ x :: l) = .error (nums r).length := by
  unfold pAll
  rw [(gd_core h 0).ok (nums r ++ x :: l) fun j c hc => by rw [Nat.zero_add, List.getElem?_append_left (by rw [nums_len]; exact (List.getElem?_eq_some_iff.mp hc).1), nums_at, hc]; rfl]
  simp only [Nat.zero_add, List.length_append, nums_len, List.length_cons]
  rw [if_pos (by omega)]
theorem all_bad {r : Rw} (h : OkRw r) {p : Nat} {ns : List Int} (hp : p < (nums r).length) (g : ∀ j, j < p → ns[j]? = (nums r)[j]?) (b : ∀ x c, ns[p]? = some x → (cells r)[p]? = some c → ¬ (c.2.1 ≤ x ∧ x ≤ c.2.2)) : pAll ns = .error p := by
  unfold pAll
  rw [nums_len] at hp
  rw [(gd_core h 0).bad ns p hp (fun j c hj hc => by rw [Nat.zero_add, g j hj, nums_at, hc]; rfl) (fun x c hx hc => b x c (by simpa using hx) hc), Nat.zero_add]
theorem rep_err {α : Type} {p : Ps α} {ns : List Int} {o e : Nat} : ∀ {i n : Nat}, i ≤ n → rep p i ns o = .error e → rep p n ns o = .error e := by
  intro i n hn h
  induction n with
  | zero => have : i = 0 := by omega
            subst this; exact h
  | succ n ih =>
    by_cases z : i = n + 1
    · subst z; exact h
    · show andThen (rep p n ns o) _ = _
      rw [ih (by omega)]; rfl
theorem rep_step {α : Type} {p : Ps α} {ns : List Int} {o i : Nat} {l : List α} {a : Nat} (h : rep p i ns o = .ok (l, a)) : rep p (i + 1) ns o = andThen (p ns a) fun v b => .ok (l ++ [v], b) := by
  show andThen (rep p i ns o) _ = _
  rw [h]; rfl
theorem rep_len {α : Type} {p : Ps α} {ns : List Int} {o : Nat} : ∀ {i : Nat} {l : List α} {a : Nat}, rep p i ns o = .ok (l, a) → l.length = i
  | 0, l, a, h => by cases h; rfl
  | i + 1, l, a, h => by
    cases z : rep p i ns o with
    | error e => rw [rep_err (Nat.le_succ i) z] at h; cases h
    | ok q =>
      obtain ⟨l', a'⟩ := q
      rw [rep_step z] at h
      cases y : p ns a' with
      | error e => rw [y] at h; cases h
      | ok q =>
        obtain ⟨v, b⟩ := q
        rw [y] at h
        cases h
        rw [List.length_append, rep_len z]; rfl

theorem free1 {H H' : Hp} {x t : Addr} (k : Keep [x] H H') (h : H' t = none) (hx : H' x ≠ none) : H t = none := by
  cases e : H t with
  | none => rfl
  | some o =>
    by_cases q : t = x
    · subst q; exact absurd h hx
    · have := k _ _ e (by simpa using q)
      rw [h] at this; cases this
theorem Keep.tkI {H H' : Hp} {p C dx : Addr} {fs : List (Str × V)} (k : Keep [p] H H') (h : H p = some (.ins C dx fs)) : TK H H' := fun b xs q => k b _ q (by
  rw [List.mem_singleton]; intro z; rw [z, h] at q; cases q)
structure NumAt (C : Addr) (H : Hp) (x a : Addr) (ns : List Int) (o : Nat) : Prop where
  o : ∃ dx, H x = some (.ins C dx [("numbers", .ref a), ("at", .int ((o : Nat) : Int))])
  l : H a = some (.lst (ns.map V.int))
theorem NumAt.keep {C : Addr} {H H' : Hp} {x a : Addr} {ns : List Int} {o : Nat} (h : NumAt C H x a ns o) (k : Keep [] H H') : NumAt C H' x a ns o := by
  obtain ⟨dx, e⟩ := h.o
  exact ⟨⟨dx, k _ _ e (by simp)⟩, k _ _ h.l (by simp)⟩
theorem NumAt.own {C : Addr} {H : Hp} {x a D : Addr} {ns : List Int} {o : Nat} {u : HO} (h : NumAt C H x a ns o) (n1 : D ≠ x) (n2 : D ≠ a) : NumAt C (upd H D u) x a ns o := by
  obtain ⟨dx, e⟩ := h.o
  exact ⟨⟨dx, by rw [upd_ne n1.symm]; exact e⟩, by rw [upd_ne n2.symm]; exact h.l⟩
theorem NumAt.ne {C : Addr} {H : Hp} {x a : Addr} {ns : List Int} {o : Nat} (h : NumAt C H x a ns o) : x ≠ a := by
  obtain ⟨dx, e⟩ := h.o
  exact ne_of e h.l (by intro z; cases z)
def sp_nums (K : PySem.W.Frag) (C : Addr) : Sp := fun vs H Q _ => ∃ (x dx src : Addr) (ns : List Int), vs = [.ref x, .ref src] ∧ SqL K H src (ns.map V.int) ∧ H x = some (.ins C dx []) ∧ ∀ a H', H a = none → Keep [x] H H' → NumAt C H' x a ns 0 → Q .non H'
def sp_tk (C CB : Addr) : Sp := fun vs H Q E => ∃ (x a : Addr) (ns : List Int) (o : Nat) (lo hi : Int), vs = [.ref x, .int lo, .int hi] ∧ NumAt C H x a ns o ∧ ns.length ≤ 1000000 ∧
  (∀ v b H', tk1 lo hi ns o = .ok (v, b) → NumAt C H' x a ns b → Keep [x] H H' → Q (.int v) H') ∧
  (∀ e d H', tk1 lo hi ns o = .error e → H d = none → H' d = some (.xd [("at", .int ((e : Nat) : Int))]) → Keep [x] H H' → E (.ref CB) (some d) H')
def sp_tc (C CB : Addr) : Sp := fun vs H Q E => ∃ (x a : Addr) (ns : List Int) (o : Nat), vs = [.ref x] ∧ NumAt C H x a ns o ∧ ns.length ≤ 1000000 ∧
  (∀ c b l xs H', pCd ns o = .ok (c, b) → NumAt C H' x a ns b → H l = none → H' l = some (.lst xs) → TDs H' xs (c.map dIn) → Keep [x] H H' → Q (.ref l) H') ∧
  (∀ e d H', pCd ns o = .error e → H d = none → H' d = some (.xd [("at", .int ((e : Nat) : Int))]) → Keep [x] H H' → E (.ref CB) (some d) H')
section
variable {P : Program} {w : World} {K : PySem.W.Frag} {mg : Str → Option Value} {base : Heap} {C_Program : Addr} {C_Numbers : Addr} {C_GameError : Addr} {C_BadText : Addr} {C_TooLarge : Addr} {C_BadMove : Addr} {C_BadCode : Addr} {f_BadCode___init : Addr} {T_NAMES : Addr}
theorem ok_nums {f : Addr} {fd : FuncData} (M : Mk K C_Numbers f) (F : C8.Fun K "__init__" "Numbers.__init__" s_Numbers___init f fd) (b : Binds K fd ["self", "numbers"] []) (T : Txt K mg C_Program C_Numbers C_GameError C_BadText C_TooLarge C_BadMove C_BadCode T_NAMES) : C8.Mak P w K mg base 1 "Numbers" C_Numbers (sp_nums K C_Numbers) [] := by
  refine mak0 M T.m_Numbers F b .nil sc_Numbers___init (fun vs H Q E h => ?_) (fun cdv A outer s H vs Q E hr h => ?_)
  · obtain ⟨x, dx, src, ns, rfl, _⟩ := h
    rfl
  · obtain ⟨x, dx, src, ns, rfl, hS, hx, k⟩ := h
    refine ⟨_, (pss_cons (ps_fld (pv 0) (pe_callTy call_list_of (by rfl) T.n_list bo_list (pa_cons (pv 1) pa_nil)) rfl)
(pss_one (ps_fld (pv 0) pe_int rfl))), ?_⟩
    refine ⟨_, rfl, _, _, rfl, .inl hS, fun a na => ?_⟩
    have ne : x ≠ a := ne_of_none hx na
    refine ⟨_, rfl, x, C_Numbers, dx, [], rfl, by rw [upd_ne ne]; exact hx, T.cl_Numbers, T.a_Numbers_numbers, by show 0 < 1000; decide, ?_⟩
    refine ⟨_, rfl, x, C_Numbers, dx, _, rfl, upd_same, T.cl_Numbers, T.a_Numbers_at, by show 1 < 1000; decide, ?_⟩
    rw [upd_upd]
    refine k a _ na (((Keep.new na).then_at (List.mem_singleton.mpr rfl))) ⟨⟨dx, upd_same⟩, ?_⟩
    rw [upd_ne ne.symm]; exact upd_same
theorem ok_tk {f : Addr} {fd : FuncData} (me : Meth K C_Numbers "take" f) (F : C8.Fun K "take" "Numbers.take" s_Numbers_take f fd) (b : Binds K fd ["self", "least", "most"] []) (T : Txt K mg C_Program C_Numbers C_GameError C_BadText C_TooLarge C_BadMove C_BadCode T_NAMES) (X_BadCode : SupX_BadCode.Txt P K mg "BadCode" C_BadCode f_BadCode___init) : MetX P w K mg base 3 C_Numbers "take" (sp_tk C_Numbers C_BadCode) [] := by
  refine ⟨f, fd, ["self", "least", "most"], [], T.cl_Numbers, me, ?_, b, .nil⟩
  refine fnx F sc_Numbers_take (fun vs H Q E h => ?_) (fun cdv A outer s H vs Q E hr h => ?_)
  · obtain ⟨x, a, ns, o, lo, hi, rfl, _⟩ := h
    rfl
  · obtain ⟨x, a, ns, o, lo, hi, rfl, N, len, k1, k2⟩ := h
    refine ⟨_, (pss_cut (ps_if (PW.pt (pw_or (pt_cmpR op_ge (pe_fld (pv 0) rfl) (pe_callB call_len_seq (by rfl) T.n_len bo_len (pa_cons (pe_fld (pv 0) rfl) pa_nil)) (nomark _)) (pw_or1 (pt_not (pt_chain op_le op_le (pv 1) (pe_ix ix_list (pe_fld (pv 0) rfl) (pe_fld (pv 0) rfl) (fun _ _ => rfl)) (pv 2))))))
  (pss_one (SupX_BadCode.ps_raiseE rfl X_BadCode hr (takes_of rfl rfl rfl rfl) (pa_cons (pe_fld (pv 0) rfl) pa_nil)))
  pss_nil)
(pss_cons (ps_fldaug (pv 0) pe_int in_add)
(pss_one (ps_ret (pe_ix ix_list (pe_fld (pv 0) rfl) (pe_op op_sub (pe_fld (pv 0) rfl) pe_int) (fun _ _ => rfl)))))), ?_⟩
    obtain ⟨dx, ho⟩ := N.o
    have hl := N.l
    refine ⟨fun σ H' => σ = [some (.ref x), some (.int lo), some (.int hi)] ∧ H' = H ∧ ∃ v, ns[o]? = some v ∧ tk1 lo hi ns o = .ok (v, o + 1), ?_, ?_⟩
    · have bad : tk1 lo hi ns o = .error o → ∀ d, H d = none → E (.ref C_BadCode) (some d) (upd H d (.xd [("at", .int ((o : Nat) : Int))])) := fun e d nd => k2 o d _ e nd upd_same (Keep.new nd)
      refine ⟨_, rfl, x, C_Numbers, dx, _, _, rfl, ho, T.cl_Numbers, T.a_Numbers_at, rfl, _, rfl, x, C_Numbers, dx, _, _, rfl, ho, T.cl_Numbers, T.a_Numbers_numbers, rfl, _, _, rfl, .inl (SqL.of hl), _, _, rfl, rfl, _, rfl, iteD (fun h => ?_) (fun h => ?_)⟩
      · rw [List.length_map] at h
        have e : tk1 lo hi ns o = .error o := by unfold tk1; rw [List.getElem?_eq_none (by omega)]
        exact ⟨_, rfl, x, C_Numbers, dx, _, _, rfl, ho, T.cl_Numbers, T.a_Numbers_at, rfl, _, rfl, bad e⟩
      · rw [List.length_map] at h
        have lt : o < ns.length := by omega
        obtain ⟨v, hv⟩ : ∃ v, ns[o]? = some v := ⟨_, List.getElem?_eq_getElem lt⟩
        have hm : (ns.map V.int)[o]? = some (.int v) := by rw [List.getElem?_map, hv]; rfl
        have et : tk1 lo hi ns o = if lo ≤ v ∧ v ≤ hi then .ok (v, o + 1) else .error o := by unfold tk1; rw [hv]
        refine ⟨_, rfl, _, rfl, x, C_Numbers, dx, _, _, rfl, ho, T.cl_Numbers, T.a_Numbers_numbers, rfl, _, rfl, x, C_Numbers, dx, _, _, rfl, ho, T.cl_Numbers, T.a_Numbers_at, rfl, _, _, _, _, rfl, rfl, SqL.of hl, atI_nat hm, _, _, rfl, rfl, _, rfl, iteD (fun h1 => ⟨_, rfl, _, _, rfl, rfl, _, rfl, iteN (fun h2 => ?_) (fun h2 => ?_)⟩) (fun h1 => ⟨_, rfl, iteT ?_⟩)⟩
        · rw [if_neg (by omega)] at et
          exact ⟨_, rfl, x, C_Numbers, dx, _, _, rfl, ho, T.cl_Numbers, T.a_Numbers_at, rfl, _, rfl, bad et⟩
        · rw [if_pos (by omega)] at et
          exact ⟨rfl, rfl, v, hv, et⟩
        · rw [if_neg (by omega)] at et
          exact ⟨_, rfl, x, C_Numbers, dx, _, _, rfl, ho, T.cl_Numbers, T.a_Numbers_at, rfl, _, rfl, bad et⟩
    rintro σ H' ⟨rfl, rfl, v, hv, et⟩
    have hm : (ns.map V.int)[o]? = some (.int v) := by rw [List.getElem?_map, hv]; rfl
    refine ⟨_, rfl, x, C_Numbers, dx, _, _, rfl, ho, T.cl_Numbers, T.a_Numbers_at, rfl, _, _, rfl, rfl, dx, _, ho, by show 2 < 1000; decide, ?_⟩
    have h2 : ∀ {fs}, upd H' x (.ins C_Numbers dx fs) a = some (.lst (ns.map V.int)) := fun {fs} => by rw [upd_ne N.ne.symm]; exact hl
    refine ⟨_, rfl, x, C_Numbers, dx, _, _, rfl, upd_same, T.cl_Numbers, T.a_Numbers_numbers, rfl, _, rfl, x, C_Numbers, dx, _, _, rfl, upd_same, T.cl_Numbers, T.a_Numbers_at, rfl, _, _, rfl, rfl, _, _, _, _, rfl, rfl, SqL.of h2, ?_, k1 v (o + 1) _ et ⟨⟨dx, upd_same⟩, h2⟩ (Keep.at_ (List.mem_singleton.mpr rfl))⟩
    rw [Int.add_sub_cancel]; exact atI_nat hm
theorem tk1_ok {lo hi v : Int} {ns : List Int} {o b : Nat} (h : tk1 lo hi ns o = .ok (v, b)) : lo ≤ v ∧ v ≤ hi := by
  unfold tk1 at h
  split at h
  · cases h
  · split at h
    · rename_i z
      cases h; exact z
    · cases h
theorem nm_get : ∀ i, i < 16 → (nmL.map V.str)[i]? = some (.str (nmL.getD i "")) := by decide +kernel
theorem ok_tc {f : Addr} {fd : FuncData} (me : Meth K C_Numbers "take_code" f) (F : C8.Fun K "take_code" "Numbers.take_code" s_Numbers_take_code f fd) (b : Binds K fd ["self"] []) (T : Txt K mg C_Program C_Numbers C_GameError C_BadText C_TooLarge C_BadMove C_BadCode T_NAMES) (c_Numbers_take : MetX P w K mg base 3 C_Numbers "take" (sp_tk C_Numbers C_BadCode) []) : MetX P w K mg base 4 C_Numbers "take_code" (sp_tc C_Numbers C_BadCode) [] := by
  refine ⟨f, fd, ["self"], [], T.cl_Numbers, me, ?_, b, .nil⟩
  refine fnx F sc_Numbers_take_code (fun vs H Q E h => ?_) (fun cdv A outer s H vs Q E hr h => ?_)
  · obtain ⟨x, a, ns, o, rfl, _⟩ := h
    rfl
  · obtain ⟨x, a, ns, o, rfl, N, len, k1, k2⟩ := h
    refine ⟨_, (pss_cons (ps_set (i := 1) sc_Numbers_take_code.nd rfl (by first | exact Or.inl rfl | exact Or.inr rfl) (pe_lst pa_nil))
(pss_cons (ps_for (passes_of rfl) rfl (pi_range1 (by rfl) T.n_range (pa_cons (pe_mX c_Numbers_take hr (by first | exact Nat.le_refl _ | decide | omega) (passes_call (takes_of rfl rfl rfl rfl) (fun _ _ _ _ h => h)) (pv 0) (pa_cons pe_int (pa_cons (pe_gc rfl T.v_GREATEST) pa_nil))) pa_nil)) (pg_name (i := 2) sc_Numbers_take_code.nd rfl (by first | exact Or.inl rfl | exact Or.inr rfl))
  (pss_cons (ps_set (i := 3) sc_Numbers_take_code.nd rfl (by first | exact Or.inl rfl | exact Or.inr rfl) (pe_ix ix_tup (pe_gc rfl T.v_NAMES) (pe_mX c_Numbers_take hr (by first | exact Nat.le_refl _ | decide | omega) (passes_call (takes_of rfl rfl rfl rfl) (fun _ _ _ _ h => h)) (pv 0) (pa_cons pe_int (pa_cons (pe_op op_sub (pe_callB call_len_seq (by rfl) T.n_len bo_len (pa_cons (pe_gc rfl T.v_NAMES) pa_nil)) pe_int) pa_nil))) (fun _ _ => rfl)))
  (pss_one (ps_expr (pe_bm PySem.F.plainAttrs_list PySem.F.slot_list_append PySem.F.type_list_append mt_append (pv 1) (pa_cons (pe_tup (pa_cons (pv 3) (pa_cons (pe_mX c_Numbers_take hr (by first | exact Nat.le_refl _ | decide | omega) (passes_call (takes_of rfl rfl rfl rfl) (fun _ _ _ _ h => h)) (pv 0) (pa_cons pe_int (pa_cons (pe_gc rfl T.v_GREATEST) pa_nil))) pa_nil))) pa_nil))))))
(pss_one (ps_ret (pv 1))))), ?_⟩
    refine ⟨Nat.zero_le _, fun D nD => ?_⟩
    have K0 := Keep.new (W := []) (o := .lst []) nD
    have N0 := N.keep K0
    obtain ⟨dx, ho⟩ := N0.o
    refine ⟨_, rfl, x, dx, _, rfl, ho, rfl, x, a, ns, o, 0, 65535, rfl, N0, len, fun n p H1 e1 N1 K1 => ?_, fun e d H1 e1 nd hd K1 => ?_⟩
    · obtain ⟨n0, n1⟩ := tk1_ok e1
      have ep : pCd ns o = rep pIn n.toNat ns p := by unfold pCd; rw [e1]; rfl
      obtain ⟨_, ho0⟩ := N.o
      have nDx : D ≠ x := (ne_of_none ho0 nD).symm
      have nDa : D ≠ a := (ne_of_none N.l nD).symm
      have kx : ∀ {H' : Hp}, Keep [x] (upd H D (.lst [])) H' → Keep [x] H H' := fun k => (K0.mono (by simp)).trans k
      refine ⟨_, rfl, by omega, by omega, for_range (lo := 0) (n := n.toNat) (fun (i : Nat) (σ : List (Option V)) (H' : Hp) => ∃ (c : List (Str × Int)) (b : Nat) (xs : List V) (o2 o3 : Option V), σ = [some (.ref x), some (.ref D), o2, o3] ∧ rep pIn i ns p = .ok (c, b) ∧ NumAt C_Numbers H' x a ns b ∧ H' D = some (.lst xs) ∧ TDs H' xs (c.map dIn) ∧ Keep [x] H H') ⟨[], p, [], none, none, rfl, rfl, N1, K1 _ _ upd_same (by simpa using nDx), .nil, kx K1⟩ ?_ ?_⟩
      · rintro i σ H2 hi ⟨c, b, xs, o2, o3, rfl, er, N2, hD, hx, K2⟩
        obtain ⟨dx2, h2⟩ := N2.o
        have cl := rep_len er
        have es := rep_step er
        have fail : ∀ {e : Nat}, pIn ns b = .error e → pCd ns o = .error e := fun {e} h => by
          rw [ep]
          refine rep_err (i := i + 1) (by omega) ?_
          rw [es, h]; rfl
        refine ⟨_, rfl, x, dx2, _, rfl, h2, rfl, _, _, rfl, .inr (T.q_NAMES _), _, _, rfl, rfl, x, a, ns, b, 0, 15, rfl, N2, len, fun q b1 H3 e3 N3 K3 => ?_, fun e d H3 e3 nd hd K3 => k2 e d H3 (fail (by unfold pIn; rw [e3]; rfl)) (free1 K2 nd (by rw [h2]; intro z; cases z)) hd (K2.trans K3)⟩
        obtain ⟨q0, q1⟩ := tk1_ok e3
        obtain ⟨j, rfl⟩ : ∃ j : Nat, q = (j : Int) := ⟨q.toNat, by omega⟩
        obtain ⟨dx3, h3⟩ := N3.o
        have hD3 := K3 _ _ hD (by simpa using nDx)
        have ein : ∀ {r : Except Nat (Int × Nat)}, tk1 0 65535 ns b1 = r → pIn ns b = andThen r fun v b => .ok ((nmL.getD j "", v), b) := fun {r} h => by
          unfold pIn; rw [e3, ← h]; rfl
        refine ⟨_, _, _, _, rfl, rfl, T.q_NAMES _, atI_nat (nm_get j (by omega)), ?_⟩
        refine ⟨_, rfl, .inl ⟨rfl, _, SqL.of hD3⟩, _, rfl, _, rfl, x, dx3, _, rfl, h3, rfl, x, a, ns, b1, 0, 65535, rfl, N3, len, fun v b2 H4 e4 N4 K4 => ⟨by show 2 ≤ sizeLine; decide, fun t nt => ?_⟩, fun e d H4 e4 nd hd K4 => k2 e d H4 (fail (by rw [ein e4]; rfl)) (free1 (K2.trans K3) nd (by rw [h3]; intro z; cases z)) hd ((K2.trans K3).trans K4)⟩
        have hD4 := K4 _ _ hD3 (by simpa using nDx)
        have hD5 : upd H4 t (.tup [.str (nmL.getD j ""), .int v]) D = some (.lst xs) := by rw [upd_ne (ne_of_none hD4 nt)]; exact hD4
        have tk4 : TK H2 H4 := (Keep.tkI K3 h2).trans (Keep.tkI K4 h3)
        have xl : xs.length = i := by rw [hx.length, List.length_map, cl]
        have K5 := Keep.new (W := []) (o := .tup [.str (nmL.getD j ""), .int v]) nt
        have N5 := N4.keep K5
        refine ⟨D, _, _, rfl, rfl, hD5, by rw [xl]; exact smallL (by omega), c ++ [(nmL.getD j "", v)], b2, _, _, _, rfl, by rw [es, ein e4]; rfl, ⟨?_, ?_⟩, upd_same, ?_, ?_⟩
        · obtain ⟨dx5, h5⟩ := N5.o
          exact ⟨dx5, by rw [upd_ne nDx.symm]; exact h5⟩
        · rw [upd_ne nDa.symm]; exact N5.l
        · rw [List.map_append]
          exact (((hx.tk tk4).tk (TK.new nt)).tk (TK.lst hD5)).snoc ((TD.tup upd_same (.cons (.str _) (.cons (.int _) .nil))).tk (TK.lst hD5))
        · exact ((((K2.trans K3).trans K4).then_new nt)).then_own nD
      · rintro σ H2 ⟨c, b, xs, o2, o3, rfl, er, N2, hD, hx, K2⟩
        exact ⟨_, rfl, k1 c b D xs H2 (by rw [ep]; exact er) N2 nD hD hx K2⟩
    · refine k2 e d H1 ?_ (K0.free nd) hd ((K0.mono (by simp)).trans K1)
      unfold pCd; rw [e1]; rfl
end

structure ProgAt (C : Addr) (H : Hp) (g : Addr) (r : Rw) : Prop where
  ex : ∃ dx a b c, H g = some (.ins C dx [("sizes", .ref a), ("moves", .ref b), ("rounds", .ref c)]) ∧ TD H (.ref a) (.tuple (r.1.map PyData.int)) ∧ TD H (.ref b) (.tuple (r.2.1.map dMv)) ∧ TD H (.ref c) (.tuple (r.2.2.map dCd))
theorem ProgAt.keep {C : Addr} {H H' : Hp} {g : Addr} {r : Rw} (h : ProgAt C H g r) (k : Keep [] H H') : ProgAt C H' g r := by
  obtain ⟨dx, a, b, c, h1, h2, h3, h4⟩ := h.ex
  exact ⟨dx, a, b, c, k _ _ h1 (by simp), h2.tk k.tk, h3.tk k.tk, h4.tk k.tk⟩
/-- lists of instructions -/
def LAt (H : Hp) (v : V) (c : List (Str × Int)) : Prop := ∃ l us, v = .ref l ∧ H l = some (.lst us) ∧ TDs H us (c.map dIn)
structure LsAt (H : Hp) (zs : List V) (r : List (List (Str × Int))) : Prop where
  n : zs.length = r.length
  at_ : ∀ (i : Nat) z c, zs[i]? = some z → r[i]? = some c → LAt H z c
theorem LAt.keep {H H' : Hp} {v : V} {c : List (Str × Int)} (h : LAt H v c) (k : Keep [] H H') : LAt H' v c := by
  obtain ⟨l, us, e, h1, h2⟩ := h
  exact ⟨l, us, e, k _ _ h1 (by simp), h2.tk k.tk⟩
theorem LsAt.keep {H H' : Hp} {zs : List V} {r : List (List (Str × Int))} (h : LsAt H zs r) (k : Keep [] H H') : LsAt H' zs r := ⟨h.n, fun i z c a b => (h.at_ i z c a b).keep k⟩
/-- something that is no list of these changes -/
theorem LsAt.kept {H H' : Hp} {zs : List V} {r : List (List (Str × Int))} (h : LsAt H zs r) (tk : TK H H') (k : ∀ l us, .ref l ∈ zs → H l = some (.lst us) → H' l = some (.lst us)) : LsAt H' zs r := ⟨h.n, fun i z c a b => by
  obtain ⟨l, us, e, h1, h2⟩ := h.at_ i z c a b
  exact ⟨l, us, e, k _ _ (by rw [← e]; exact List.mem_of_getElem? a) h1, h2.tk tk⟩⟩
theorem LsAt.snoc {H : Hp} {zs : List V} {r : List (List (Str × Int))} {v : V} {c : List (Str × Int)} (h : LsAt H zs r) (hv : LAt H v c) : LsAt H (zs ++ [v]) (r ++ [c]) := by
  refine ⟨by rw [List.length_append, List.length_append, h.n]; rfl, fun i z d a b => ?_⟩
  by_cases q : i < zs.length
  · rw [List.getElem?_append_left q] at a
    rw [List.getElem?_append_left (by rw [← h.n]; exact q)] at b
    exact h.at_ i z d a b
  · have e : i = zs.length := by
      have := (List.getElem?_eq_some_iff.mp a).1
      rw [List.length_append, List.length_singleton] at this; omega
    subst e
    rw [List.getElem?_append_right (Nat.le_refl _), Nat.sub_self] at a
    rw [h.n, List.getElem?_append_right (Nat.le_refl _), Nat.sub_self] at b
    cases a; cases b; exact hv
def sp_prog (C : Addr) : Sp := fun vs H Q _ => ∃ (x dx a b c : Addr) (s : List Int) (m : List (Int × Int)) (r : List (List (Str × Int))) (ys zs : List V), vs = [.ref x, .ref a, .ref b, .ref c] ∧ H x = some (.ins C dx []) ∧ H a = some (.lst (s.map V.int)) ∧ H b = some (.lst ys) ∧ TDs H ys (m.map dMv) ∧ H c = some (.lst zs) ∧ LsAt H zs r ∧ r.length ≤ 100000 ∧
  ∀ H', Keep [x] H H' → ProgAt C H' x (s, m, r) → Q .non H'
theorem ints_td {H : Hp} : ∀ l : List Int, TDs H (l.map V.int) (l.map PyData.int) := td_ints
section
variable {P : Program} {w : World} {K : PySem.W.Frag} {mg : Str → Option Value} {base : Heap} {C_Program : Addr} {C_Numbers : Addr} {C_GameError : Addr} {C_BadText : Addr} {C_TooLarge : Addr} {C_BadMove : Addr} {C_BadCode : Addr} {f_BadCode___init : Addr} {T_NAMES : Addr}
theorem ok_prog {f : Addr} {fd : FuncData} (M : Mk K C_Program f) (F : C8.Fun K "__init__" "Program.__init__" s_Program___init f fd) (b : Binds K fd ["self", "sizes", "moves", "rounds"] []) (T : Txt K mg C_Program C_Numbers C_GameError C_BadText C_TooLarge C_BadMove C_BadCode T_NAMES) : C8.Mak P w K mg base 1 "Program" C_Program (sp_prog C_Program) [] := by
  refine mak0 M T.m_Program F b .nil sc_Program___init (fun vs H Q E h => ?_) (fun cdv A outer s H vs Q E hr h => ?_)
  · obtain ⟨x, dx, a, b, c, s, m, r, ys, zs, rfl, _⟩ := h
    rfl
  · obtain ⟨x, dx, a, b, c, s, m, r, ys, zs, rfl, hx, ha, hb, tb, hc, tc, rl, k⟩ := h
    refine ⟨_, (pss_cons (ps_fld (pv 0) (pe_callTy call_tuple_of (by rfl) T.n_tuple bo_tuple (pa_cons (pv 1) pa_nil)) rfl)
(pss_cons (ps_fld (pv 0) (pe_callTy call_tuple_of (by rfl) T.n_tuple bo_tuple (pa_cons (pv 2) pa_nil)) rfl)
(pss_one (ps_fld (pv 0) (pe_callTy call_tuple_of (by rfl) T.n_tuple bo_tuple (pa_cons (pe_lc (own := [("code", 4)]) (g := gName 4) (tt := tYes) rfl sc_Program___init.nd (pi_list (pv 3)) (blkOk_by (N := ["self", "sizes", "moves", "rounds", "code"]) (sc := fnScope s_Program___init) (by decide +kernel)) (fun _ _ _ _ _ => pg_name (i := 4) sc_Program___init.nd rfl (Or.inl rfl)) (fun _ _ _ _ _ => pts_nil) (fun _ _ _ _ _ => (pe_callTy (call_tuple_ofK (K := K)) (by rfl) T.n_tuple bo_tuple (pa_cons (pv 4) pa_nil)))) pa_nil)) rfl)))), ?_⟩
    have nx : ∀ {p : Addr} {us : List V}, H p = some (.lst us) → p ∉ [x] := fun {p us} h z => by rw [List.mem_singleton.mp z, hx] at h; cases h
    refine ⟨_, rfl, a, _, rfl, .inl ⟨SqL.of ha, fun ta nta => ?_⟩⟩
    have K1 := Keep.new (W := [x]) (o := .tup (s.map V.int)) nta
    refine ⟨_, rfl, x, C_Program, dx, [], rfl, Keep.new (W := []) nta _ _ hx (by simp), T.cl_Program, T.a_Program_sizes, by show 0 < 1000; decide, ?_⟩
    generalize hH2 : upd (upd H ta (.tup (s.map V.int))) x _ = H2
    have hx2 : H2 x = some (.ins C_Program dx [("sizes", .ref ta)]) := by rw [← hH2]; exact upd_same
    have K2 : Keep [x] H H2 := by rw [← hH2]; exact K1.then_at (List.mem_singleton.mpr rfl)
    have h2 : H2 ta = some (.tup (s.map V.int)) := by rw [← hH2, upd_ne (fun z => by rw [z, hx] at nta; cases nta)]; exact upd_same
    clear hH2 K1
    refine ⟨_, rfl, b, _, rfl, .inl ⟨SqL.of (K2 _ _ hb (nx hb)), fun tb' ntb => ?_⟩⟩
    have K3 := Keep.new (W := []) (o := .tup ys) ntb
    refine ⟨_, rfl, x, C_Program, dx, _, rfl, K3 _ _ hx2 (by simp), T.cl_Program, T.a_Program_moves, by show 1 < 1000; decide, ?_⟩
    generalize hH4 : upd (upd H2 tb' (.tup ys)) x _ = H4
    have hx4 : H4 x = some (.ins C_Program dx [("sizes", .ref ta), ("moves", .ref tb')]) := by rw [← hH4]; exact upd_same
    have K4 : Keep [x] H2 H4 := by rw [← hH4]; exact (K3.mono (by simp)).then_at (List.mem_singleton.mpr rfl)
    have h4 : H4 tb' = some (.tup ys) := by rw [← hH4, upd_ne (fun z => by rw [z, hx2] at ntb; cases ntb)]; exact upd_same
    clear hH4 K3
    have tk2 : TK H H2 := K2.tkI hx
    have tk4 : TK H2 H4 := K4.tkI hx2
    have h24 := tk4 _ _ h2
    have hc4 := K4 _ _ (K2 _ _ hc (nx hc)) (nx hc)
    have tc4 : LsAt H4 zs r := tc.kept (tk2.trans tk4) fun l us _ e => K4 _ _ (K2 _ _ e (nx e)) (nx e)
    have K04 := K2.trans K4
    refine ⟨_, rfl, c, rfl, ⟨_, SqL.of hc4⟩, fun D nD => ?_⟩
    refine lc_list (K := K) (a := c) (xs := zs) (fun i H' => ∃ vs, H' D = some (.lst vs) ∧ TDs H' vs ((r.take i).map dCd) ∧ Keep [] H4 H') ⟨[], upd_same, .nil, Keep.new nD⟩ ?_ ?_ ?_
    · rintro i H' _ ⟨_, _, _, kk⟩
      exact SqL.of (kk _ _ hc4 (by simp))
    · rintro i y H' hy ⟨vs, hD, tv, kk⟩
      have hi : i < r.length := by rw [← tc.n]; exact (List.getElem?_eq_some_iff.mp hy).1
      have hr' : r[i]? = some r[i] := List.getElem?_eq_getElem hi
      obtain ⟨l, us, rfl, hl, tu⟩ := tc4.at_ i y _ hy hr'
      have vl : vs.length = i := by rw [tv.length, List.length_map, List.length_take]; omega
      refine ⟨rfl, yes_then ⟨_, rfl, l, _, rfl, .inl ⟨SqL.of (kk _ _ hl (by simp)), fun t nt => ?_⟩⟩⟩
      have hD2 : upd H' t (.tup us) D = some (.lst vs) := by rw [upd_ne (ne_of_none hD nt)]; exact hD
      refine ⟨_, hD2, by rw [vl]; exact smallL (by omega), _, upd_same, ?_, (kk.then_new nt).then_own nD⟩
      rw [take_snoc hr', List.map_append]
      exact ((tv.tk (TK.new nt)).tk (TK.lst hD2)).snoc ((TD.tup upd_same (tu.tk (kk.tk.trans (TK.new nt)))).tk (TK.lst hD2))
    rintro H5 ⟨vs, hD5, tv5, K5⟩
    rw [tc.n, List.take_length] at tv5
    refine ⟨D, _, rfl, .inl ⟨SqL.of hD5, fun t nt => ?_⟩⟩
    have K6 := Keep.new (W := []) (o := .tup vs) nt
    have hx6 := K6 _ _ (K5 _ _ hx4 (by simp)) (by simp)
    refine ⟨_, rfl, x, C_Program, dx, _, rfl, hx6, T.cl_Program, T.a_Program_rounds, by show 2 < 1000; decide, ?_⟩
    have K7 : ∀ {o : HO}, Keep [x] (upd H5 t (.tup vs)) (upd (upd H5 t (.tup vs)) x o) := fun {o} => Keep.at_ (List.mem_singleton.mpr rfl)
    have tk7 : ∀ {o : HO}, TK (upd H5 t (.tup vs)) (upd (upd H5 t (.tup vs)) x o) := fun {o} => K7.tkI hx6
    have tk57 : ∀ {o : HO}, TK H4 (upd (upd H5 t (.tup vs)) x o) := fun {o} => (K5.tk.trans K6.tk).trans tk7
    refine k _ (((K04.trans (K5.mono (by simp))).trans (K6.mono (by simp))).trans K7) ⟨dx, ta, tb', t, upd_same, .tup (tk57 _ _ h24) (ints_td s), .tup (tk57 _ _ h4) (tb.tk ((tk2.trans tk4).trans tk57)), .tup (tk7 _ _ upd_same) (tv5.tk (K6.tk.trans tk7))⟩
end

def Shd (l : List PyData) : Prop := SeqAt.shaped (.tuple l) = true
theorem shd_iff {l : List PyData} : Shd l ↔ PyData.canLayAll0 l = true ∧ PyData.depthAll l + 1 ≤ 64 := by
  unfold Shd SeqAt.shaped
  rw [Bool.and_eq_true, decide_eq_true_iff]
  simp only [PyData.canLay0, PyData.depth]
theorem lay_allN {N : Nat} {l : List PyData} (h : ∀ d ∈ l, d.canLay0 = true ∧ d.depth ≤ N) : PyData.canLayAll0 l = true ∧ PyData.depthAll l ≤ N := by
  induction l with
  | nil => simp [PyData.canLayAll0, PyData.depthAll]
  | cons x l ih =>
    obtain ⟨a, b⟩ := h x (List.mem_cons_self ..)
    obtain ⟨c, d⟩ := ih fun q hq => h q (List.mem_cons_of_mem _ hq)
    simp only [PyData.canLayAll0, PyData.depthAll, a, c, Bool.and_self, true_and]
    omega
theorem td_sq {K : PySem.W.Frag} {H : Hp} {a : Addr} {ds : List PyData} (h : TD H (.ref a) (.tuple ds)) : ∃ xs, SqT K H a xs ∧ TDs H xs ds ∧ H a = some (.tup xs) := by
  obtain ⟨b, xs, e, hb, t⟩ := td_view h
  cases e
  exact ⟨xs, SqT.of hb, t, hb⟩
theorem tt_eqS {K : PySem.W.Frag} {H : Hp} {u v : V} {ds : List PyData} {Q : VK} (h1 : TD H u (.tuple ds)) (h2 : TD H v (.tuple ds)) (s : Shd ds) (q : Q (.bl true) H) : rEqD K u v H Q :=
  ⟨_, _, h1.dp, h2.dp, s, s, by rw [SeqAt.eqv_refl _ (SeqAt.canLay_of_shaped s)]; exact q⟩
theorem tyI {C : Addr} {K : PySem.W.Frag} (i : InsC K C) {H : Hp} {p dx : Addr} {fs : List (Str × V)} (h : H p = some (.ins C dx fs)) : TyX K H (.ref p) (.ref C) := .base (.ins h i.cl i.ha i.hn i.htk i.hm)
theorem nm_str : ∀ n ∈ nmL, PyData.strOk n = true := by decide +kernel
theorem shd_sz (l : List Int) : Shd (l.map PyData.int) := by
  rw [shd_iff]
  obtain ⟨a, b⟩ := lay_allN (N := 3) (l := l.map PyData.int) fun d hd => by
    obtain ⟨r, hr, rfl⟩ := List.mem_map.mp hd
    simp [PyData.canLay0, PyData.depth]
  exact ⟨a, by omega⟩
theorem shd_mv (l : List (Int × Int)) : Shd (l.map dMv) := by
  rw [shd_iff]
  obtain ⟨a, b⟩ := lay_allN (N := 3) (l := l.map dMv) fun d hd => by
    obtain ⟨r, hr, rfl⟩ := List.mem_map.mp hd
    simp [dMv, PyData.canLay0, PyData.canLayAll0, PyData.depth, PyData.depthAll]
  exact ⟨a, by omega⟩
theorem lay_cd {c : List (Str × Int)} (h : ∀ p ∈ c, OkIn p) : (dCd c).canLay0 = true ∧ (dCd c).depth ≤ 6 := by
  obtain ⟨a, b⟩ := lay_allN (N := 3) (l := c.map dIn) fun d hd => by
    obtain ⟨r, hr, rfl⟩ := List.mem_map.mp hd
    simp [dIn, PyData.canLay0, PyData.canLayAll0, PyData.depth, PyData.depthAll, nm_str _ (h r hr).n]
  simp only [dCd, PyData.canLay0, PyData.depth, a, true_and]
  omega
theorem shd_cd {r : List (List (Str × Int))} (h : ∀ c ∈ r, ∀ p ∈ c, OkIn p) : Shd (r.map dCd) := by
  rw [shd_iff]
  obtain ⟨a, b⟩ := lay_allN (N := 6) (l := r.map dCd) fun d hd => by
    obtain ⟨c, hc, rfl⟩ := List.mem_map.mp hd
    exact lay_cd (h c hc)
  exact ⟨a, by omega⟩
def sp_peq (C : Addr) : Sp := fun vs H Q _ => ∃ a b r, vs = [.ref a, .ref b] ∧ ProgAt C H a r ∧ ProgAt C H b r ∧ OkRw r ∧ Q (.bl true) H
def sp_read (C CB : Addr) : Sp := fun vs H Q E => ∃ (src : Addr) (ns : List Int), vs = [.ref src] ∧ H src = some (.lst (ns.map V.int)) ∧ ns.length ≤ 1000000 ∧
  (∀ r g H', pAll ns = .ok r → H g = none → ProgAt C H' g r → Keep [] H H' → Q (.ref g) H') ∧
  (∀ e d H', pAll ns = .error e → H d = none → H' d = some (.xd [("at", .int ((e : Nat) : Int))]) → Keep [] H H' → E (.ref CB) (some d) H')
section
variable {P : Program} {w : World} {K : PySem.W.Frag} {mg : Str → Option Value} {base : Heap} {C_Program : Addr} {C_Numbers : Addr} {C_GameError : Addr} {C_BadText : Addr} {C_TooLarge : Addr} {C_BadMove : Addr} {C_BadCode : Addr} {f_BadCode___init : Addr} {T_NAMES : Addr}
theorem ok_peq {f : Addr} {fd : FuncData} (me : Meth K C_Program "__eq__" f) (F : C8.Fun K "__eq__" "Program.__eq__" s_Program___eq f fd) (b : Binds K fd ["self", "other"] []) (T : Txt K mg C_Program C_Numbers C_GameError C_BadText C_TooLarge C_BadMove C_BadCode T_NAMES) : Own P w K mg base 1 C_Program "__eq__" (sp_peq C_Program) := by
  refine ⟨f, fd, ["self", "other"], me.at_, me.fn, C8.fn0 F sc_Program___eq (fun vs H Q E h => ?_) (fun cdv A outer s H vs Q E hr h => ?_), b⟩
  · obtain ⟨x, y, r, rfl, _⟩ := h
    rfl
  · obtain ⟨x, y, r, rfl, G1, G2, ok, k⟩ := h
    refine ⟨_, (pss_one (ps_ret (pe_and (pe_callB call_isi (by rfl) T.n_isinstance bo_isinstance (pa_cons (pv 1) (pa_cons (pe_glob (v := .ref _) rfl T.m_Program rfl) pa_nil))) (pe_and (pe_cmpR (op_eqD hr.units) (pe_fld (pv 0) rfl) (pe_fld (pv 1) rfl) (nomark _)) (pe_and (pe_cmpR (op_eqD hr.units) (pe_fld (pv 0) rfl) (pe_fld (pv 1) rfl) (nomark _)) (pe_one (pe_cmpR (op_eqD hr.units) (pe_fld (pv 0) rfl) (pe_fld (pv 1) rfl) (nomark _)))))))), ?_⟩
    obtain ⟨dx, a, b, c, h1, ta, tb, tc⟩ := G1.ex
    obtain ⟨dy, a', b', c', h2, ta', tb', tc'⟩ := G2.ex
    refine ⟨_, rfl, _, _, _, _, _, rfl, .own _, tyI T.i_Program h2, kitSelf, _, rfl, iteT ?_⟩
    refine ⟨_, rfl, x, C_Program, dx, _, _, rfl, h1, T.cl_Program, T.a_Program_sizes, rfl, _, rfl, y, C_Program, dy, _, _, rfl, h2, T.cl_Program, T.a_Program_sizes, rfl, tt_eqS ta ta' (shd_sz _) ⟨_, rfl, iteT ?_⟩⟩
    refine ⟨_, rfl, x, C_Program, dx, _, _, rfl, h1, T.cl_Program, T.a_Program_moves, rfl, _, rfl, y, C_Program, dy, _, _, rfl, h2, T.cl_Program, T.a_Program_moves, rfl, tt_eqS tb tb' (shd_mv _) ⟨_, rfl, iteT ?_⟩⟩
    exact ⟨_, rfl, x, C_Program, dx, _, _, rfl, h1, T.cl_Program, T.a_Program_rounds, rfl, _, rfl, y, C_Program, dy, _, _, rfl, h2, T.cl_Program, T.a_Program_rounds, rfl, tt_eqS tc tc' (shd_cd fun c hc => (ok.r.2 c hc).2) k⟩
theorem ok_read {f : Addr} {fd : FuncData} (D : C8.Def K mg "read_program" s_read_program f fd) (b : Binds K fd ["numbers"] []) (T : Txt K mg C_Program C_Numbers C_GameError C_BadText C_TooLarge C_BadMove C_BadCode T_NAMES) (X_BadCode : SupX_BadCode.Txt P K mg "BadCode" C_BadCode f_BadCode___init) (c_Numbers : C8.Mak P w K mg base 1 "Numbers" C_Numbers (sp_nums K C_Numbers) []) (c_Program : C8.Mak P w K mg base 1 "Program" C_Program (sp_prog C_Program) [])
    (c_Numbers_take : MetX P w K mg base 3 C_Numbers "take" (sp_tk C_Numbers C_BadCode) []) (c_Numbers_take_code : MetX P w K mg base 4 C_Numbers "take_code" (sp_tc C_Numbers C_BadCode) []) : CalX P w K mg base 5 "read_program" (sp_read C_Program C_BadCode) [] := by
  refine CalX.of D (fnx D.fn sc_read_program (fun vs H Q E h => ?_) (fun cdv A outer s H vs Q E hr h => ?_)) b .nil
  · obtain ⟨src, ns, rfl, _⟩ := h
    rfl
  · obtain ⟨src, ns, rfl, hS, len, k1, k2⟩ := h
    refine ⟨_, (pss_cons (ps_set (i := 1) sc_read_program.nd rfl (by first | exact Or.inl rfl | exact Or.inr rfl) (pe_mk c_Numbers hr (by first | exact Nat.le_refl _ | decide | omega) rfl (pa_cons (pv 0) pa_nil)))
(pss_cons (ps_setLcX (i := 2) (own := [("_", 4)]) (g := gName 4) (tt := tYes) (takes_of rfl rfl rfl rfl) rfl rfl rfl sc_read_program.nd rfl rfl (sw_true rfl rfl rfl (by decide +kernel)) (pi_range1 (by rfl) T.n_range (pa_cons (pe_mX c_Numbers_take hr (by first | exact Nat.le_refl _ | decide | omega) (passes_call (takes_of rfl rfl rfl rfl) (fun _ _ _ _ h => h)) (pv 1) (pa_cons pe_int (pa_cons (pe_gc rfl T.v_MOST_VARIABLES) pa_nil))) pa_nil)) (blkOk_by (N := ["numbers", "reader", "sizes", "moves", "_", "player", "rounds"]) (sc := fnScope s_read_program) (by decide +kernel)) (fun _ _ _ _ _ => pg_name (i := 4) sc_read_program.nd rfl (Or.inl rfl)) (fun _ _ _ _ _ => pts_nil) (fun _ _ _ _ _ _ ps => (pe_mX c_Numbers_take hr (by first | exact Nat.le_refl _ | decide | omega) (ps _ (fun _ _ _ h => h)) (pv 1) (pa_cons pe_int (pa_cons (pe_gc rfl T.v_GREATEST) pa_nil)))))
(pss_cons (ps_set (i := 3) sc_read_program.nd rfl (by first | exact Or.inl rfl | exact Or.inr rfl) (pe_lst pa_nil))
(pss_cons (ps_for (passes_of rfl) rfl (pi_range1 (by rfl) T.n_range (pa_cons (pe_mX c_Numbers_take hr (by first | exact Nat.le_refl _ | decide | omega) (passes_call (takes_of rfl rfl rfl rfl) (fun _ _ _ _ h => h)) (pv 1) (pa_cons pe_int (pa_cons (pe_gc rfl T.v_MOST_BRANCHINGS) pa_nil))) pa_nil)) (pg_name (i := 4) sc_read_program.nd rfl (by first | exact Or.inl rfl | exact Or.inr rfl))
  (pss_cons (ps_set (i := 5) sc_read_program.nd rfl (by first | exact Or.inl rfl | exact Or.inr rfl) (pe_mX c_Numbers_take hr (by first | exact Nat.le_refl _ | decide | omega) (passes_call (takes_of rfl rfl rfl rfl) (fun _ _ _ _ h => h)) (pv 1) (pa_cons pe_int (pa_cons pe_int pa_nil))))
  (pss_one (ps_expr (pe_bm PySem.F.plainAttrs_list PySem.F.slot_list_append PySem.F.type_list_append mt_append (pv 3) (pa_cons (pe_tup (pa_cons (pv 5) (pa_cons (pe_mX c_Numbers_take hr (by first | exact Nat.le_refl _ | decide | omega) (passes_call (takes_of rfl rfl rfl rfl) (fun _ _ _ _ h => h)) (pv 1) (pa_cons pe_int (pa_cons (pe_gc rfl T.v_MOST_MOVES) pa_nil))) pa_nil))) pa_nil))))))
(pss_cons (ps_setLcX (i := 6) (own := [("_", 4)]) (g := gName 4) (tt := tYes) (takes_of rfl rfl rfl rfl) rfl rfl rfl sc_read_program.nd rfl rfl (sw_true rfl rfl rfl (by decide +kernel)) (pi_range1 (by rfl) T.n_range (pa_cons (pe_mX c_Numbers_take hr (by first | exact Nat.le_refl _ | decide | omega) (passes_call (takes_of rfl rfl rfl rfl) (fun _ _ _ _ h => h)) (pv 1) (pa_cons pe_int (pa_cons (pe_gc rfl T.v_MOST_ROUNDS) pa_nil))) pa_nil)) (blkOk_by (N := ["numbers", "reader", "sizes", "moves", "_", "player", "rounds"]) (sc := fnScope s_read_program) (by decide +kernel)) (fun _ _ _ _ _ => pg_name (i := 4) sc_read_program.nd rfl (Or.inl rfl)) (fun _ _ _ _ _ => pts_nil) (fun _ _ _ _ _ _ ps => (pe_mX0 c_Numbers_take_code hr (by first | exact Nat.le_refl _ | decide | omega) (ps _ (fun _ _ _ h => h)) (pv 1))))
(pss_cons (ps_if (pt_cmpR op_lt (pe_fld (pv 1) rfl) (pe_callB call_len_seq (by rfl) T.n_len bo_len (pa_cons (pe_fld (pv 1) rfl) pa_nil)) (nomark _))
  (pss_one (SupX_BadCode.ps_raiseE rfl X_BadCode hr (takes_of rfl rfl rfl rfl) (pa_cons (pe_fld (pv 1) rfl) pa_nil)))
  pss_nil)
(pss_one (ps_ret (pe_mk c_Program hr (by first | exact Nat.le_refl _ | decide | omega) rfl (pa_cons (pv 2) (pa_cons (pv 3) (pa_cons (pv 6) pa_nil)))))))))))), ?_⟩
    refine ⟨_, rfl, fun x dx nx ndx ne => ⟨x, dx, src, ns, rfl, SqL.of (made_at nx ndx hS), upd_same, fun a H1 na KX N1 => ⟨rfl, ?_⟩⟩⟩
    have K1 : Keep [] H H1 := fun b o h _ => KX _ _ (made_at nx ndx h) (by rw [List.mem_singleton]; intro z; rw [z, nx] at h; cases h)
    have kx : ∀ {H' : Hp}, Keep [x] H1 H' → Keep [] H H' := fun k b o h _ => k _ _ (K1 _ _ h (by simp)) (by rw [List.mem_singleton]; intro z; rw [z, nx] at h; cases h)
    obtain ⟨dx1, h1⟩ := N1.o
    have er : ∀ {e : Nat}, pCore ns 0 = .error e → pAll ns = .error e := fun {e} h => by unfold pAll; rw [h]
    -- the sizes
    refine ⟨_, rfl, x, dx1, _, rfl, h1, rfl, x, a, ns, 0, 0, 12, rfl, N1, len, fun n p H2 e2 N2 K2 => ?_, fun e d H2 e2 nd hd K2 => k2 e d H2 (er (by unfold pCore pSz; rw [e2]; rfl)) (K1.free nd) hd (kx K2)⟩
    obtain ⟨n0, n1⟩ := tk1_ok e2
    have eS : pSz ns 0 = rep (tk1 1 65535) n.toNat ns p := by unfold pSz; rw [e2]; rfl
    obtain ⟨_, h2⟩ := N2.o
    refine ⟨_, rfl, by omega, by omega, fun D1 nD1 => ?_⟩
    have x1 : D1 ≠ x := (ne_of_none h2 nD1).symm
    have a1 : D1 ≠ a := (ne_of_none N2.l nD1).symm
    refine lc_range (lo := 0) (n := n.toNat) (fun i H' => ∃ (c : List Int) (b : Nat), rep (tk1 1 65535) i ns p = .ok (c, b) ∧ NumAt C_Numbers H' x a ns b ∧ H' D1 = some (.lst (c.map V.int)) ∧ Keep [x] H2 H') ⟨[], p, rfl, N2.keep (Keep.new nD1), upd_same, Keep.new nD1⟩ ?_ ?_
    · rintro i H' hi ⟨c, b, er1, N3, hD, K3⟩
      obtain ⟨dx3, h3⟩ := N3.o
      have cl := rep_len er1
      refine ⟨rfl, yes_then ⟨_, rfl, x, dx3, _, rfl, h3, rfl, x, a, ns, b, 1, 65535, rfl, N3, len, fun v b1 H4 e4 N4 K4 => ?_, fun e d H4 e4 nd hd K4 => ?_⟩⟩
      · have hD4 := K4 _ _ hD (by simpa using x1)
        refine ⟨_, hD4, by rw [List.length_map, cl]; exact smallL (by omega), c ++ [v], b1, by rw [rep_step er1, e4]; rfl, N4.own x1 a1, ?_, (K3.trans K4).then_own nD1⟩
        rw [upd_same, List.map_append]; rfl
      · refine k2 e d H4 (er ?_) ((kx (K2.trans K3)).free nd) hd (kx ((K2.trans K3).trans K4))
        have : pSz ns 0 = .error e := by rw [eS]; exact rep_err (i := i + 1) (by omega) (by rw [rep_step er1, e4]; rfl)
        unfold pCore; rw [this]; rfl
    rintro H3 ⟨c1, b1, er1, N3, hD1, K3⟩
    rw [← eS] at er1
    have c1l : c1.length ≤ 12 := by
      rw [eS] at er1
      have := rep_len er1
      omega
    have K13 := K2.trans K3
    -- the moves
    refine ⟨Nat.zero_le _, fun D2 nD2 => ?_⟩
    obtain ⟨_, h3⟩ := N3.o
    have x2 : D2 ≠ x := (ne_of_none h3 nD2).symm
    have a2 : D2 ≠ a := (ne_of_none N3.l nD2).symm
    have d12 : D1 ≠ D2 := ne_of_none hD1 nD2
    have N3' := N3.keep (Keep.new (W := []) (o := .lst []) nD2)
    obtain ⟨dx3, h3'⟩ := N3'.o
    have K3' : Keep [x] H3 (upd H3 D2 (.lst [])) := Keep.new nD2
    have pc : ∀ {q : Except Nat (List (Int × Int) × Nat)}, pMs ns b1 = q → pCore ns 0 = andThen q fun m b => andThen (pRs ns b) fun r c => .ok ((c1, m, r), c) := fun {q} h => by
      unfold pCore; rw [er1, ← h]; rfl
    refine ⟨_, rfl, x, dx3, _, rfl, h3', rfl, x, a, ns, b1, 0, 24, rfl, N3', len, fun n2 p2 H4 e4 N4 K4 => ?_, fun e d H4 e4 nd hd K4 => k2 e d H4 (er (by rw [pc (q := .error e) (by unfold pMs; rw [e4]; rfl)]; rfl)) ((kx (K13.trans K3')).free nd) hd (kx ((K13.trans K3').trans K4))⟩
    obtain ⟨m0, m1⟩ := tk1_ok e4
    have eM : pMs ns b1 = rep pMv n2.toNat ns p2 := by unfold pMs; rw [e4]; rfl
    refine ⟨_, rfl, by omega, by omega, for_range (lo := 0) (n := n2.toNat) (fun (i : Nat) (σ : List (Option V)) (H' : Hp) => ∃ (c : List (Int × Int)) (b : Nat) (ys : List V) (o4 o5 : Option V), σ = [some (.ref src), some (.ref x), some (.ref D1), some (.ref D2), o4, o5, none] ∧ rep pMv i ns p2 = .ok (c, b) ∧ NumAt C_Numbers H' x a ns b ∧ H' D2 = some (.lst ys) ∧ TDs H' ys (c.map dMv) ∧ Keep [x] H3 H') ⟨[], p2, [], none, none, rfl, rfl, N4, K4 _ _ upd_same (by simpa using x2), .nil, K3'.trans K4⟩ ?_ ?_⟩
    · rintro i σ H5 hi ⟨c, b, ys, o4, o5, rfl, er5, N5, hD5, tys, K5⟩
      obtain ⟨dx5, h5⟩ := N5.o
      have cl := rep_len er5
      have K15 := K13.trans K5
      have fail : ∀ {e : Nat}, pMv ns b = .error e → pAll ns = .error e := fun {e} h => er (by
        rw [pc (q := .error e) (by rw [eM]; exact rep_err (i := i + 1) (by omega) (by rw [rep_step er5, h]; rfl))]; rfl)
      refine ⟨_, rfl, x, dx5, _, rfl, h5, rfl, x, a, ns, b, 1, 2, rfl, N5, len, fun v b6 H6 e6 N6 K6 => ?_, fun e d H6 e6 nd hd K6 => k2 e d H6 (fail (by unfold pMv; rw [e6]; rfl)) ((kx K15).free nd) hd (kx (K15.trans K6))⟩
      obtain ⟨dx6, h6⟩ := N6.o
      have hD6 := K6 _ _ hD5 (by simpa using x2)
      have ein : ∀ {r : Except Nat (Int × Nat)}, tk1 1 8 ns b6 = r → pMv ns b = andThen r fun u b => .ok ((v, u), b) := fun {r} h => by
        unfold pMv; rw [e6, ← h]; rfl
      refine ⟨_, rfl, .inl ⟨rfl, _, SqL.of hD6⟩, _, rfl, _, rfl, x, dx6, _, rfl, h6, rfl, x, a, ns, b6, 1, 8, rfl, N6, len, fun u b7 H7 e7 N7 K7 => ⟨by show 2 ≤ sizeLine; decide, fun t nt => ?_⟩, fun e d H7 e7 nd hd K7 => k2 e d H7 (fail (by rw [ein e7]; rfl)) ((kx (K15.trans K6)).free nd) hd (kx ((K15.trans K6).trans K7))⟩
      have hD7 := K7 _ _ hD6 (by simpa using x2)
      have hD8 : upd H7 t (.tup [.int v, .int u]) D2 = some (.lst ys) := by rw [upd_ne (ne_of_none hD7 nt)]; exact hD7
      have tk7 : TK H5 H7 := (K6.tkI h5).trans (K7.tkI h6)
      have yl : ys.length = i := by rw [tys.length, List.length_map, cl]
      refine ⟨D2, _, _, rfl, rfl, hD8, by rw [yl]; exact smallL (by omega), c ++ [(v, u)], b7, _, _, _, rfl, by rw [rep_step er5, ein e7]; rfl, (N7.keep (Keep.new (W := []) nt)).own x2 a2, upd_same, ?_, (((K5.trans K6).trans K7).then_new nt).then_own nD2⟩
      rw [List.map_append]
      exact (((tys.tk tk7).tk (TK.new nt)).tk (TK.lst hD8)).snoc ((TD.tup upd_same (.cons (.int _) (.cons (.int _) .nil))).tk (TK.lst hD8))
    rintro σ H5 ⟨c2, b2, ys, o4, o5, rfl, er5, N5, hD2, tys, K5⟩
    rw [← eM] at er5
    have K15 := K13.trans K5
    have hD1' := K5 _ _ hD1 (by simpa using x1)
    -- the rounds
    have pc2 : ∀ {q : Except Nat (List (List (Str × Int)) × Nat)}, pRs ns b2 = q → pCore ns 0 = andThen q fun r c => .ok ((c1, c2, r), c) := fun {q} h => by
      rw [pc er5, ← h]; rfl
    obtain ⟨dx5, h5⟩ := N5.o
    refine ⟨_, rfl, x, dx5, _, rfl, h5, rfl, x, a, ns, b2, 0, 8, rfl, N5, len, fun n3 p3 H6 e6 N6 K6 => ?_, fun e d H6 e6 nd hd K6 => k2 e d H6 (er (by rw [pc2 (q := .error e) (by unfold pRs; rw [e6]; rfl)]; rfl)) ((kx K15).free nd) hd (kx (K15.trans K6))⟩
    obtain ⟨r0, r1⟩ := tk1_ok e6
    have eR : pRs ns b2 = rep pCd n3.toNat ns p3 := by unfold pRs; rw [e6]; rfl
    obtain ⟨_, h6⟩ := N6.o
    refine ⟨_, rfl, by omega, by omega, fun D3 nD3 => ?_⟩
    have x3 : D3 ≠ x := (ne_of_none h6 nD3).symm
    have a3 : D3 ≠ a := (ne_of_none N6.l nD3).symm
    refine lc_range (lo := 0) (n := n3.toNat) (fun i H' => ∃ (c : List (List (Str × Int))) (b : Nat) (zs : List V), rep pCd i ns p3 = .ok (c, b) ∧ NumAt C_Numbers H' x a ns b ∧ H' D3 = some (.lst zs) ∧ LsAt H' zs c ∧ (∀ l, .ref l ∈ zs → l ≠ D3) ∧ Keep [x] H6 H') ⟨[], p3, [], rfl, N6.keep (Keep.new nD3), upd_same, ⟨rfl, fun i z c h => by simp at h⟩, fun l h => by simp at h, Keep.new nD3⟩ ?_ ?_
    · rintro i H7 hi ⟨c, b, zs, er7, N7, hD, tz, nz, K7⟩
      obtain ⟨dx7, h7⟩ := N7.o
      have cl := rep_len er7
      have K17 := (K15.trans K6).trans K7
      refine ⟨rfl, yes_then ⟨_, rfl, x, dx7, _, rfl, h7, rfl, x, a, ns, b, rfl, N7, len, fun u b8 l us H8 e8 N8 nl hl tu K8 => ?_, fun e d H8 e8 nd hd K8 => ?_⟩⟩
      · have hD8 := K8 _ _ hD (by simpa using x3)
        have nx7 : ∀ {q : Addr} {ws : List V}, H7 q = some (.lst ws) → q ∉ [x] := fun {q ws} h z => by rw [List.mem_singleton.mp z, h7] at h; cases h
        have tz8 : LsAt H8 zs c := tz.kept (K8.tkI h7) fun q ws _ h => K8 _ _ h (nx7 h)
        have lD : l ≠ D3 := (ne_of_none hD nl).symm
        have up : ∀ {o : HO}, TK H8 (upd H8 D3 o) := fun {o} => TK.lst hD8
        refine ⟨_, hD8, by rw [tz.n, cl]; exact smallL (by omega), c ++ [u], b8, _, by rw [rep_step er7, e8]; rfl, N8.own x3 a3, upd_same, (tz8.kept up fun q ws hq h => by rw [upd_ne (nz q hq)]; exact h).snoc ⟨l, us, rfl, by rw [upd_ne lD]; exact hl, tu.tk up⟩, fun q hq => ?_, (K7.trans K8).then_own nD3⟩
        rcases List.mem_append.mp hq with hq | hq
        · exact nz q hq
        · rw [List.mem_singleton] at hq; cases hq; exact lD
      · refine k2 e d H8 (er ?_) ((kx K17).free nd) hd (kx (K17.trans K8))
        rw [pc2 (q := .error e) (by rw [eR]; exact rep_err (i := i + 1) (by omega) (by rw [rep_step er7, e8]; rfl))]; rfl
    rintro H7 ⟨c3, b3, zs, er7, N7, hD3, tz, nz, K7⟩
    have c3l := rep_len er7
    rw [← eR] at er7
    have ec : pCore ns 0 = .ok ((c1, c2, c3), b3) := by rw [pc2 er7]; rfl
    have K17 := (K15.trans K6).trans K7
    obtain ⟨dx7, h7⟩ := N7.o
    refine ⟨_, rfl, x, C_Numbers, dx7, _, _, rfl, h7, T.cl_Numbers, T.a_Numbers_at, rfl, _, rfl, x, C_Numbers, dx7, _, _, rfl, h7, T.cl_Numbers, T.a_Numbers_numbers, rfl, _, _, rfl, .inl (SqL.of N7.l), _, _, rfl, rfl, _, rfl, iteD (fun h => ?_) (fun h => ?_)⟩
    · rw [List.length_map] at h
      refine ⟨_, rfl, x, C_Numbers, dx7, _, _, rfl, h7, T.cl_Numbers, T.a_Numbers_at, rfl, _, rfl, fun d nd => k2 b3 d _ ?_ ((kx K17).free nd) upd_same ((kx K17).then_new nd)⟩
      unfold pAll; rw [ec]
      simp only [if_pos (show b3 < ns.length by omega)]
    · rw [List.length_map] at h
      have e : pAll ns = .ok (c1, c2, c3) := by
        unfold pAll; rw [ec]
        simp only [if_neg (show ¬ b3 < ns.length by omega)]
      have hD2' := K7 _ _ (K6 _ _ hD2 (by simpa using x2)) (by simpa using x2)
      have hD1'' := K7 _ _ (K6 _ _ hD1' (by simpa using x1)) (by simpa using x1)
      have tys' := tys.tk ((K6.tkI h5).trans (K7.tkI h6))
      refine ⟨_, rfl, _, rfl, _, rfl, fun g dg ng ndg _ => ?_⟩
      have KM := Keep.made (o := .ins C_Program dg []) ng ndg
      refine ⟨g, dg, D1, D2, D3, c1, c2, c3, ys, zs, rfl, upd_same, KM _ _ hD1'' (by simp), KM _ _ hD2' (by simp), tys'.tk KM.tk, KM _ _ hD3 (by simp), tz.keep KM, by omega, fun H8 K8 G => ⟨rfl, ?_⟩⟩
      refine k1 _ g H8 e ((kx K17).free ng) G fun b o h _ => K8 _ _ (KM _ _ (kx K17 _ _ h (by simp)) (by simp)) (by
        rw [List.mem_singleton]; intro z; rw [z, (kx K17).free ng] at h; cases h)
end

theorem nm_idx : ∀ n ∈ nmL, nmL[nmI n]? = some n ∧ (List.range (nmI n)).all (fun m => decide (nmL[m]? ≠ some n)) = true := by decide +kernel
theorem nm_fst {n : Str} (h : n ∈ nmL) : nmL[nmI n]? = some n ∧ ∀ m, m < nmI n → nmL[m]? ≠ some n := by
  obtain ⟨a, b⟩ := nm_idx n h
  exact ⟨a, fun m hm => by simpa using (List.all_eq_true.mp b) m (List.mem_range.mpr hm)⟩
def fs (l : List Cl) : List V := (l.map Prod.fst).map V.int
theorem fs_append (l r : List Cl) : fs (l ++ r) = fs l ++ fs r := by unfold fs; rw [List.map_append, List.map_append]
theorem fs_len (l : List Cl) : (fs l).length = l.length := by unfold fs; rw [List.length_map, List.length_map]
theorem fs_sz : ∀ l : List Int, fs (l.flatMap szC) = l.map V.int
  | [] => rfl
  | a :: r => by rw [List.flatMap_cons, fs_append, fs_sz r]; rfl
theorem fm_take {α : Type} {l : List α} {f : α → List Cl} {i : Nat} {s : α} (h : l[i]? = some s) : (l.take (i + 1)).flatMap f = (l.take i).flatMap f ++ f s := by
  rw [take_snoc h, List.flatMap_append, List.flatMap_cons, List.flatMap_nil, List.append_nil]
theorem fm_len {α : Type} {f : α → List Cl} {n : Nat} (l : List α) (h : ∀ a ∈ l, (f a).length ≤ n) : (l.flatMap f).length ≤ n * l.length := by
  induction l with
  | nil => simp
  | cons a r ih =>
    have := ih fun b hb => h b (List.mem_cons_of_mem _ hb)
    have h2 := h a (List.mem_cons_self ..)
    rw [List.flatMap_cons, List.length_append, List.length_cons, Nat.mul_succ]
    omega
theorem take_mem {α : Type} {l : List α} {i : Nat} {a : α} (h : a ∈ l.take i) : a ∈ l := List.mem_of_mem_take h
theorem cd_len {c : List (Str × Int)} (h : c.length ≤ 300) : (cdC c).length ≤ 601 := by
  have := fm_len (f := inC) (n := 2) c fun _ _ => Nat.le_refl _
  unfold cdC
  rw [List.length_append, List.length_singleton]; omega
theorem cells_len {r : Rw} (h : OkRw r) : (cells r).length ≤ 5000 := by
  have h1 := fm_len (f := szC) (n := 1) r.1 fun _ _ => Nat.le_refl _
  have h2 := fm_len (f := mvC) (n := 2) r.2.1 fun _ _ => Nat.le_refl _
  have h3 := fm_len (f := cdC) (n := 601) r.2.2 fun c hc => cd_len (h.r.2 c hc).1
  have := h.s.1; have := h.m.1; have := h.r.1
  unfold cells
  simp only [List.length_append, List.length_singleton]
  omega
theorem ints_ok {H : Hp} {xs : List V} {l : List Int} (t : TDs H xs (l.map PyData.int)) : xs = l.map V.int := by
  refine List.ext_getElem? fun i => ?_
  rw [List.getElem?_map]
  cases e : l[i]? with
  | none =>
    rw [List.getElem?_eq_none_iff] at e
    rw [List.getElem?_eq_none (by rw [t.length, List.length_map]; exact e)]; rfl
  | some x =>
    obtain ⟨v, h1, h2⟩ := t.get (i := i) (d := .int x) (by rw [List.getElem?_map, e]; rfl)
    rw [h1]
    cases h2; rfl
theorem td_some {α : Type} {H : Hp} {xs : List V} {l : List α} {f : α → PyData} {i : Nat} {x : V} (t : TDs H xs (l.map f)) (hx : xs[i]? = some x) : ∃ a, l[i]? = some a ∧ TD H x (f a) := by
  obtain ⟨h1, _⟩ := List.getElem?_eq_some_iff.mp hx
  have hl := t.length
  rw [List.length_map] at hl
  have e : l[i]? = some l[i] := List.getElem?_eq_getElem (by omega)
  obtain ⟨v, hv, d⟩ := t.get (i := i) (d := f (l[i]'(by omega))) (by rw [List.getElem?_map, e]; rfl)
  rw [hx] at hv; cases hv
  exact ⟨_, e, d⟩
theorem TDs.un {H : Hp} {xs : List V} {d : PyData} {ds : List PyData} (t : TDs H xs (d :: ds)) : ∃ x r, xs = x :: r ∧ TD H x d ∧ TDs H r ds := by
  cases t with
  | cons h t => exact ⟨_, _, rfl, h, t⟩
theorem td_mv {H : Hp} {v : V} {p : Int × Int} (h : TD H v (dMv p)) : ∃ z, v = .ref z ∧ H z = some (.tup [.int p.1, .int p.2]) := by
  obtain ⟨z, zs, rfl, hz, t⟩ := td_view h
  obtain ⟨_, _, rfl, h0, t⟩ := t.un
  obtain ⟨_, _, rfl, h1, t⟩ := t.un
  rw [t.nil_of] at hz
  cases h0; cases h1
  exact ⟨z, rfl, hz⟩
theorem td_in {H : Hp} {v : V} {p : Str × Int} (h : TD H v (dIn p)) : ∃ z, v = .ref z ∧ H z = some (.tup [.str p.1, .int p.2]) := by
  obtain ⟨z, zs, rfl, hz, t⟩ := td_view h
  obtain ⟨_, _, rfl, h0, t⟩ := t.un
  obtain ⟨_, _, rfl, h1, t⟩ := t.un
  rw [t.nil_of] at hz
  cases h0; cases h1
  exact ⟨z, rfl, hz⟩
theorem fm_part {α : Type} {f : α → List Cl} (l : List α) (i : Nat) : ((l.take i).flatMap f).length ≤ (l.flatMap f).length := by
  have := congrArg (fun z => (z.flatMap f).length) (List.take_append_drop i l)
  simp only [List.flatMap_append, List.length_append] at this
  omega
def sp_pn (C : Addr) : Sp := fun vs H Q _ => ∃ g r, vs = [.ref g] ∧ ProgAt C H g r ∧ OkRw r ∧ ∀ l H', H l = none → H' l = some (.lst ((nums r).map V.int)) → Keep [] H H' → Q (.ref l) H'
section
variable {P : Program} {w : World} {K : PySem.W.Frag} {mg : Str → Option Value} {base : Heap} {C_Program : Addr} {C_Numbers : Addr} {C_GameError : Addr} {C_BadText : Addr} {C_TooLarge : Addr} {C_BadMove : Addr} {C_BadCode : Addr} {f_BadCode___init : Addr} {T_NAMES : Addr}
theorem ok_pn {f : Addr} {fd : FuncData} (D : C8.Def K mg "program_numbers" s_program_numbers f fd) (b : Binds K fd ["program"] []) (T : Txt K mg C_Program C_Numbers C_GameError C_BadText C_TooLarge C_BadMove C_BadCode T_NAMES) : C8.Cal P w K mg base 1 "program_numbers" (sp_pn C_Program) [] := by
  refine cal0 D b .nil sc_program_numbers (fun vs H Q E h => ?_) (fun cdv A outer s H vs Q E hr h => ?_)
  · obtain ⟨g, r, rfl, _⟩ := h
    rfl
  · obtain ⟨g, ⟨s, m, rs⟩, rfl, G, ok, k⟩ := h
    refine ⟨_, (pss_cons (ps_set (i := 1) sc_program_numbers.nd rfl (by first | exact Or.inl rfl | exact Or.inr rfl) (pe_lst (pa_cons (pe_callB call_len_seq (by rfl) T.n_len bo_len (pa_cons (pe_fld (pv 0) rfl) pa_nil)) (StX.pa_star (pe_fld (pv 0) rfl) (pa_cons (pe_callB call_len_seq (by rfl) T.n_len bo_len (pa_cons (pe_fld (pv 0) rfl) pa_nil)) pa_nil)))))
(pss_cons (ps_for PassesOwn.never rfl (pi_tup (pe_fld (pv 0) rfl)) (pg_tup (by rfl) (pgs_cons (pg_name (i := 2) sc_program_numbers.nd rfl (by first | exact Or.inl rfl | exact Or.inr rfl)) (pgs_cons (pg_name (i := 3) sc_program_numbers.nd rfl (by first | exact Or.inl rfl | exact Or.inr rfl)) pgs_nil)))
  (pss_one (ps_expr (pe_bm PySem.F.plainAttrs_list PySem.F.slot_list_extend PySem.F.type_list_extend mt_extend (pv 1) (pa_cons (pe_lst (pa_cons (pv 2) (pa_cons (pv 3) pa_nil))) pa_nil)))))
(pss_cons (ps_expr (pe_bm PySem.F.plainAttrs_list PySem.F.slot_list_append PySem.F.type_list_append mt_append (pv 1) (pa_cons (pe_callB call_len_seq (by rfl) T.n_len bo_len (pa_cons (pe_fld (pv 0) rfl) pa_nil)) pa_nil)))
(pss_cons (ps_for PassesOwn.never rfl (pi_tup (pe_fld (pv 0) rfl)) (pg_name (i := 4) sc_program_numbers.nd rfl (by first | exact Or.inl rfl | exact Or.inr rfl))
  (pss_cons (ps_expr (pe_bm PySem.F.plainAttrs_list PySem.F.slot_list_append PySem.F.type_list_append mt_append (pv 1) (pa_cons (pe_callB call_len_seq (by rfl) T.n_len bo_len (pa_cons (pv 4) pa_nil)) pa_nil)))
  (pss_one (ps_for PassesOwn.never rfl (pi_tup (pv 4)) (pg_tup (by rfl) (pgs_cons (pg_name (i := 5) sc_program_numbers.nd rfl (by first | exact Or.inl rfl | exact Or.inr rfl)) (pgs_cons (pg_name (i := 6) sc_program_numbers.nd rfl (by first | exact Or.inl rfl | exact Or.inr rfl)) pgs_nil)))
    (pss_one (ps_expr (pe_bm PySem.F.plainAttrs_list PySem.F.slot_list_extend PySem.F.type_list_extend mt_extend (pv 1) (pa_cons (pe_lst (pa_cons (pe_bm PySem.F.plainAttrs_tuple PySem.F.slot_tuple_index PySem.F.type_tuple_index mt_tup_index (pe_gc rfl T.v_NAMES) (pa_cons (pv 5) pa_nil)) (pa_cons (pv 6) pa_nil))) pa_nil))))))))
(pss_one (ps_ret (pv 1))))))), ?_⟩
    obtain ⟨dx, a, b, c, hg, ta, tb, tc⟩ := G.ex
    obtain ⟨as, _, tas, ha⟩ := td_sq (K := K) ta
    obtain ⟨bs, _, tbs, hb⟩ := td_sq (K := K) tb
    obtain ⟨cs, _, tcs, hc⟩ := td_sq (K := K) tc
    have eas := ints_ok tas
    subst eas
    have sl := ok.s.1; have ml := ok.m.1; have rl := ok.r.1
    change s.length ≤ 12 at sl; change m.length ≤ 24 at ml; change rs.length ≤ 8 at rl
    have cl := cells_len ok
    refine ⟨_, rfl, g, C_Program, dx, _, _, rfl, hg, T.cl_Program, T.a_Program_sizes, rfl, _, _, rfl, .inr (SqT.of ha), _, rfl, g, C_Program, dx, _, _, rfl, hg, T.cl_Program, T.a_Program_sizes, rfl, a, _, rfl, .inl (SqT.of ha), _, rfl, g, C_Program, dx, _, _, rfl, hg, T.cl_Program, T.a_Program_moves, rfl, _, _, rfl, .inr (SqT.of hb), ?_, fun D nD => ?_⟩
    · show _ ≤ sizeLine
      rw [List.length_cons, List.length_append, List.length_map, List.length_singleton]
      exact smallM (by show s.length + 1 + 1 ≤ _; omega)
    obtain ⟨P1, e1⟩ : ∃ P1 : List Cl, P1 = [(((s.length : Nat) : Int), 0, 12)] ++ (s.flatMap szC ++ [(((m.length : Nat) : Int), 0, 24)]) := ⟨_, rfl⟩
    have el : V.int ((List.map V.int (s, m, rs).fst).length : Nat) :: (List.map V.int (s, m, rs).fst ++ [V.int (bs.length : Nat)]) = fs P1 := by
      rw [e1, fs_append, fs_append, fs_sz, List.length_map, tbs.length, List.length_map]; rfl
    have ec : cells (s, m, rs) = P1 ++ (m.flatMap mvC ++ ([(((rs.length : Nat) : Int), 0, 8)] ++ rs.flatMap cdC)) := by
      rw [e1]; unfold cells; simp only [List.append_assoc]
    rw [ec] at cl
    simp only [List.length_append, List.length_singleton] at cl
    have K0 : Keep [] H (upd H D (.lst (fs P1))) := Keep.new nD
    show gName 1 _ _ (upd H D (.lst (V.int ((List.map V.int (s, m, rs).fst).length : Nat) :: (List.map V.int (s, m, rs).fst ++ [V.int (bs.length : Nat)])))) _
    rw [el]
    refine ⟨_, rfl, g, C_Program, dx, _, _, rfl, K0 _ _ hg (by simp), T.cl_Program, T.a_Program_moves, rfl, b, rfl, ⟨_, SqT.of (K0 _ _ hb (by simp))⟩, for_tup (K := K) (a := b) (xs := bs) (fun (i : Nat) (σ : List (Option V)) (H' : Hp) => ∃ (o2 o3 : Option V), σ = [some (.ref g), some (.ref D), o2, o3, none, none, none] ∧ H' D = some (.lst (fs (P1 ++ (m.take i).flatMap mvC))) ∧ Keep [] H H') ⟨none, none, rfl, by rw [List.take_zero, List.flatMap_nil, List.append_nil]; exact upd_same, K0⟩ ?_ ?_ ?_⟩
    · rintro i σ H' _ ⟨o2, o3, rfl, _, kk⟩
      exact SqT.of (kk _ _ hb (by simp))
    · rintro i x σ H1 hi ⟨o2, o3, rfl, hD, kk⟩
      obtain ⟨p, hp, d⟩ := td_some (tbs.tk kk.tk) hi
      obtain ⟨z, rfl, hz⟩ := td_mv d
      have := fm_part (f := mvC) m i
      refine ⟨z, _, rfl, SqT.of hz, rfl, _, _, rfl, _, _, rfl, rfl, _, rfl, .inl ⟨rfl, _, SqL.of hD⟩, _, rfl, _, rfl, by show 2 ≤ sizeLine; decide, fun l nl => ?_⟩
      have hD2 : upd H1 l (.lst [.int p.1, .int p.2]) D = some (.lst (fs (P1 ++ (m.take i).flatMap mvC))) := by rw [upd_ne (ne_of_none hD nl)]; exact hD
      refine ⟨D, l, _, _, rfl, rfl, hD2, upd_same, smallM (by rw [fs_len, List.length_append]; show _ + 2 ≤ _; omega), _, _, rfl, ?_, (kk.then_new nl).then_own nD⟩
      rw [upd_same, fm_take hp, ← List.append_assoc, fs_append _ (mvC p)]; rfl
    rintro σ H1 ⟨o2, o3, rfl, hD1, K1⟩
    rw [tbs.length, List.length_map, List.take_length] at hD1
    change H1 D = some (.lst (fs (P1 ++ m.flatMap mvC))) at hD1
    refine ⟨_, rfl, .inl ⟨rfl, _, SqL.of hD1⟩, _, rfl, g, C_Program, dx, _, _, rfl, K1 _ _ hg (by simp), T.cl_Program, T.a_Program_rounds, rfl, _, _, rfl, .inr (SqT.of (K1 _ _ hc (by simp))), D, _, _, rfl, rfl, hD1, smallL (by rw [fs_len, List.length_append]; omega), ?_⟩
    obtain ⟨P2, e2⟩ : ∃ P2 : List Cl, P2 = P1 ++ m.flatMap mvC ++ [(((rs.length : Nat) : Int), 0, 8)] := ⟨_, rfl⟩
    have p2l : P2.length = P1.length + (m.flatMap mvC).length + 1 := by rw [e2, List.length_append, List.length_append]; rfl
    have ec2 : cells (s, m, rs) = P2 ++ rs.flatMap cdC := by rw [ec, e2]; simp only [List.append_assoc]
    have el2 : fs (P1 ++ m.flatMap mvC) ++ [V.int (cs.length : Nat)] = fs P2 := by
      rw [e2, fs_append (P1 ++ _), tcs.length, List.length_map]; rfl
    rw [el2]
    have K2 : Keep [] H (upd H1 D (.lst (fs P2))) := K1.then_own nD
    refine ⟨_, rfl, g, C_Program, dx, _, _, rfl, K2 _ _ hg (by simp), T.cl_Program, T.a_Program_rounds, rfl, c, rfl, ⟨_, SqT.of (K2 _ _ hc (by simp))⟩, for_tup (K := K) (a := c) (xs := cs) (fun (i : Nat) (σ : List (Option V)) (H' : Hp) => ∃ (o2 o3 o4 o5 o6 : Option V), σ = [some (.ref g), some (.ref D), o2, o3, o4, o5, o6] ∧ H' D = some (.lst (fs (P2 ++ (rs.take i).flatMap cdC))) ∧ Keep [] H H') ⟨_, _, _, _, _, rfl, by rw [List.take_zero, List.flatMap_nil, List.append_nil]; exact upd_same, K2⟩ ?_ ?_ ?_⟩
    · rintro i σ H' _ ⟨o2, o3, o4, o5, o6, rfl, _, kk⟩
      exact SqT.of (kk _ _ hc (by simp))
    · rintro i x σ H3 hi ⟨o2, o3, o4, o5, o6, rfl, hD, kk⟩
      obtain ⟨q, hq, d⟩ := td_some (tcs.tk kk.tk) hi
      have hq : rs[i]? = some q := hq
      have qm := ok.r.2 q (List.mem_of_getElem? hq)
      obtain ⟨z, zs, rfl, hz, tz⟩ := td_view d
      have zl : zs.length = q.length := by rw [tz.length, List.length_map]
      have pl := fm_part (f := cdC) rs i
      obtain ⟨P3, e3⟩ : ∃ P3 : List Cl, P3 = P2 ++ (rs.take i).flatMap cdC ++ [(((q.length : Nat) : Int), 0, 65535)] := ⟨_, rfl⟩
      have p3l : P3.length = P2.length + ((rs.take i).flatMap cdC).length + 1 := by rw [e3, List.length_append, List.length_append]; rfl
      have el3 : fs (P2 ++ (rs.take i).flatMap cdC) ++ [V.int (zs.length : Nat)] = fs P3 := by
        rw [e3, fs_append (P2 ++ _), zl]; rfl
      refine ⟨_, rfl, .inl ⟨rfl, _, SqL.of hD⟩, _, rfl, _, _, rfl, .inr (SqT.of hz), D, _, _, rfl, rfl, hD, smallL (by rw [fs_len, List.length_append]; omega), ?_⟩
      rw [el3]
      have K4 : Keep [] H (upd H3 D (.lst (fs P3))) := kk.then_own nD
      have hz4 : upd H3 D (.lst (fs P3)) z = some (.tup zs) := TK.lst hD _ _ hz
      have tz4 := tz.tk (TK.lst (o := .lst (fs P3)) hD)
      have kq : Keep [D] H3 (upd H3 D (.lst (fs P3))) := Keep.at_ (by simp)
      refine ⟨_, rfl, z, rfl, ⟨_, SqT.of hz4⟩, for_tup (K := K) (a := z) (xs := zs) (fun (j : Nat) (σ : List (Option V)) (H' : Hp) => ∃ (o5 o6 : Option V), σ = [some (.ref g), some (.ref D), o2, o3, some (.ref z), o5, o6] ∧ H' D = some (.lst (fs (P3 ++ (q.take j).flatMap inC))) ∧ H' z = some (.tup zs) ∧ TDs H' zs (q.map dIn) ∧ Keep [] H H') ⟨_, _, rfl, by rw [List.take_zero, List.flatMap_nil, List.append_nil]; exact upd_same, hz4, tz4, K4⟩ ?_ ?_ ?_⟩
      · rintro j σ H' _ ⟨o5, o6, rfl, _, hz', _⟩
        exact SqT.of hz'
      · rintro j y σ H5 hj ⟨o5, o6, rfl, hD5, hz5, tz5, k5⟩
        obtain ⟨pr, hp, d5⟩ := td_some tz5 hj
        obtain ⟨y', rfl, hy⟩ := td_in d5
        obtain ⟨n1, n2⟩ := nm_fst ((qm.2 pr (List.mem_of_getElem? hp)).n)
        have ql := fm_part (f := inC) q j
        have ql2 := fm_len (f := inC) (n := 2) q fun _ _ => Nat.le_refl _
        have := qm.1
        refine ⟨y', _, rfl, SqT.of hy, rfl, _, _, rfl, _, _, rfl, rfl, _, rfl, .inl ⟨rfl, _, SqL.of hD5⟩, .inr (.inl ⟨rfl, T.d_NAMES⟩), _, rfl, _, nmL, _, _, rfl, rfl, T.q_NAMES _, n1, n2, _, rfl, by show 2 ≤ sizeLine; decide, fun l nl => ?_⟩
        have hD6 : upd H5 l (.lst [.int ((nmI pr.1 : Nat) : Int), .int pr.2]) D = some (.lst (fs (P3 ++ (q.take j).flatMap inC))) := by rw [upd_ne (ne_of_none hD5 nl)]; exact hD5
        have tk6 : TK H5 (upd (upd H5 l (.lst [.int ((nmI pr.1 : Nat) : Int), .int pr.2])) D (.lst (fs (P3 ++ (q.take j).flatMap inC) ++ [.int ((nmI pr.1 : Nat) : Int), .int pr.2]))) := (TK.new nl).trans (TK.lst hD6)
        refine ⟨D, l, _, _, rfl, rfl, hD6, upd_same, smallM (by rw [fs_len, List.length_append]; show _ + 2 ≤ _; omega), _, _, rfl, ?_, tk6 _ _ hz5, tz5.tk tk6, (k5.then_new nl).then_own nD⟩
        rw [upd_same, fm_take hp, ← List.append_assoc, fs_append _ (inC pr)]; rfl
      rintro σ H5 ⟨o5, o6, rfl, hD5, hz5, tz5, k5⟩
      rw [zl, List.take_length] at hD5
      refine ⟨_, _, _, _, _, rfl, ?_, k5⟩
      rw [hD5, fm_take hq, e3]
      unfold cdC
      simp only [List.append_assoc]
    rintro σ H3 ⟨o2, o3, o4, o5, o6, rfl, hD3, K3⟩
    rw [tcs.length, List.length_map, List.take_length] at hD3
    refine ⟨_, rfl, k D H3 nD ?_ K3⟩
    rw [hD3]
    unfold nums
    rw [ec2]; rfl
end

def sp_law_number : Sp := fun vs H Q _ => ∃ p q ns, vs = [.ref p] ∧ Pool H p q ns ∧ ∀ r H', 0 ≤ r → r < 65536 → Pool H' p q ns → Keep [p] H H' → Q (.int r) H'
theorem names_split : Txt.split "push load store sign jump skip lot end ask show pay take view long unit back" " " = nmL := by decide +kernel
def sp_names : Sp := fun vs H Q _ => vs = [] ∧ ∀ l H', H l = none → H' l = some (.lst (nmL.map V.str)) → Keep [] H H' → Q (.ref l) H'
def sp_row : Sp := fun vs H Q _ => ∃ p q is, vs = [.ref p] ∧ Pool H p q is ∧ ∀ t r H', TD H' (.ref t) (dRw r) → OkRw r → Pool H' p q is → Keep [p] H H' → Q (.ref t) H'
theorem Pool.tkp {H H' : Hp} {p q : Addr} {is : List Int} (h : Pool H p q is) (k : Keep [p] H H') : TK H H' := by
  obtain ⟨i1, i2, i3, i4, i5, g1, _⟩ := h
  exact k.tk1 g1
section
variable {P : Program} {w : World} {K : PySem.W.Frag} {mg : Str → Option Value} {base : Heap} {C_Program : Addr} {C_Numbers : Addr} {C_GameError : Addr} {C_BadText : Addr} {C_TooLarge : Addr} {C_BadMove : Addr} {C_BadCode : Addr} {f_BadCode___init : Addr} {T_NAMES : Addr}
theorem ok_law_number {f : Addr} {fd : FuncData} (D : C8.Def K mg "_law_number" s_law_number f fd) (b : Binds K fd ["pool"] []) (T : Txt K mg C_Program C_Numbers C_GameError C_BadText C_TooLarge C_BadMove C_BadCode T_NAMES) {k : Nat} (c_law_draw : C8.Cal P w K mg base k "_law_draw" sp_law_draw []) : C8.Cal P w K mg base (k + 1) "_law_number" sp_law_number [] := by
  refine cal0 D b .nil sc_law_number (fun vs H Q E h => ?_) (fun cdv A outer s H vs Q E hr h => ?_)
  · obtain ⟨p, q, ns, rfl, _⟩ := h
    rfl
  · obtain ⟨p, q, ns, rfl, hP, k⟩ := h
    refine ⟨_, (pss_cons (ps_if (pt_cmpR op_eq (pe_c c_law_draw hr (by first | exact Nat.le_refl _ | decide | omega) rfl (pa_cons (pv 0) (pa_cons pe_int pa_nil))) pe_int (nomark _))
  (pss_one (ps_ret (pe_c c_law_draw hr (by first | exact Nat.le_refl _ | decide | omega) rfl (pa_cons (pv 0) (pa_cons pe_int pa_nil)))))
  pss_nil)
(pss_one (ps_ret (pe_c c_law_draw hr (by first | exact Nat.le_refl _ | decide | omega) rfl (pa_cons (pv 0) (pa_cons pe_int pa_nil)))))), ?_⟩
    refine ⟨_, rfl, p, q, ns, 3, rfl, by decide, by decide, hP, fun r H1 r0 r1 P1 K1 => ?_⟩
    refine ⟨rfl, _, rfl, iteD (fun _ => ?_) (fun _ => ?_)⟩
    · exact ⟨_, rfl, p, q, ns, _, rfl, by decide, by decide, P1, fun r2 H2 z0 z1 P2 K2 => k _ _ z0 z1 P2 (K1.trans K2)⟩
    · exact ⟨_, rfl, p, q, ns, _, rfl, by decide, by decide, P1, fun r2 H2 z0 z1 P2 K2 => k _ _ z0 (by omega) P2 (K1.trans K2)⟩
theorem ok_law_names {f : Addr} {fd : FuncData} (D : C8.Def K mg "_law_names_of_code" s_law_names_of_code f fd) (b : Binds K fd [] []) (T : Txt K mg C_Program C_Numbers C_GameError C_BadText C_TooLarge C_BadMove C_BadCode T_NAMES) : C8.Cal P w K mg base 1 "_law_names_of_code" sp_names [] := by
  refine cal0 D b .nil sc_law_names_of_code (fun vs H Q E h => ?_) (fun cdv A outer s H vs Q E hr h => ?_)
  · rw [h.1]; rfl
  · obtain ⟨rfl, k⟩ := h
    refine ⟨_, (pss_cons (ps_set (i := 0) sc_law_names_of_code.nd rfl (by first | exact Or.inl rfl | exact Or.inr rfl) pe_str)
(pss_one (ps_ret (pe_split (pv 0) pe_str)))), ?_⟩
    refine ⟨_, rfl, ⟨_, rfl⟩, _, _, rfl, rfl, by decide +kernel, smallM (by decide +kernel), fun p np => k p _ np ?_ (Keep.new np)⟩
    rw [names_split]; exact upd_same
theorem ok_row {f : Addr} {fd : FuncData} (D : C8.Def K mg "_law_row" s_law_row f fd) (b : Binds K fd ["pool"] []) (T : Txt K mg C_Program C_Numbers C_GameError C_BadText C_TooLarge C_BadMove C_BadCode T_NAMES) (c_law_draw : C8.Cal P w K mg base 1 "_law_draw" sp_law_draw []) (c_law_few : C8.Cal P w K mg base 2 "_law_few" sp_law_few []) (c_law_number : C8.Cal P w K mg base 2 "_law_number" sp_law_number [])
    (c_law_names_of_code : C8.Cal P w K mg base 1 "_law_names_of_code" sp_names []) : C8.Cal P w K mg base 3 "_law_row" sp_row [] := by
  refine cal0 D b .nil sc_law_row (fun vs H Q E h => ?_) (fun cdv A outer s H vs Q E hr h => ?_)
  · obtain ⟨p, q, is, rfl, _⟩ := h
    rfl
  · obtain ⟨p, q, is, rfl, P0, k⟩ := h
    refine ⟨_, (pss_cons (ps_set (i := 1) sc_law_row.nd rfl (by first | exact Or.inl rfl | exact Or.inr rfl) (pe_c0 c_law_names_of_code hr (by first | exact Nat.le_refl _ | decide | omega) rfl))
(pss_cons (ps_setLc (i := 2) (own := [("k", 5)]) (g := gName 5) (tt := tYes) rfl sc_law_row.nd rfl rfl (sw_true rfl rfl rfl (by decide +kernel)) (pi_range1 (by rfl) T.n_range (pa_cons (pe_c c_law_few hr (by first | exact Nat.le_refl _ | decide | omega) rfl (pa_cons (pv 0) (pa_cons pe_int pa_nil))) pa_nil)) (blkOk_by (N := ["pool", "names", "sizes", "moves", "rounds", "k", "many", "code", "at"]) (sc := fnScope s_law_row) (by decide +kernel)) (fun _ _ _ _ _ => pg_name (i := 5) sc_law_row.nd rfl (Or.inl rfl)) (fun _ _ _ _ _ => pts_nil) (fun _ _ _ _ _ => (pe_op op_add pe_int (pe_c c_law_draw hr (by first | exact Nat.le_refl _ | decide | omega) rfl (pa_cons (pv 0) (pa_cons pe_int pa_nil))))))
(pss_cons (ps_setLc (i := 3) (own := [("k", 5)]) (g := gName 5) (tt := tYes) rfl sc_law_row.nd rfl rfl (sw_true rfl rfl rfl (by decide +kernel)) (pi_range1 (by rfl) T.n_range (pa_cons (pe_c c_law_few hr (by first | exact Nat.le_refl _ | decide | omega) rfl (pa_cons (pv 0) (pa_cons pe_int pa_nil))) pa_nil)) (blkOk_by (N := ["pool", "names", "sizes", "moves", "rounds", "k", "many", "code", "at"]) (sc := fnScope s_law_row) (by decide +kernel)) (fun _ _ _ _ _ => pg_name (i := 5) sc_law_row.nd rfl (Or.inl rfl)) (fun _ _ _ _ _ => pts_nil) (fun _ _ _ _ _ => (pe_tup (pa_cons (pe_op op_add pe_int (pe_c c_law_draw hr (by first | exact Nat.le_refl _ | decide | omega) rfl (pa_cons (pv 0) (pa_cons pe_int pa_nil)))) (pa_cons (pe_op op_add pe_int (pe_c c_law_draw hr (by first | exact Nat.le_refl _ | decide | omega) rfl (pa_cons (pv 0) (pa_cons pe_int pa_nil)))) pa_nil)))))
(pss_cons (ps_set (i := 4) sc_law_row.nd rfl (by first | exact Or.inl rfl | exact Or.inr rfl) (pe_lst pa_nil))
(pss_cons (ps_for PassesOwn.never rfl (pi_range1 (by rfl) T.n_range (pa_cons (pe_c c_law_few hr (by first | exact Nat.le_refl _ | decide | omega) rfl (pa_cons (pv 0) (pa_cons pe_int pa_nil))) pa_nil)) (pg_name (i := 5) sc_law_row.nd rfl (by first | exact Or.inl rfl | exact Or.inr rfl))
  (pss_cons (ps_set (i := 6) sc_law_row.nd rfl (by first | exact Or.inl rfl | exact Or.inr rfl) (pe_c c_law_few hr (by first | exact Nat.le_refl _ | decide | omega) rfl (pa_cons (pv 0) (pa_cons pe_int pa_nil))))
  (pss_cut (ps_if (pt_cmpR op_eq (pe_c c_law_draw hr (by first | exact Nat.le_refl _ | decide | omega) rfl (pa_cons (pv 0) (pa_cons pe_int pa_nil))) pe_int (nomark _))
    (pss_one (ps_set (i := 6) sc_law_row.nd rfl (by first | exact Or.inl rfl | exact Or.inr rfl) (pe_op op_add pe_int (pe_c c_law_draw hr (by first | exact Nat.le_refl _ | decide | omega) rfl (pa_cons (pv 0) (pa_cons (pe_ix ix_tup (pe_tup (pa_cons pe_int (pa_cons pe_int (pa_cons pe_int (pa_cons pe_int pa_nil))))) (pe_c c_law_draw hr (by first | exact Nat.le_refl _ | decide | omega) rfl (pa_cons (pv 0) (pa_cons pe_int pa_nil))) (fun _ _ => rfl)) pa_nil))))))
    pss_nil)
  (pss_cons (ps_setLc (i := 7) (own := [("at", 8)]) (g := gName 8) (tt := tYes) rfl sc_law_row.nd rfl rfl (sw_true rfl rfl rfl (by decide +kernel)) (pi_range1 (by rfl) T.n_range (pa_cons (pv 6) pa_nil)) (blkOk_by (N := ["pool", "names", "sizes", "moves", "rounds", "k", "many", "code", "at"]) (sc := fnScope s_law_row) (by decide +kernel)) (fun _ _ _ _ _ => pg_name (i := 8) sc_law_row.nd rfl (Or.inl rfl)) (fun _ _ _ _ _ => pts_nil) (fun _ _ _ _ _ => (pe_tup (pa_cons (pe_ix (ix_listK (K := K)) (pv 1) (pe_c c_law_draw hr (by first | exact Nat.le_refl _ | decide | omega) rfl (pa_cons (pv 0) (pa_cons pe_int pa_nil))) (fun _ _ => rfl)) (pa_cons (pe_callB (call_min2 rfl) (by rfl) T.n_min bo_min (pa_cons pe_int (pa_cons (pe_c c_law_number hr (by first | exact Nat.le_refl _ | decide | omega) rfl (pa_cons (pv 0) pa_nil)) pa_nil))) pa_nil)))))
  (pss_one (ps_expr (pe_bm PySem.F.plainAttrs_list PySem.F.slot_list_append PySem.F.type_list_append mt_append (pv 4) (pa_cons (pe_callTy call_tuple_of (by rfl) T.n_tuple bo_tuple (pa_cons (pv 7) pa_nil)) pa_nil))))))))
(pss_one (ps_ret (pe_tup (pa_cons (pe_callTy call_tuple_of (by rfl) T.n_tuple bo_tuple (pa_cons (pv 2) pa_nil)) (pa_cons (pe_callTy call_tuple_of (by rfl) T.n_tuple bo_tuple (pa_cons (pv 3) pa_nil)) (pa_cons (pe_callTy call_tuple_of (by rfl) T.n_tuple bo_tuple (pa_cons (pv 4) pa_nil)) pa_nil))))))))))), ?_⟩
    refine ⟨rfl, fun L H1 nL hL K1 => ?_⟩
    have P1 := P0.keep0 K1
    have Lp : L ≠ p := P0.nep nL
    have Kp1 : Keep [p] H H1 := K1.mono (by simp)
    refine ⟨_, rfl, p, q, is, 12, rfl, by decide, by decide, P1, fun n H2 n0 n1 P2 K2 => ⟨_, rfl, by omega, by omega, fun D1 nD1 => ?_⟩⟩
    have d1p : D1 ≠ p := P2.nep nD1
    refine lc_range (lo := 0) (n := n.toNat) (fun i H' => ∃ c : List Int, c.length = i ∧ (∀ s ∈ c, 1 ≤ s ∧ s ≤ 65535) ∧ H' D1 = some (.lst (c.map V.int)) ∧ Pool H' p q is ∧ Keep [p] H2 H') ⟨[], rfl, fun s h => by simp at h, upd_same, P2.new nD1, Keep.new nD1⟩ ?_ ?_
    · rintro i H3 hi ⟨c, cl, cb, hD, P3, K3⟩
      refine ⟨rfl, yes_then ⟨_, rfl, p, q, is, 65535, rfl, by decide, by decide, P3, fun v H4 v0 v1 P4 K4 => ?_⟩⟩
      have hD4 := K4 _ _ hD (by simpa using d1p)
      refine ⟨_, _, rfl, rfl, _, hD4, by rw [List.length_map, cl]; exact smallL (by omega), c ++ [1 + v], by rw [List.length_append, cl]; rfl, fun s hs => ?_, by rw [upd_same, List.map_append]; rfl, P4.own d1p (P2.neq nD1), (K3.trans K4).then_own nD1⟩
      rcases List.mem_append.mp hs with hs | hs
      · exact cb s hs
      · rw [List.mem_singleton.mp hs]; omega
    rintro H3 ⟨c1, c1l, c1b, hD1, P3, K3⟩
    refine ⟨_, rfl, p, q, is, 24, rfl, by decide, by decide, P3, fun n2 H4 m0 m1 P4 K4 => ⟨_, rfl, by omega, by omega, fun D2 nD2 => ?_⟩⟩
    have d2p : D2 ≠ p := P4.nep nD2
    have hD1' := K4 _ _ hD1 (by simpa using d1p)
    refine lc_range (lo := 0) (n := n2.toNat) (fun i H' => ∃ (c : List (Int × Int)) (ys : List V), c.length = i ∧ (∀ p ∈ c, (1 ≤ p.1 ∧ p.1 ≤ 2) ∧ (1 ≤ p.2 ∧ p.2 ≤ 8)) ∧ H' D2 = some (.lst ys) ∧ TDs H' ys (c.map dMv) ∧ Pool H' p q is ∧ Keep [p] H4 H') ⟨[], [], rfl, fun s h => by simp at h, upd_same, .nil, P4.new nD2, Keep.new nD2⟩ ?_ ?_
    · rintro i H5 hi ⟨c, ys, cl, cb, hD, ty, P5, K5⟩
      refine ⟨rfl, yes_then ⟨_, rfl, p, q, is, 2, rfl, by decide, by decide, P5, fun v H6 v0 v1 P6 K6 => ⟨_, _, rfl, rfl, _, rfl, p, q, is, 8, rfl, by decide, by decide, P6, fun u H7 u0 u1 P7 K7 => ⟨_, _, rfl, rfl, by show 2 ≤ sizeLine; decide, fun t nt => ?_⟩⟩⟩⟩
      have hD7 := K7 _ _ (K6 _ _ hD (by simpa using d2p)) (by simpa using d2p)
      have hD8 : upd H7 t (.tup [.int (1 + v), .int (1 + u)]) D2 = some (.lst ys) := by rw [upd_ne (ne_of_none hD7 nt)]; exact hD7
      have tk8 := ((P5.tkp K6).trans (P6.tkp K7)).trans (TK.new (o := .tup [.int (1 + v), .int (1 + u)]) nt)
      refine ⟨_, hD8, by rw [ty.length, List.length_map, cl]; exact smallL (by omega), c ++ [(1 + v, 1 + u)], _, by rw [List.length_append, cl]; rfl, fun s hs => ?_, upd_same, ?_, (P7.new nt).own d2p (P4.neq nD2), (((K5.trans K6).trans K7).then_new nt).then_own nD2⟩
      · rcases List.mem_append.mp hs with hs | hs
        · exact cb s hs
        · rw [List.mem_singleton.mp hs]; exact ⟨⟨by show 1 ≤ 1 + v; omega, by show 1 + v ≤ 2; omega⟩, by show 1 ≤ 1 + u; omega, by show 1 + u ≤ 8; omega⟩
      · rw [List.map_append]
        exact ((ty.tk tk8).tk (TK.lst hD8)).snoc ((TD.tup upd_same (.cons (.int _) (.cons (.int _) .nil))).tk (TK.lst hD8))
    rintro H5 ⟨c2, ys, c2l, c2b, hD2, ty, P5, K5⟩
    have hD1'' := K5 _ _ hD1' (by simpa using d1p)
    refine ⟨Nat.zero_le _, fun D3 nD3 => ?_⟩
    have d3p : D3 ≠ p := P5.nep nD3
    have K05 : Keep [p] H H5 := (((Kp1.trans K2).trans K3).trans K4).trans K5
    have hL5 : H5 L = some (.lst (nmL.map V.str)) := (((K2.trans K3).trans K4).trans K5) _ _ hL (by simpa using Lp)
    have N3 := Keep.new (W := [p]) (o := .lst []) nD3
    refine ⟨_, rfl, p, q, is, 8, rfl, by decide, by decide, P5.new nD3, fun n3 H6 r0 r1 P6 K6 => ?_⟩
    have e6 := N3.trans K6
    refine ⟨_, rfl, by omega, by omega, for_range (lo := 0) (n := n3.toNat) (fun (i : Nat) (σ : List (Option V)) (H' : Hp) => ∃ (c : List (List (Str × Int))) (zs : List V) (o5 o6 o7 : Option V), σ = [some (.ref p), some (.ref L), some (.ref D1), some (.ref D2), some (.ref D3), o5, o6, o7, none] ∧ c.length = i ∧ (∀ d ∈ c, d.length ≤ 300 ∧ ∀ p ∈ d, OkIn p) ∧ H' D3 = some (.lst zs) ∧ TDs H' zs (c.map dCd) ∧ Pool H' p q is ∧ TK H5 H' ∧ Keep [p] H5 H') ⟨[], [], none, none, none, rfl, rfl, fun s h => by simp at h, K6 _ _ upd_same (by simpa using d3p), .nil, P6, (TK.new nD3).trans ((P5.new nD3).tkp K6), e6⟩ ?_ ?_⟩
    · rintro i σ H7 hi ⟨c, zs, o5, o6, o7, rfl, cl, cb, hD, tz, P7, tk7, K7⟩
      refine ⟨_, rfl, p, q, is, 10, rfl, by decide, by decide, P7, fun mn H8 s0 s1 P8 K8 => ?_⟩
      refine ⟨fun σ H' => ∃ many : Int, σ = [some (.ref p), some (.ref L), some (.ref D1), some (.ref D2), some (.ref D3), some (.int (0 + (i : Int))), some (.int many), o7, none] ∧ 0 ≤ many ∧ many ≤ 300 ∧ Pool H' p q is ∧ TK H8 H' ∧ Keep [p] H8 H', ?_, ?_⟩
      · refine ⟨_, rfl, p, q, is, 16, rfl, by decide, by decide, P8, fun v H9 v0 v1 P9 K9 => ⟨rfl, _, rfl, iteD (fun _ => ?_) (fun _ => ⟨mn, rfl, s0, by omega, P9, P8.tkp K9, K9⟩)⟩⟩
        refine ⟨_, rfl, by show 4 ≤ sizeLine; decide, fun tt ntt => ⟨_, rfl, p, q, is, 4, rfl, by decide, by decide, P9.new ntt, fun z H10 z0 z1 P10 K10 => ?_⟩⟩
        have ttp : tt ≠ p := P9.nep ntt
        have htt := K10 _ _ (upd_same (H := H9) (a := tt) (o := .tup [V.int 90, V.int 90, V.int 90, V.int 190])) (by simpa using ttp)
        obtain ⟨M, hM, M0, M1⟩ : ∃ M : Int, atI [V.int 90, V.int 90, V.int 90, V.int 190] z = some (.int M) ∧ 90 ≤ M ∧ M ≤ 190 := by
          have : z = 0 ∨ z = 1 ∨ z = 2 ∨ z = 3 := by omega
          rcases this with rfl | rfl | rfl | rfl
          · exact ⟨90, rfl, by decide, by decide⟩
          · exact ⟨90, rfl, by decide, by decide⟩
          · exact ⟨90, rfl, by decide, by decide⟩
          · exact ⟨190, rfl, by decide, by decide⟩
        have KN := Keep.new (W := [p]) (o := .tup [V.int 90, V.int 90, V.int 90, V.int 190]) ntt
        refine ⟨_, _, _, _, rfl, rfl, SqT.of htt, hM, p, q, is, M, rfl, by omega, by omega, P10, fun u H11 u0 u1 P11 K11 => ⟨_, _, rfl, rfl, 11 + u, rfl, by omega, by omega, P11, ?_, ((K9.trans KN).trans K10).trans K11⟩⟩
        exact (((P8.tkp K9).trans (TK.new ntt)).trans ((P9.new ntt).tkp K10)).trans (P10.tkp K11)
      · rintro σ H9 ⟨many, rfl, y0, y1, P9, tk9, K9⟩
        refine ⟨_, rfl, _, rfl, by omega, by omega, fun D4 nD4 => ?_⟩
        have d4p : D4 ≠ p := P9.nep nD4
        have K59 : Keep [p] H5 H9 := (K7.trans K8).trans K9
        have tk59 : TK H5 H9 := (tk7.trans (P7.tkp K8)).trans tk9
        have hL9 := K59 _ _ hL5 (by simpa using Lp)
        have hD9 := K9 _ _ (K8 _ _ hD (by simpa using d3p)) (by simpa using d3p)
        refine lc_range (lo := 0) (n := many.toNat) (fun j H' => ∃ (d : List (Str × Int)) (us : List V), d.length = j ∧ (∀ p ∈ d, OkIn p) ∧ H' D4 = some (.lst us) ∧ TDs H' us (d.map dIn) ∧ Pool H' p q is ∧ TK H9 H' ∧ Keep [p] H9 H') ⟨[], [], rfl, fun s h => by simp at h, upd_same, .nil, P9.new nD4, TK.new nD4, Keep.new nD4⟩ ?_ ?_
        · rintro j H10 hj ⟨d, us, dl, db, hU, tu, P10, tk10, K10⟩
          have hL10 := K10 _ _ hL9 (by simpa using Lp)
          refine ⟨rfl, yes_then ⟨_, rfl, _, rfl, p, q, is, 16, rfl, by decide, by decide, P10, fun v H11 v0 v1 P11 K11 => ?_⟩⟩
          obtain ⟨jj, rfl⟩ : ∃ jj : Nat, v = (jj : Int) := ⟨v.toNat, by omega⟩
          refine ⟨_, _, _, _, rfl, rfl, SqL.of (K11 _ _ hL10 (by simpa using Lp)), atI_nat (nm_get jj (by omega)), _, rfl, p, q, is, rfl, P11, fun u H12 u0 u1 P12 K12 => ⟨_, _, rfl, by show 2 ≤ sizeLine; decide, fun t nt => ?_⟩⟩
          obtain ⟨uu, eu⟩ : ∃ uu : Int, uu = (if u < 65535 then u else 65535) := ⟨_, rfl⟩
          rw [← eu]
          have uu0 : 0 ≤ uu ∧ uu ≤ 65535 := by rw [eu]; split <;> omega
          have hU12 := K12 _ _ (K11 _ _ hU (by simpa using d4p)) (by simpa using d4p)
          have hU13 : upd H12 t (.tup [.str (nmL.getD jj ""), .int uu]) D4 = some (.lst us) := by rw [upd_ne (ne_of_none hU12 nt)]; exact hU12
          have tk13 := ((P10.tkp K11).trans (P11.tkp K12)).trans (TK.new (o := .tup [.str (nmL.getD jj ""), .int uu]) nt)
          refine ⟨_, hU13, by rw [tu.length, List.length_map, dl]; exact smallL (by omega), d ++ [(nmL.getD jj "", uu)], _, by rw [List.length_append, dl]; rfl, fun s hs => ?_, upd_same, ?_, (P12.new nt).own d4p (P9.neq nD4), (tk10.trans tk13).trans (TK.lst hU13), (((K10.trans K11).trans K12).then_new nt).then_own nD4⟩
          · rcases List.mem_append.mp hs with hs | hs
            · exact db s hs
            · rw [List.mem_singleton.mp hs]
              have : nmL.getD jj "" ∈ nmL := by
                have h16 : jj < nmL.length := by have : nmL.length = 16 := rfl; omega
                rw [List.getD_eq_getElem?_getD, List.getElem?_eq_getElem h16]
                exact List.getElem_mem h16
              exact ⟨this, uu0.1, uu0.2⟩
          · rw [List.map_append]
            exact ((tu.tk tk13).tk (TK.lst hU13)).snoc ((TD.tup upd_same (.cons (.str _) (.cons (.int _) .nil))).tk (TK.lst hU13))
        rintro H10 ⟨d, us, dl, db, hU, tu, P10, tk10, K10⟩
        have hD10 := K10 _ _ hD9 (by simpa using d3p)
        refine ⟨_, rfl, .inl ⟨rfl, _, SqL.of hD10⟩, _, rfl, D4, _, rfl, .inl ⟨SqL.of hU, fun t nt => ?_⟩⟩
        have hD11 : upd H10 t (.tup us) D3 = some (.lst zs) := by rw [upd_ne (ne_of_none hD10 nt)]; exact hD10
        have tkA : TK H7 (upd H10 t (.tup us)) := (((P7.tkp K8).trans tk9).trans tk10).trans (TK.new nt)
        have zl : zs.length = i := by rw [tz.length, List.length_map, cl]
        refine ⟨D3, _, _, rfl, rfl, hD11, by rw [zl]; exact smallL (by omega), c ++ [d], _, _, _, _, rfl, by rw [List.length_append, cl]; rfl, fun s hs => ?_, upd_same, ?_, (P10.new nt).own d3p (P5.neq nD3), (tk7.trans tkA).trans (TK.lst hD11), (((K59.trans K10)).then_new nt).then_own nD3⟩
        · rcases List.mem_append.mp hs with hs | hs
          · exact cb s hs
          · rw [List.mem_singleton.mp hs]; exact ⟨by omega, db⟩
        · rw [List.map_append]
          exact ((tz.tk tkA).tk (TK.lst hD11)).snoc ((TD.tup upd_same (tu.tk (TK.new nt))).tk (TK.lst hD11))
    rintro σ H7 ⟨c3, zs, o5, o6, o7, rfl, c3l, c3b, hD3, tz, P7, tk7, K7⟩
    have hD1f := K7 _ _ hD1'' (by simpa using d1p)
    have hD2f := K7 _ _ hD2 (by simpa using d2p)
    refine ⟨_, rfl, D1, _, rfl, .inl ⟨SqL.of hD1f, fun t1 nt1 => ?_⟩⟩
    have E1 := Keep.new (W := []) (o := .tup (c1.map V.int)) nt1
    refine ⟨_, rfl, D2, _, rfl, .inl ⟨SqL.of (E1 _ _ hD2f (by simp)), fun t2 nt2 => ?_⟩⟩
    have E2 := Keep.new (W := []) (o := .tup ys) nt2
    refine ⟨_, rfl, D3, _, rfl, .inl ⟨SqL.of (E2 _ _ (E1 _ _ hD3 (by simp)) (by simp)), fun t3 nt3 => ⟨by show 3 ≤ sizeLine; decide, fun t nt => ?_⟩⟩⟩
    have E3 := Keep.new (W := []) (o := .tup zs) nt3
    have E4 := Keep.new (W := []) (o := .tup [.ref t1, .ref t2, .ref t3]) nt
    have E24 := (E2.trans E3).trans E4
    have E34 := E3.trans E4
    have E14 := E1.trans E24
    refine k t (c1, c2, c3) _ (.tup upd_same (.cons (.tup (E24 _ _ upd_same (by simp)) (ints_td c1)) (.cons (.tup (E34 _ _ upd_same (by simp)) (ty.tk (tk7.trans E14.tk))) (.cons (.tup (E4 _ _ upd_same (by simp)) (tz.tk E14.tk)) .nil)))) ⟨⟨by show c1.length ≤ 12; omega, c1b⟩, ⟨by show c2.length ≤ 24; omega, c2b⟩, ⟨by show c3.length ≤ 8; omega, c3b⟩⟩ (P7.keep0 E14) ((K05.trans K7).trans (E14.mono (by simp)))
end

def dCl (c : Cl) : PyData := .tuple [.int c.1, .int c.2.1, .int c.2.2]
theorem strs_flat : ∀ l : List Str, (l.map V.str).all flatV = true
  | [] => rfl
  | _ :: l => by rw [List.map_cons, List.all_cons, strs_flat l]; rfl
theorem td_cl {H : Hp} {v : V} {c : Cl} (h : TD H v (dCl c)) : ∃ z, v = .ref z ∧ H z = some (.tup [.int c.1, .int c.2.1, .int c.2.2]) := by
  obtain ⟨z, zs, rfl, hz, t⟩ := td_view h
  obtain ⟨_, _, rfl, h0, t⟩ := t.un
  obtain ⟨_, _, rfl, h1, t⟩ := t.un
  obtain ⟨_, _, rfl, h2, t⟩ := t.un
  rw [t.nil_of] at hz
  cases h0; cases h1; cases h2
  exact ⟨z, rfl, hz⟩
theorem cl_at {H : Hp} {z : Addr} {a b c : Int} (h : H z = some (.tup [.int a, .int b, .int c])) : TD H (.ref z) (dCl (a, b, c)) := .tup h (.cons (.int _) (.cons (.int _) (.cons (.int _) .nil)))
theorem rw_view {H : Hp} {t : Addr} {r : Rw} (h : TD H (.ref t) (dRw r)) : ∃ a b c as bs cs, H t = some (.tup [.ref a, .ref b, .ref c]) ∧ H a = some (.tup as) ∧ TDs H as (r.1.map PyData.int) ∧ H b = some (.tup bs) ∧ TDs H bs (r.2.1.map dMv) ∧ H c = some (.tup cs) ∧ TDs H cs (r.2.2.map dCd) := by
  obtain ⟨z, zs, e, hz, t⟩ := td_view h
  cases e
  obtain ⟨x, _, rfl, h0, t⟩ := t.un
  obtain ⟨y, _, rfl, h1, t⟩ := t.un
  obtain ⟨u, _, rfl, h2, t⟩ := t.un
  rw [t.nil_of] at hz
  obtain ⟨a, as, rfl, ha, ta⟩ := td_view h0
  obtain ⟨b, bs, rfl, hb, tb⟩ := td_view h1
  obtain ⟨c, cs, rfl, hc, tc⟩ := td_view h2
  exact ⟨a, b, c, as, bs, cs, hz, ha, ta, hb, tb, hc, tc⟩
theorem nm_flat {n : Str} {j : Nat} (h : ∀ m, m < j → nmL[m]? ≠ some n) : ∀ (m : Nat) (z : V), m < j → (nmL.map V.str)[m]? = some z → eqV z (.str n) = false := fun m z hm hz => by
  rw [List.getElem?_map] at hz
  cases e : nmL[m]? with
  | none => rw [e] at hz; cases hz
  | some x =>
    rw [e] at hz
    cases hz
    have := h m hm
    rw [e] at this
    show (x == n) = false
    exact beq_eq_false_iff_ne.mpr fun q => this (congrArg some q)
def sp_numbers : Sp := fun vs H Q _ => ∃ t r, vs = [.ref t] ∧ TD H (.ref t) (dRw r) ∧ OkRw r ∧ ∀ l xs H', H l = none → H' l = some (.lst xs) → TDs H' xs ((cells r).map dCl) → Keep [] H H' → Q (.ref l) H'
section
variable {P : Program} {w : World} {K : PySem.W.Frag} {mg : Str → Option Value} {base : Heap} {C_Program : Addr} {C_Numbers : Addr} {C_GameError : Addr} {C_BadText : Addr} {C_TooLarge : Addr} {C_BadMove : Addr} {C_BadCode : Addr} {f_BadCode___init : Addr} {T_NAMES : Addr}
theorem ok_numbers {f : Addr} {fd : FuncData} (D : C8.Def K mg "_law_numbers" s_law_numbers f fd) (b : Binds K fd ["row"] []) (T : Txt K mg C_Program C_Numbers C_GameError C_BadText C_TooLarge C_BadMove C_BadCode T_NAMES) (c_law_names_of_code : C8.Cal P w K mg base 1 "_law_names_of_code" sp_names []) : C8.Cal P w K mg base 2 "_law_numbers" sp_numbers [] := by
  refine cal0 D b .nil sc_law_numbers (fun vs H Q E h => ?_) (fun cdv A outer s H vs Q E hr h => ?_)
  · obtain ⟨t, r, rfl, _⟩ := h
    rfl
  · obtain ⟨t, ⟨s, m, rs⟩, rfl, tr, ok, k⟩ := h
    refine ⟨_, (pss_cons (ps_set (i := 1) sc_law_numbers.nd rfl (by first | exact Or.inl rfl | exact Or.inr rfl) (pe_op op_cat (pe_op op_cat (pe_lst (pa_cons (pe_tup (pa_cons (pe_callB call_len_seq (by rfl) T.n_len bo_len (pa_cons (pe_ix ix_tup (pv 0) pe_int (fun _ _ => rfl)) pa_nil)) (pa_cons pe_int (pa_cons pe_int pa_nil)))) pa_nil)) (pe_lc (own := [("size", 5)]) (g := gName 5) (tt := tYes) rfl sc_law_numbers.nd (pi_tup (pe_ix ix_tup (pv 0) pe_int (fun _ _ => rfl))) (blkOk_by (N := ["row", "numbers", "move", "code", "pair", "size"]) (sc := fnScope s_law_numbers) (by decide +kernel)) (fun _ _ _ _ _ => pg_name (i := 5) sc_law_numbers.nd rfl (Or.inl rfl)) (fun _ _ _ _ _ => pts_nil) (fun _ _ _ _ _ => (pe_tup (pa_cons (pv 5) (pa_cons pe_int (pa_cons pe_int pa_nil))))))) (pe_lst (pa_cons (pe_tup (pa_cons (pe_callB call_len_seq (by rfl) T.n_len bo_len (pa_cons (pe_ix ix_tup (pv 0) pe_int (fun _ _ => rfl)) pa_nil)) (pa_cons pe_int (pa_cons pe_int pa_nil)))) pa_nil))))
(pss_cons (ps_for PassesOwn.never rfl (pi_tup (pe_ix ix_tup (pv 0) pe_int (fun _ _ => rfl))) (pg_name (i := 2) sc_law_numbers.nd rfl (by first | exact Or.inl rfl | exact Or.inr rfl))
  (pss_one (ps_set (i := 1) sc_law_numbers.nd rfl (by first | exact Or.inl rfl | exact Or.inr rfl) (pe_op op_cat (pv 1) (pe_lst (pa_cons (pe_tup (pa_cons (pe_ix ix_tup (pv 2) pe_int (fun _ _ => rfl)) (pa_cons pe_int (pa_cons pe_int pa_nil)))) (pa_cons (pe_tup (pa_cons (pe_ix ix_tup (pv 2) pe_int (fun _ _ => rfl)) (pa_cons pe_int (pa_cons pe_int pa_nil)))) pa_nil)))))))
(pss_cons (ps_expr (pe_bm PySem.F.plainAttrs_list PySem.F.slot_list_append PySem.F.type_list_append mt_append (pv 1) (pa_cons (pe_tup (pa_cons (pe_callB call_len_seq (by rfl) T.n_len bo_len (pa_cons (pe_ix ix_tup (pv 0) pe_int (fun _ _ => rfl)) pa_nil)) (pa_cons pe_int (pa_cons pe_int pa_nil)))) pa_nil)))
(pss_cons (ps_for PassesOwn.never rfl (pi_tup (pe_ix ix_tup (pv 0) pe_int (fun _ _ => rfl))) (pg_name (i := 3) sc_law_numbers.nd rfl (by first | exact Or.inl rfl | exact Or.inr rfl))
  (pss_cons (ps_expr (pe_bm PySem.F.plainAttrs_list PySem.F.slot_list_append PySem.F.type_list_append mt_append (pv 1) (pa_cons (pe_tup (pa_cons (pe_callB call_len_seq (by rfl) T.n_len bo_len (pa_cons (pv 3) pa_nil)) (pa_cons pe_int (pa_cons pe_int pa_nil)))) pa_nil)))
  (pss_one (ps_for PassesOwn.never rfl (pi_tup (pv 3)) (pg_name (i := 4) sc_law_numbers.nd rfl (by first | exact Or.inl rfl | exact Or.inr rfl))
    (pss_one (ps_set (i := 1) sc_law_numbers.nd rfl (by first | exact Or.inl rfl | exact Or.inr rfl) (pe_op op_cat (pv 1) (pe_lst (pa_cons (pe_tup (pa_cons (pe_bm PySem.F.plainAttrs_list PySem.F.slot_list_index PySem.F.type_list_index mt_index (pe_c0 c_law_names_of_code hr (by first | exact Nat.le_refl _ | decide | omega) rfl) (pa_cons (pe_ix ix_tup (pv 4) pe_int (fun _ _ => rfl)) pa_nil)) (pa_cons pe_int (pa_cons pe_int pa_nil)))) (pa_cons (pe_tup (pa_cons (pe_ix ix_tup (pv 4) pe_int (fun _ _ => rfl)) (pa_cons pe_int (pa_cons pe_int pa_nil)))) pa_nil))))))))))
(pss_one (ps_ret (pv 1))))))), ?_⟩
    obtain ⟨a, b, c, as, bs, cs, ht, ha, tas, hb, tbs, hc, tcs⟩ := rw_view tr
    change TDs H as (s.map PyData.int) at tas
    change TDs H bs (m.map dMv) at tbs
    change TDs H cs (rs.map dCd) at tcs
    have eas := ints_ok tas
    subst eas
    have bl : bs.length = m.length := by rw [tbs.length, List.length_map]
    have cl' : cs.length = rs.length := by rw [tcs.length, List.length_map]
    have sl := ok.s.1; have ml := ok.m.1; have rl := ok.r.1
    change s.length ≤ 12 at sl; change m.length ≤ 24 at ml; change rs.length ≤ 8 at rl
    have cl := cells_len ok
    refine ⟨_, rfl, _, _, _, _, rfl, rfl, SqT.of ht, rfl, _, _, rfl, .inr (SqT.of ha), by show 3 ≤ sizeLine; decide, fun t1 n1 => ⟨by show 1 ≤ sizeLine; decide, fun l1 m1 => ?_⟩⟩
    have E1 := Keep.new (W := []) (o := .tup [.int (((s.map V.int).length : Nat) : Int), .int 0, .int 12]) n1
    have E2 := Keep.new (W := []) (o := .lst [.ref t1]) m1
    have E12 := E1.trans E2
    have g1 := E2 _ _ (upd_same (H := H) (a := t1) (o := .tup [.int (((s.map V.int).length : Nat) : Int), .int 0, .int 12])) (by simp)
    refine ⟨_, rfl, _, _, _, _, rfl, rfl, SqT.of (E12 _ _ ht (by simp)), rfl, a, rfl, ⟨_, SqT.of (E12 _ _ ha (by simp))⟩, fun D1 nD1 => ?_⟩
    have hl1 := upd_same (H := upd H t1 (.tup [.int (((s.map V.int).length : Nat) : Int), .int 0, .int 12])) (a := l1) (o := .lst [.ref t1])
    revert E12 g1 hl1 nD1
    generalize upd (upd H t1 (.tup [.int (((s.map V.int).length : Nat) : Int), .int 0, .int 12])) l1 (.lst [.ref t1]) = H1
    intro E12 g1 nD1 hl1
    rw [List.length_map] at g1
    refine lc_tup (K := K) (a := a) (xs := s.map V.int) (fun i H' => ∃ xs, H' D1 = some (.lst xs) ∧ TDs H' xs (((s.take i).flatMap szC).map dCl) ∧ Keep [] H1 H') ⟨[], upd_same, .nil, Keep.new nD1⟩ ?_ ?_ ?_
    · rintro i H' _ ⟨_, _, _, kk⟩
      exact SqT.of (kk _ _ (E12 _ _ ha (by simp)) (by simp))
    · rintro i y H' hy ⟨xs, hD, tx, kk⟩
      obtain ⟨v, hv, rfl⟩ := ints_get hy
      have xl : xs.length ≤ 12 := by
        have := fm_part (f := szC) s i
        have h2 := fm_len (f := szC) (n := 1) s fun _ _ => Nat.le_refl _
        rw [tx.length, List.length_map]; omega
      refine ⟨rfl, yes_then ⟨_, rfl, by show 3 ≤ sizeLine; decide, fun t nt => ?_⟩⟩
      have hD2 : upd H' t (.tup [.int v, .int 1, .int 65535]) D1 = some (.lst xs) := by rw [upd_ne (ne_of_none hD nt)]; exact hD
      refine ⟨_, hD2, smallL (by omega), _, upd_same, ?_, (kk.then_new nt).then_own nD1⟩
      rw [fm_take hv, List.map_append]
      exact ((tx.tk (TK.new nt)).tk (TK.lst hD2)).snoc ((cl_at upd_same).tk (TK.lst hD2))
    rintro H2 ⟨xs1, hD1, tx1, K2⟩
    rw [List.length_map, List.take_length] at tx1
    have x1l : xs1.length ≤ 12 := by
      have h2 := fm_len (f := szC) (n := 1) s fun _ _ => Nat.le_refl _
      rw [tx1.length, List.length_map]; omega
    refine ⟨l1, D1, _, _, rfl, rfl, K2 _ _ hl1 (by simp), hD1, by show 1 + xs1.length ≤ _; exact smallM (by omega), fun p np => ?_⟩
    have E02 := E12.trans K2
    have E3 := Keep.new (W := []) (o := .lst ([.ref t1] ++ xs1)) np
    have E03 := E02.trans E3
    refine ⟨_, rfl, _, _, _, _, rfl, rfl, SqT.of (E03 _ _ ht (by simp)), rfl, _, _, rfl, .inr (SqT.of (E03 _ _ hb (by simp))), by show 3 ≤ sizeLine; decide, fun t2 n2 => ⟨by show 1 ≤ sizeLine; decide, fun l2 m2 => ?_⟩⟩
    have E4 := Keep.new (W := []) (o := .tup [.int ((bs.length : Nat) : Int), .int 0, .int 24]) n2
    have E5 := Keep.new (W := []) (o := .lst [.ref t2]) m2
    have E35 := (E3.trans E4).trans E5
    refine ⟨p, l2, _, _, rfl, rfl, E5 _ _ (E4 _ _ upd_same (by simp)) (by simp), upd_same, by rw [List.length_append]; show 1 + xs1.length + 1 ≤ _; exact smallM (by omega), fun N nN => ?_⟩
    have E6 := Keep.new (W := []) (o := .lst ([.ref t1] ++ xs1 ++ [.ref t2])) nN
    have E26 := E35.trans E6
    have E06 := E02.trans E26
    obtain ⟨P1, e1⟩ : ∃ P1 : List Cl, P1 = [(((s.length : Nat) : Int), 0, 12)] ++ (s.flatMap szC ++ [(((m.length : Nat) : Int), 0, 24)]) := ⟨_, rfl⟩
    have ec : cells (s, m, rs) = P1 ++ (m.flatMap mvC ++ ([(((rs.length : Nat) : Int), 0, 8)] ++ rs.flatMap cdC)) := by
      rw [e1]; unfold cells; simp only [List.append_assoc]
    rw [ec] at cl
    simp only [List.length_append, List.length_singleton] at cl
    have nN0 : H N = none := (E02.trans E35).free nN
    have TN : TDs (upd (upd (upd (upd H2 p (.lst ([.ref t1] ++ xs1))) t2 (.tup [.int ((bs.length : Nat) : Int), .int 0, .int 24])) l2 (.lst [.ref t2])) N (.lst ([.ref t1] ++ xs1 ++ [.ref t2]))) ([.ref t1] ++ xs1 ++ [.ref t2]) (P1.map dCl) := by
      rw [e1, List.map_append, List.map_append, List.append_assoc, ← bl]
      exact .cons ((cl_at g1).tk (K2.trans E26).tk) ((tx1.tk E26.tk).snoc ((cl_at (E5 _ _ upd_same (by simp))).tk E6.tk))
    have hN := upd_same (H := (upd (upd (upd H2 p (.lst ([.ref t1] ++ xs1))) t2 (.tup [.int ((bs.length : Nat) : Int), .int 0, .int 24])) l2 (.lst [.ref t2]))) (a := N) (o := .lst ([.ref t1] ++ xs1 ++ [.ref t2]))
    revert E06 TN hN
    generalize (upd (upd (upd (upd H2 p (.lst ([.ref t1] ++ xs1))) t2 (.tup [.int ((bs.length : Nat) : Int), .int 0, .int 24])) l2 (.lst [.ref t2])) N (.lst ([.ref t1] ++ xs1 ++ [.ref t2]))) = H3
    generalize [.ref t1] ++ xs1 ++ [.ref t2] = xs3
    intro E06 TN hN
    clear E26 E35 E3 E4 E5 E6 E03
    refine ⟨_, rfl, _, _, _, _, rfl, rfl, SqT.of (E06 _ _ ht (by simp)), rfl, b, rfl, ⟨_, SqT.of (E06 _ _ hb (by simp))⟩, for_tup (K := K) (a := b) (xs := bs) (fun (i : Nat) (σ : List (Option V)) (H' : Hp) => ∃ (N : Addr) (xs : List V) (o2 : Option V), σ = [some (.ref t), some (.ref N), o2, none, none, none] ∧ H N = none ∧ H' N = some (.lst xs) ∧ TDs H' xs ((P1 ++ (m.take i).flatMap mvC).map dCl) ∧ Keep [] H H') ⟨N, xs3, none, rfl, nN0, hN, by rw [List.take_zero, List.flatMap_nil, List.append_nil]; exact TN, E06⟩ ?_ ?_ ?_⟩
    · rintro i σ H' _ ⟨_, _, _, rfl, _, _, _, kk⟩
      exact SqT.of (kk _ _ hb (by simp))
    · rintro i x σ H4 hi ⟨N, xs, o2, rfl, nN, hN, tx, kk⟩
      obtain ⟨pr, hp, d⟩ := td_some (tbs.tk kk.tk) hi
      obtain ⟨z, rfl, hz⟩ := td_mv d
      have pl := fm_part (f := mvC) m i
      refine ⟨_, rfl, _, rfl, _, _, _, _, rfl, rfl, SqT.of hz, rfl, by show 3 ≤ sizeLine; decide, fun u1 nu1 => ?_⟩
      have F1 := Keep.new (W := []) (o := .tup [.int pr.1, .int 1, .int 2]) nu1
      refine ⟨_, rfl, _, _, _, _, rfl, rfl, SqT.of (F1 _ _ hz (by simp)), rfl, by show 3 ≤ sizeLine; decide, fun u2 nu2 => ⟨by show 2 ≤ sizeLine; decide, fun l nl => ?_⟩⟩
      have F2 := Keep.new (W := []) (o := .tup [.int pr.2, .int 1, .int 8]) nu2
      have F3 := Keep.new (W := []) (o := .lst [.ref u1, .ref u2]) nl
      have F13 := (F1.trans F2).trans F3
      refine ⟨N, l, _, _, rfl, rfl, F13 _ _ hN (by simp), upd_same, by rw [tx.length, List.length_map, List.length_append]; show _ + 2 ≤ _; exact smallM (by omega), fun N' nN' => ?_⟩
      have F4 := Keep.new (W := []) (o := .lst (xs ++ [.ref u1, .ref u2])) nN'
      refine ⟨N', _, _, rfl, (kk.trans F13).free nN', upd_same, ?_, (kk.trans F13).trans F4⟩
      rw [fm_take hp, ← List.append_assoc, List.map_append]
      exact ((tx.tk (F13.trans F4).tk)).append (.cons ((cl_at (F3 _ _ (F2 _ _ upd_same (by simp)) (by simp))).tk F4.tk) (.cons ((cl_at (F3 _ _ upd_same (by simp))).tk F4.tk) .nil))
    rintro σ H4 ⟨N4, xs4, o2, rfl, nN4, hN4, tx4, K4⟩
    rw [bl, List.take_length] at tx4
    change TDs H4 xs4 ((P1 ++ m.flatMap mvC).map dCl) at tx4
    have x4l : xs4.length ≤ 5000 := by rw [tx4.length, List.length_map, List.length_append]; omega
    refine ⟨_, rfl, .inl ⟨rfl, _, SqL.of hN4⟩, _, rfl, _, _, _, _, rfl, rfl, SqT.of (K4 _ _ ht (by simp)), rfl, _, _, rfl, .inr (SqT.of (K4 _ _ hc (by simp))), by show 3 ≤ sizeLine; decide, fun u nu => ?_⟩
    have F1 := Keep.new (W := []) (o := .tup [.int ((cs.length : Nat) : Int), .int 0, .int 8]) nu
    have hN5 := F1 _ _ hN4 (by simp)
    refine ⟨N4, _, _, rfl, rfl, hN5, smallL (by omega), ?_⟩
    obtain ⟨P2, e2⟩ : ∃ P2 : List Cl, P2 = P1 ++ m.flatMap mvC ++ [(((rs.length : Nat) : Int), 0, 8)] := ⟨_, rfl⟩
    have p2l : P2.length = P1.length + (m.flatMap mvC).length + 1 := by rw [e2, List.length_append, List.length_append]; rfl
    have ec2 : cells (s, m, rs) = P2 ++ rs.flatMap cdC := by rw [ec, e2]; simp only [List.append_assoc]
    have T2 : TDs (upd (upd H4 u (.tup [.int ((cs.length : Nat) : Int), .int 0, .int 8])) N4 (.lst (xs4 ++ [.ref u]))) (xs4 ++ [.ref u]) (P2.map dCl) := by
      rw [e2, List.map_append, ← cl']
      exact ((tx4.tk F1.tk).tk (TK.lst hN5)).snoc ((cl_at upd_same).tk (TK.lst hN5))
    have K5 : Keep [] H (upd (upd H4 u (.tup [.int ((cs.length : Nat) : Int), .int 0, .int 8])) N4 (.lst (xs4 ++ [.ref u]))) := (K4.trans F1).then_own nN4
    refine ⟨_, rfl, _, _, _, _, rfl, rfl, SqT.of (K5 _ _ ht (by simp)), rfl, c, rfl, ⟨_, SqT.of (K5 _ _ hc (by simp))⟩, for_tup (K := K) (a := c) (xs := cs) (fun (i : Nat) (σ : List (Option V)) (H' : Hp) => ∃ (N : Addr) (xs : List V) (o2 o3 o4 : Option V), σ = [some (.ref t), some (.ref N), o2, o3, o4, none] ∧ H N = none ∧ H' N = some (.lst xs) ∧ TDs H' xs ((P2 ++ (rs.take i).flatMap cdC).map dCl) ∧ Keep [] H H') ⟨N4, _, _, _, _, rfl, nN4, upd_same, by rw [List.take_zero, List.flatMap_nil, List.append_nil]; exact T2, K5⟩ ?_ ?_ ?_⟩
    · rintro i σ H' _ ⟨_, _, _, _, _, rfl, _, _, _, kk⟩
      exact SqT.of (kk _ _ hc (by simp))
    · rintro i x σ H6 hi ⟨N, xs, o2, o3, o4, rfl, nN, hN, tx, kk⟩
      obtain ⟨q, hq, d⟩ := td_some (tcs.tk kk.tk) hi
      have qm := ok.r.2 q (List.mem_of_getElem? hq)
      obtain ⟨z, zs, rfl, hz, tz⟩ := td_view d
      have zl : zs.length = q.length := by rw [tz.length, List.length_map]
      have pl := fm_part (f := cdC) rs i
      have xl : xs.length ≤ 5000 := by rw [tx.length, List.length_map, List.length_append]; omega
      refine ⟨_, rfl, .inl ⟨rfl, _, SqL.of hN⟩, _, rfl, _, _, rfl, .inr (SqT.of hz), by show 3 ≤ sizeLine; decide, fun u nu => ?_⟩
      have F1 := Keep.new (W := []) (o := .tup [.int ((zs.length : Nat) : Int), .int 0, .int 65535]) nu
      have hN7 := F1 _ _ hN (by simp)
      refine ⟨N, _, _, rfl, rfl, hN7, smallL (by omega), ?_⟩
      obtain ⟨P3, e3⟩ : ∃ P3 : List Cl, P3 = P2 ++ (rs.take i).flatMap cdC ++ [(((q.length : Nat) : Int), 0, 65535)] := ⟨_, rfl⟩
      have p3l : P3.length = P2.length + ((rs.take i).flatMap cdC).length + 1 := by rw [e3, List.length_append, List.length_append]; rfl
      have T3 : TDs (upd (upd H6 u (.tup [.int ((zs.length : Nat) : Int), .int 0, .int 65535])) N (.lst (xs ++ [.ref u]))) (xs ++ [.ref u]) (P3.map dCl) := by
        rw [e3, List.map_append, ← zl]
        exact ((tx.tk F1.tk).tk (TK.lst hN7)).snoc ((cl_at upd_same).tk (TK.lst hN7))
      have K7 : Keep [] H (upd (upd H6 u (.tup [.int ((zs.length : Nat) : Int), .int 0, .int 65535])) N (.lst (xs ++ [.ref u]))) := (kk.trans F1).then_own nN
      have tk7 : TK H6 (upd (upd H6 u (.tup [.int ((zs.length : Nat) : Int), .int 0, .int 65535])) N (.lst (xs ++ [.ref u]))) := F1.tk.trans (TK.lst hN7)
      refine ⟨_, rfl, z, rfl, ⟨_, SqT.of (tk7 _ _ hz)⟩, for_tup (K := K) (a := z) (xs := zs) (fun (j : Nat) (σ : List (Option V)) (H' : Hp) => ∃ (N : Addr) (xs : List V) (o4 : Option V), σ = [some (.ref t), some (.ref N), o2, some (.ref z), o4, none] ∧ H N = none ∧ H' N = some (.lst xs) ∧ TDs H' xs ((P3 ++ (q.take j).flatMap inC).map dCl) ∧ H' z = some (.tup zs) ∧ TDs H' zs (q.map dIn) ∧ Keep [] H H') ⟨N, _, _, rfl, nN, upd_same, by rw [List.take_zero, List.flatMap_nil, List.append_nil]; exact T3, tk7 _ _ hz, tz.tk tk7, K7⟩ ?_ ?_ ?_⟩
      · rintro j σ H' _ ⟨_, _, _, rfl, _, _, _, hz', _⟩
        exact SqT.of hz'
      · rintro j y σ H8 hj ⟨N, xs, o4, rfl, nN, hN, tx, hz8, tz8, k8⟩
        obtain ⟨pr, hp, d8⟩ := td_some tz8 hj
        obtain ⟨y', rfl, hy⟩ := td_in d8
        obtain ⟨n1, n2⟩ := nm_fst ((qm.2 pr (List.mem_of_getElem? hp)).n)
        have ql := fm_part (f := inC) q j
        have ql2 := fm_len (f := inC) (n := 2) q fun _ _ => Nat.le_refl _
        have := qm.1
        refine ⟨_, rfl, rfl, fun L H9 nL hL K9 => ⟨.inl ⟨rfl, _, SqL.of hL⟩, _, rfl, _, _, _, _, rfl, rfl, SqT.of (K9 _ _ hy (by simp)), rfl, _, _, _, nmI pr.1, .str pr.1, rfl, rfl, SqL.of hL, rfl, strs_flat _, by rw [List.getElem?_map, n1]; rfl, beq_self_eq_true _, nm_flat n2, by show 3 ≤ sizeLine; decide, fun u1 nu1 => ?_⟩⟩
        have G1 := Keep.new (W := []) (o := .tup [.int ((nmI pr.1 : Nat) : Int), .int 0, .int 15]) nu1
        refine ⟨_, rfl, _, _, _, _, rfl, rfl, SqT.of (G1 _ _ (K9 _ _ hy (by simp)) (by simp)), rfl, by show 3 ≤ sizeLine; decide, fun u2 nu2 => ⟨by show 2 ≤ sizeLine; decide, fun l nl => ?_⟩⟩
        have G2 := Keep.new (W := []) (o := .tup [.int pr.2, .int 0, .int 65535]) nu2
        have G3 := Keep.new (W := []) (o := .lst [.ref u1, .ref u2]) nl
        have G13 := ((K9.trans G1).trans G2).trans G3
        refine ⟨N, l, _, _, rfl, rfl, G13 _ _ hN (by simp), upd_same, by rw [tx.length, List.length_map, List.length_append]; show _ + 2 ≤ _; exact smallM (by omega), fun N' nN' => ?_⟩
        have G4 := Keep.new (W := []) (o := .lst (xs ++ [.ref u1, .ref u2])) nN'
        have G14 := G13.trans G4
        refine ⟨N', _, _, rfl, (k8.trans G13).free nN', upd_same, ?_, G14 _ _ hz8 (by simp), tz8.tk G14.tk, k8.trans G14⟩
        rw [fm_take hp, ← List.append_assoc, List.map_append]
        exact (tx.tk G14.tk).append (.cons ((cl_at (G3 _ _ (G2 _ _ upd_same (by simp)) (by simp))).tk G4.tk) (.cons ((cl_at (G3 _ _ upd_same (by simp))).tk G4.tk) .nil))
      rintro σ H8 ⟨N, xs, o4, rfl, nN, hN, tx, hz8, tz8, k8⟩
      rw [zl, List.take_length] at tx
      refine ⟨N, xs, _, _, _, rfl, nN, hN, ?_, k8⟩
      rw [fm_take hq, ← List.append_assoc]
      rw [e3] at tx
      unfold cdC
      simp only [List.append_assoc] at tx ⊢
      exact tx
    rintro σ H6 ⟨N, xs, o2, o3, o4, rfl, nN, hN, tx, K6⟩
    rw [cl', List.take_length] at tx
    exact ⟨_, rfl, k N xs H6 nN hN (by rw [ec2]; exact tx) K6⟩
end

theorem op_eqDK {X : Cx} {K : PySem.W.Frag} (hu : X.A.units + 64 < cLine) (hK : X.K = K := by rfl) : OpR X (compareOp .Eq) (rEqD K) := hK ▸ op_eqD hu
def sp_lread : Sp := fun vs H Q _ => ∃ (src : Addr) (ns : List Int), vs = [.ref src] ∧ H src = some (.lst (ns.map V.int)) ∧ ns.length ≤ 1000000 ∧
  (∀ r t l a b c H', pAll ns = .ok r → H' t = some (.tup [.str "read", .ref l, .bl true]) → H' l = some (.lst [.ref a, .ref b, .ref c]) → TD H' (.ref a) (.tuple (r.1.map PyData.int)) → TD H' (.ref b) (.tuple (r.2.1.map dMv)) → TD H' (.ref c) (.tuple (r.2.2.map dCd)) → Keep [] H H' → Q (.ref t) H') ∧
  (∀ e t H', pAll ns = .error e → H' t = some (.tup [.str "refused", .int ((e : Nat) : Int), .bl true]) → Keep [] H H' → Q (.ref t) H')
def sp_bey : Sp := fun vs H Q _ => ∃ (p q : Addr) (is : List Int) (lo hi : Int), vs = [.ref p, .int lo, .int hi] ∧ 0 ≤ lo ∧ hi ≤ 65535 ∧ Pool H p q is ∧ ∀ v H', ¬ (lo ≤ v ∧ v ≤ hi) → Pool H' p q is → Keep [p] H H' → Q (.int v) H'
section
variable {P : Program} {w : World} {K : PySem.W.Frag} {mg : Str → Option Value} {base : Heap} {C_Program : Addr} {C_Numbers : Addr} {C_GameError : Addr} {C_BadText : Addr} {C_TooLarge : Addr} {C_BadMove : Addr} {C_BadCode : Addr} {f_BadCode___init : Addr} {T_NAMES : Addr}
theorem ok_lread {f : Addr} {fd : FuncData} (D : C8.Def K mg "_law_read" s_law_read f fd) (b : Binds K fd ["numbers"] []) (T : Txt K mg C_Program C_Numbers C_GameError C_BadText C_TooLarge C_BadMove C_BadCode T_NAMES) (c_read_program : CalX P w K mg base 5 "read_program" (sp_read C_Program C_BadCode) []) : C8.Cal P w K mg base 6 "_law_read" sp_lread [] := by
  refine cal0 D b .nil sc_law_read (fun vs H Q E h => ?_) (fun cdv A outer s H vs Q E hr h => ?_)
  · obtain ⟨src, ns, rfl, _⟩ := h
    rfl
  · obtain ⟨src, ns, rfl, hS, len, k1, k2⟩ := h
    refine ⟨_, (pss_cons (ps_set (i := 1) sc_law_read.nd rfl (by first | exact Or.inl rfl | exact Or.inr rfl) (pe_callTy call_list_of (by rfl) T.n_list bo_list (pa_cons (pv 0) pa_nil)))
(pss_one (ps_try_as (i := 3) rfl rfl sc_law_read.nd rfl rfl ⟨rfl, by decide, .inl T.m_BadCode⟩ takes0 (fun W pn xe tk ps =>
  (pss_cons (ps_set (i := 2) sc_law_read.nd rfl (by first | exact Or.inl rfl | exact Or.inr rfl) (pe_cS c_read_program hr (by first | exact Nat.le_refl _ | decide | omega) rfl tk (pa_cons (pv 1) pa_nil)))
  (pss_one (ps_ret (pe_tup (pa_cons pe_str (pa_cons (pe_lst (pa_cons (pe_fldK (K := K) (pv 2) rfl) (pa_cons (pe_fldK (K := K) (pv 2) rfl) (pa_cons (pe_fldK (K := K) (pv 2) rfl) pa_nil)))) (pa_cons (pe_cmpR (op_eqDK (K := K) hr.units) (pv 1) (pv 0) (nomark _)) pa_nil))))))))
  (fun a oe cls d pn hz hf =>
  (pss_one (ps_ret (pe_tup (pa_cons pe_str (pa_cons (pe_xf T.f_BadCode T.no_BadCode hz hf (pv 3)) (pa_cons (pe_and (pe_callB (call_isX hz hf) (by rfl) T.n_isinstance bo_isinstance (pa_cons (pv 3) (pa_cons (pe_glob (v := .ref _) rfl T.m_GameError rfl) pa_nil))) (pe_and (pe_not (pe_callB (call_isXT hz hf) (by rfl) T.n_isinstance bo_isinstance (pa_cons (pv 3) (pa_cons (pe_tup (pa_cons (pe_glob (v := .ref _) rfl T.m_BadMove rfl) (pa_cons (pe_glob (v := .ref _) rfl T.m_BadText rfl) (pa_cons (pe_glob (v := .ref _) rfl T.m_TooLarge rfl) pa_nil)))) pa_nil)))) (pe_one (pe_cmpR (op_eqDK (K := K) hr.units) (pv 1) (pv 0) (nomark _))))) pa_nil)))))))))), ?_⟩
    refine ⟨_, rfl, _, _, rfl, .inl (SqL.of hS), fun a na => ?_⟩
    have K0 := Keep.new (W := []) (o := .lst (ns.map V.int)) na
    refine ⟨_, rfl, a, ns, rfl, upd_same, len, fun r g H1 e ng G K1 => ?_, fun e d H1 er nd hd K1 => ?_⟩
    · obtain ⟨dx, b1, b2, b3, hg, t1, t2, t3⟩ := G.ex
      refine ⟨_, rfl, g, C_Program, dx, _, _, rfl, hg, T.cl_Program, T.a_Program_sizes, rfl, _, rfl, g, C_Program, dx, _, _, rfl, hg, T.cl_Program, T.a_Program_moves, rfl, _, rfl, g, C_Program, dx, _, _, rfl, hg, T.cl_Program, T.a_Program_rounds, rfl, by show 3 ≤ sizeLine; decide, fun l nl => ?_⟩
      have K2 := Keep.new (W := []) (o := .lst [.ref b1, .ref b2, .ref b3]) nl
      have K12 := K1.trans K2
      have hl := upd_same (H := H1) (a := l) (o := .lst [.ref b1, .ref b2, .ref b3])
      refine ⟨_, rfl, _, rfl, _, _, .lst (SqL.of (K12 _ _ upd_same (by simp))) (dp_ints _), .lst (SqL.of (K12 _ _ (K0 _ _ hS (by simp)) (by simp))) (dp_ints _), shaped_ints _, shaped_ints _, ?_⟩
      rw [eqv_ints]
      refine ⟨by show 3 ≤ sizeLine; decide, fun t nt => ?_⟩
      have K3 := Keep.new (W := []) (o := .tup [.str "read", .ref l, .bl true]) nt
      have K23 := K2.trans K3
      exact k1 r t l b1 b2 b3 _ e upd_same (K3 _ _ hl (by simp)) (t1.tk K23.tk) (t2.tk K23.tk) (t3.tk K23.tk) ((K0.trans K1).trans K23)
    · refine ⟨true, T.x_BadCode, fun _ a' ha => ?_, fun q => nomatch q⟩
      refine ⟨_, rfl, rfl, rfl, d, _, _, rfl, hd, rfl, ?_⟩
      refine ⟨_, rfl, _, _, d, _, true, rfl, rfl, rfl, T.e_BadCode, hd, T.kit1, _, rfl, iteT ?_⟩
      refine ⟨_, rfl, by show 3 ≤ sizeLine; decide, fun tp ntp => ⟨_, tp, d, [C_BadMove, C_BadText, C_TooLarge], _, false, rfl, rfl, rfl, T.e_BadCode, Keep.new (W := []) ntp _ _ hd (by simp), upd_same, T.kit2, _, rfl, _, rfl, iteT ?_⟩⟩
      have K2 := Keep.new (W := []) (o := .tup [.ref C_BadMove, .ref C_BadText, .ref C_TooLarge]) ntp
      have K12 := K1.trans K2
      refine ⟨_, rfl, _, rfl, _, _, .lst (SqL.of (K12 _ _ upd_same (by simp))) (dp_ints _), .lst (SqL.of (K12 _ _ (K0 _ _ hS (by simp)) (by simp))) (dp_ints _), shaped_ints _, shaped_ints _, ?_⟩
      rw [eqv_ints]
      exact ⟨by show 3 ≤ sizeLine; decide, fun t nt => k2 e t _ er upd_same ((K0.trans K12).then_new nt)⟩
theorem ok_bey {f : Addr} {fd : FuncData} (D : C8.Def K mg "_law_beyond" s_law_beyond f fd) (b : Binds K fd ["pool", "least", "most"] []) (T : Txt K mg C_Program C_Numbers C_GameError C_BadText C_TooLarge C_BadMove C_BadCode T_NAMES) (c_law_draw : C8.Cal P w K mg base 1 "_law_draw" sp_law_draw []) : C8.Cal P w K mg base 2 "_law_beyond" sp_bey [] := by
  refine cal0 D b .nil sc_law_beyond (fun vs H Q E h => ?_) (fun cdv A outer s H vs Q E hr h => ?_)
  · obtain ⟨p, q, is, lo, hi, rfl, _⟩ := h
    rfl
  · obtain ⟨p, q, is, lo, hi, rfl, l0, h0, P0, k⟩ := h
    refine ⟨_, (pss_cons (ps_set (i := 3) sc_law_beyond.nd rfl (by first | exact Or.inl rfl | exact Or.inr rfl) (pe_op op_mul (pe_c c_law_draw hr (by first | exact Nat.le_refl _ | decide | omega) rfl (pa_cons (pv 0) (pa_cons pe_int pa_nil))) (pe_c c_law_draw hr (by first | exact Nat.le_refl _ | decide | omega) rfl (pa_cons (pv 0) (pa_cons (pe_op op_pow pe_int pe_int) pa_nil)))))
(pss_one (ps_ret (pe_ix ix_tup (pe_tup (pa_cons (pe_op op_sub (pe_op op_sub (pv 1) pe_int) (pv 3)) (pa_cons (pe_op op_add (pe_op op_add (pv 2) pe_int) (pv 3)) (pa_cons (pe_op op_add pe_int (pv 3)) (pa_cons (pe_op op_sub (pe_un un_neg pe_int) (pv 3)) pa_nil))))) (pe_c c_law_draw hr (by first | exact Nat.le_refl _ | decide | omega) rfl (pa_cons (pv 0) (pa_cons pe_int pa_nil))) (fun _ _ => rfl))))), ?_⟩
    refine ⟨_, rfl, p, q, is, 3, rfl, by decide, by decide, P0, fun u H1 u0 u1 P1 K1 => ⟨_, rfl, _, _, rfl, rfl, ⟨by decide, by decide, by decide⟩, p, q, is, _, rfl, by decide, by decide, P1, fun v H2 v0 v1 P2 K2 => ⟨_, _, rfl, rfl, .inl ⟨by omega, by omega⟩, ?_⟩⟩⟩
    obtain ⟨far, ef⟩ : ∃ far, far = u * v := ⟨_, rfl⟩
    have f0 : 0 ≤ far := by rw [ef]; exact Int.mul_nonneg u0 v0
    show gName 3 (V.int (u * v)) _ _ _
    rw [← ef]
    refine ⟨_, rfl, _, _, rfl, rfl, _, rfl, _, _, rfl, rfl, _, rfl, _, _, rfl, rfl, _, rfl, _, _, rfl, rfl, _, rfl, _, _, rfl, rfl, _, rfl, _, rfl, _, _, rfl, rfl, by show 4 ≤ sizeLine; decide, fun tt ntt => ⟨_, rfl, p, q, is, 4, rfl, by decide, by decide, P2.new ntt, fun z H3 z0 z1 P3 K3 => ?_⟩⟩
    have ttp : tt ≠ p := P2.nep ntt
    have htt := K3 _ _ (upd_same (H := H2) (a := tt) (o := .tup [V.int (lo - 1 - far), V.int (hi + 1 + far), V.int (65536 + far), V.int (-1 - far)])) (by simpa using ttp)
    obtain ⟨v', hM, hv⟩ : ∃ v' : Int, atI [V.int (lo - 1 - far), V.int (hi + 1 + far), V.int (65536 + far), V.int (-1 - far)] z = some (.int v') ∧ ¬ (lo ≤ v' ∧ v' ≤ hi) := by
      have : z = 0 ∨ z = 1 ∨ z = 2 ∨ z = 3 := by omega
      rcases this with rfl | rfl | rfl | rfl
      · exact ⟨_, rfl, by omega⟩
      · exact ⟨_, rfl, by omega⟩
      · exact ⟨_, rfl, by omega⟩
      · exact ⟨_, rfl, by omega⟩
    exact ⟨_, _, _, _, rfl, rfl, SqT.of htt, hM, k v' H3 hv P3 (((K1.trans K2).then_new ntt).trans K3)⟩
end

theorem TDs.set {H : Hp} : ∀ {xs : List V} {ds : List PyData} {v : V} {d : PyData} (i : Nat), TDs H xs ds → TD H v d → TDs H (xs.set i v) (ds.set i d)
  | _, _, _, _, _, .nil, _ => .nil
  | _, _, _, _, 0, .cons _ t, h => .cons h t
  | _, _, _, _, i + 1, .cons h t, k => .cons h (TDs.set i t k)
theorem OkRw.sets {s : List Int} {m : List (Int × Int)} {r : List (List (Str × Int))} (h : OkRw (s, m, r)) (i : Nat) {v : Int} (hv : 1 ≤ v ∧ v ≤ 65535) : OkRw (s.set i v, m, r) :=
  ⟨⟨by show (s.set i v).length ≤ 12; rw [List.length_set]; exact h.s.1, fun x hx => (List.mem_or_eq_of_mem_set hx).elim (h.s.2 x) fun e => by rw [e]; exact hv⟩, h.m, h.r⟩
theorem OkRw.setm {s : List Int} {m : List (Int × Int)} {r : List (List (Str × Int))} (h : OkRw (s, m, r)) (i : Nat) {v : Int × Int} (hv : (1 ≤ v.1 ∧ v.1 ≤ 2) ∧ (1 ≤ v.2 ∧ v.2 ≤ 8)) : OkRw (s, m.set i v, r) :=
  ⟨h.s, ⟨by show (m.set i v).length ≤ 24; rw [List.length_set]; exact h.m.1, fun x hx => (List.mem_or_eq_of_mem_set hx).elim (h.m.2 x) fun e => by rw [e]; exact hv⟩, h.r⟩
theorem OkRw.setr {s : List Int} {m : List (Int × Int)} {r : List (List (Str × Int))} (h : OkRw (s, m, r)) (i : Nat) {c : List (Str × Int)} (hc : c.length ≤ 300 ∧ ∀ p ∈ c, OkIn p) : OkRw (s, m, r.set i c) :=
  ⟨h.s, h.m, ⟨by show (r.set i c).length ≤ 8; rw [List.length_set]; exact h.r.1, fun x hx => (List.mem_or_eq_of_mem_set hx).elim (h.r.2 x) fun e => by rw [e]; exact hc⟩⟩
theorem nodup_at {α : Type} {l : List α} (h : l.Nodup) {i j : Nat} {a : α} (ha : l[i]? = some a) (hb : l[j]? = some a) : i = j := by
  obtain ⟨h1, e1⟩ := List.getElem?_eq_some_iff.mp ha
  obtain ⟨h2, e2⟩ := List.getElem?_eq_some_iff.mp hb
  have hp := List.pairwise_iff_getElem.mp h
  rcases Nat.lt_trichotomy i j with z | z | z
  · exact absurd (e1.trans e2.symm) (hp i j h1 h2 z)
  · exact z
  · exact absurd (e2.trans e1.symm) (hp j i h2 h1 z)
structure OS (H : Hp) (p q D1 D2 D3 : Addr) (is : List Int) (s : List Int) (m : List (Int × Int)) (rs : List (List (Str × Int))) (ys zs : List V) : Prop where
  h1 : H D1 = some (.lst (s.map V.int))
  h2 : H D2 = some (.lst ys)
  t2 : TDs H ys (m.map dMv)
  h3 : H D3 = some (.lst zs)
  t3 : LsAt H zs rs
  nd : zs.Nodup
  P : Pool H p q is
  n : (D1 ≠ p ∧ D2 ≠ p ∧ D3 ≠ p) ∧ (D1 ≠ q ∧ D2 ≠ q ∧ D3 ≠ q) ∧ (D1 ≠ D2 ∧ D1 ≠ D3 ∧ D2 ≠ D3)
  nz : ∀ l, .ref l ∈ zs → (l ≠ p ∧ l ≠ q) ∧ l ≠ D1 ∧ l ≠ D2 ∧ l ≠ D3
section
variable {H H' : Hp} {p q D1 D2 D3 : Addr} {is : List Int} {s : List Int} {m : List (Int × Int)} {rs : List (List (Str × Int))} {ys zs : List V}
theorem OS.draw (h : OS H p q D1 D2 D3 is s m rs ys zs) (k : Keep [p] H H') (P' : Pool H' p q is) : OS H' p q D1 D2 D3 is s m rs ys zs :=
  ⟨k _ _ h.h1 (by simpa using h.n.1.1), k _ _ h.h2 (by simpa using h.n.1.2.1), h.t2.tk (h.P.tkp k), k _ _ h.h3 (by simpa using h.n.1.2.2), h.t3.kept (h.P.tkp k) fun l us hl e => k _ _ e (by simpa using (h.nz l hl).1.1), h.nd, P', h.n, h.nz⟩
theorem OS.keep (h : OS H p q D1 D2 D3 is s m rs ys zs) (k : Keep [] H H') : OS H' p q D1 D2 D3 is s m rs ys zs := h.draw (k.mono (by simp)) (h.P.keep0 k)
/-- a store to the sizes -/
theorem OS.set1 (h : OS H p q D1 D2 D3 is s m rs ys zs) {s' : List Int} : OS (upd H D1 (.lst (s'.map V.int))) p q D1 D2 D3 is s' m rs ys zs :=
  ⟨upd_same, by rw [upd_ne h.n.2.2.1.symm]; exact h.h2, h.t2.tk (TK.lst h.h1), by rw [upd_ne h.n.2.2.2.1.symm]; exact h.h3, h.t3.kept (TK.lst h.h1) fun l us hl e => by rw [upd_ne (h.nz l hl).2.1]; exact e, h.nd, h.P.own h.n.1.1 h.n.2.1.1, h.n, h.nz⟩
theorem OS.set2 (h : OS H p q D1 D2 D3 is s m rs ys zs) {m' : List (Int × Int)} {ys' : List V} (t : TDs H ys' (m'.map dMv)) : OS (upd H D2 (.lst ys')) p q D1 D2 D3 is s m' rs ys' zs :=
  ⟨by rw [upd_ne h.n.2.2.1]; exact h.h1, upd_same, t.tk (TK.lst h.h2), by rw [upd_ne h.n.2.2.2.2.symm]; exact h.h3, h.t3.kept (TK.lst h.h2) fun l us hl e => by rw [upd_ne (h.nz l hl).2.2.1]; exact e, h.nd, h.P.own h.n.1.2.1 h.n.2.1.2.1, h.n, h.nz⟩
/-- .. to one of the codes -/
theorem OS.set3 (h : OS H p q D1 D2 D3 is s m rs ys zs) {i : Nat} {l : Addr} {us us' : List V} {c' : List (Str × Int)} (hi : zs[i]? = some (.ref l)) (hl : H l = some (.lst us)) (t : TDs H us' (c'.map dIn)) : OS (upd H l (.lst us')) p q D1 D2 D3 is s m (rs.set i c') ys zs := by
  have hz := h.nz l (List.mem_of_getElem? hi)
  refine ⟨by rw [upd_ne hz.2.1.symm]; exact h.h1, by rw [upd_ne hz.2.2.1.symm]; exact h.h2, h.t2.tk (TK.lst hl), by rw [upd_ne hz.2.2.2.symm]; exact h.h3, ⟨by rw [List.length_set]; exact h.t3.n, fun j z c hj hc => ?_⟩, h.nd, h.P.own hz.1.1 hz.1.2, h.n, h.nz⟩
  by_cases e : j = i
  · subst e
    rw [hi] at hj; cases hj
    have lt := (List.getElem?_eq_some_iff.mp hc).1
    rw [List.length_set] at lt
    rw [List.getElem?_set_self lt] at hc
    cases hc
    exact ⟨l, us', rfl, upd_same, t.tk (TK.lst hl)⟩
  · rw [List.getElem?_set_ne (fun z => e z.symm)] at hc
    obtain ⟨l2, us2, e2, h2, t2⟩ := h.t3.at_ j z c hj hc
    have ne : l2 ≠ l := fun q => by
      subst q
      rw [e2] at hj
      exact e (nodup_at h.nd hj hi)
    exact ⟨l2, us2, e2, by rw [upd_ne ne]; exact h2, t2.tk (TK.lst hl)⟩
end
def sp_other : Sp := fun vs H Q _ => ∃ p q is t r, vs = [.ref p, .ref t] ∧ Pool H p q is ∧ TD H (.ref t) (dRw r) ∧ OkRw r ∧ ∀ t' r' H', TD H' (.ref t') (dRw r') → OkRw r' → Pool H' p q is → Keep [p] H H' → Q (.ref t') H'
section
variable {P : Program} {w : World} {K : PySem.W.Frag} {mg : Str → Option Value} {base : Heap} {C_Program : Addr} {C_Numbers : Addr} {C_GameError : Addr} {C_BadText : Addr} {C_TooLarge : Addr} {C_BadMove : Addr} {C_BadCode : Addr} {f_BadCode___init : Addr} {T_NAMES : Addr}
theorem ok_other {f : Addr} {fd : FuncData} (D : C8.Def K mg "_law_other" s_law_other f fd) (b : Binds K fd ["pool", "row"] []) (T : Txt K mg C_Program C_Numbers C_GameError C_BadText C_TooLarge C_BadMove C_BadCode T_NAMES) (c_law_draw : C8.Cal P w K mg base 1 "_law_draw" sp_law_draw []) (c_law_names_of_code : C8.Cal P w K mg base 1 "_law_names_of_code" sp_names []) : C8.Cal P w K mg base 2 "_law_other" sp_other [] := by
  refine cal0 D b .nil sc_law_other (fun vs H Q E h => ?_) (fun cdv A outer s H vs Q E hr h => ?_)
  · obtain ⟨p, q, is, t, r, rfl, _⟩ := h
    rfl
  · obtain ⟨p, q, is, t, ⟨s, m, rs⟩, rfl, P0, tr, ok, k⟩ := h
    refine ⟨_, (pss_cons (ps_set (i := 2) sc_law_other.nd rfl (by first | exact Or.inl rfl | exact Or.inr rfl) (pe_c c_law_draw hr (by first | exact Nat.le_refl _ | decide | omega) rfl (pa_cons (pv 0) (pa_cons pe_int pa_nil))))
(pss_cons (ps_set (i := 3) sc_law_other.nd rfl (by first | exact Or.inl rfl | exact Or.inr rfl) (pe_callTy call_list_of (by rfl) T.n_list bo_list (pa_cons (pe_ix ix_tup (pv 1) pe_int (fun _ _ => rfl)) pa_nil)))
(pss_cons (ps_set (i := 4) sc_law_other.nd rfl (by first | exact Or.inl rfl | exact Or.inr rfl) (pe_callTy call_list_of (by rfl) T.n_list bo_list (pa_cons (pe_ix ix_tup (pv 1) pe_int (fun _ _ => rfl)) pa_nil)))
(pss_cons (ps_setLc (i := 5) (own := [("code", 7)]) (g := gName 7) (tt := tYes) rfl sc_law_other.nd rfl rfl (sw_true rfl rfl rfl (by decide +kernel)) (pi_tup (pe_ix ix_tup (pv 1) pe_int (fun _ _ => rfl))) (blkOk_by (N := ["pool", "row", "kind", "sizes", "moves", "rounds", "place", "code"]) (sc := fnScope s_law_other) (by decide +kernel)) (fun _ _ _ _ _ => pg_name (i := 7) sc_law_other.nd rfl (Or.inl rfl)) (fun _ _ _ _ _ => pts_nil) (fun _ _ _ _ _ => (pe_callTy (call_list_ofK (K := K)) (by rfl) T.n_list bo_list (pa_cons (pv 7) pa_nil))))
(pss_cut (ps_if (PW.pt (pw_and (pt_cmpR op_eq (pv 2) pe_int (nomark _)) (pw_and1 (pt_cmpR op_gt (pe_callB call_len_seq (by rfl) T.n_len bo_len (pa_cons (pv 3) pa_nil)) pe_int (nomark _)))))
  (pss_cons (ps_set (i := 6) sc_law_other.nd rfl (by first | exact Or.inl rfl | exact Or.inr rfl) (pe_c c_law_draw hr (by first | exact Nat.le_refl _ | decide | omega) rfl (pa_cons (pv 0) (pa_cons (pe_callB call_len_seq (by rfl) T.n_len bo_len (pa_cons (pv 3) pa_nil)) pa_nil))))
  (pss_one (ps_asg (pe_op op_add pe_int (pe_op op_mod (pe_callTy call_int1 (by rfl) T.n_int bo_int (pa_cons (pe_op op_add (pe_ix ix_list (pv 3) (pv 6) (fun _ _ => rfl)) (pe_c c_law_draw hr (by first | exact Nat.le_refl _ | decide | omega) rfl (pa_cons (pv 0) (pa_cons pe_int pa_nil)))) pa_nil)) pe_int)) (pg_sub (pv 3) (pv 6) set_list))))
  (pss_one (ps_if (PW.pt (pw_and (pt_cmpR op_eq (pv 2) pe_int (nomark _)) (pw_and1 (pt_cmpR op_gt (pe_callB call_len_seq (by rfl) T.n_len bo_len (pa_cons (pv 4) pa_nil)) pe_int (nomark _)))))
    (pss_cons (ps_set (i := 6) sc_law_other.nd rfl (by first | exact Or.inl rfl | exact Or.inr rfl) (pe_c c_law_draw hr (by first | exact Nat.le_refl _ | decide | omega) rfl (pa_cons (pv 0) (pa_cons (pe_callB call_len_seq (by rfl) T.n_len bo_len (pa_cons (pv 4) pa_nil)) pa_nil))))
    (pss_one (ps_asg (pe_tup (pa_cons (pe_op op_sub pe_int (pe_ix ix_tup (pe_ix ix_list (pv 4) (pv 6) (fun _ _ => rfl)) pe_int (fun _ _ => rfl))) (pa_cons (pe_op op_add pe_int (pe_c c_law_draw hr (by first | exact Nat.le_refl _ | decide | omega) rfl (pa_cons (pv 0) (pa_cons pe_int pa_nil)))) pa_nil))) (pg_sub (pv 4) (pv 6) set_list))))
    (pss_one (ps_if (pt_cmpR op_gt (pe_callB call_len_seq (by rfl) T.n_len bo_len (pa_cons (pv 5) pa_nil)) pe_int (nomark _))
      (pss_cons (ps_set (i := 7) sc_law_other.nd rfl (by first | exact Or.inl rfl | exact Or.inr rfl) (pe_ix ix_list (pv 5) (pe_c c_law_draw hr (by first | exact Nat.le_refl _ | decide | omega) rfl (pa_cons (pv 0) (pa_cons (pe_callB call_len_seq (by rfl) T.n_len bo_len (pa_cons (pv 5) pa_nil)) pa_nil))) (fun _ _ => rfl)))
      (pss_one (ps_if (pt_cmpR op_gt (pe_callB call_len_seq (by rfl) T.n_len bo_len (pa_cons (pv 7) pa_nil)) pe_int (nomark _))
        (pss_cons (ps_set (i := 6) sc_law_other.nd rfl (by first | exact Or.inl rfl | exact Or.inr rfl) (pe_c c_law_draw hr (by first | exact Nat.le_refl _ | decide | omega) rfl (pa_cons (pv 0) (pa_cons (pe_callB call_len_seq (by rfl) T.n_len bo_len (pa_cons (pv 7) pa_nil)) pa_nil))))
        (pss_one (ps_asg (pe_tup (pa_cons (pe_ix ix_list (pe_c0 c_law_names_of_code hr (by first | exact Nat.le_refl _ | decide | omega) rfl) (pe_c c_law_draw hr (by first | exact Nat.le_refl _ | decide | omega) rfl (pa_cons (pv 0) (pa_cons pe_int pa_nil))) (fun _ _ => rfl)) (pa_cons (pe_op op_mod (pe_callTy call_int1 (by rfl) T.n_int bo_int (pa_cons (pe_op op_add (pe_op op_add (pe_ix ix_tup (pe_ix ix_list (pv 7) (pv 6) (fun _ _ => rfl)) pe_int (fun _ _ => rfl)) pe_int) (pe_c c_law_draw hr (by first | exact Nat.le_refl _ | decide | omega) rfl (pa_cons (pv 0) (pa_cons pe_int pa_nil)))) pa_nil)) pe_int) pa_nil))) (pg_sub (pv 7) (pv 6) set_list))))
        pss_nil)))
      pss_nil)))))
(pss_one (ps_ret (pe_tup (pa_cons (pe_callTy call_tuple_of (by rfl) T.n_tuple bo_tuple (pa_cons (pv 3) pa_nil)) (pa_cons (pe_callTy call_tuple_of (by rfl) T.n_tuple bo_tuple (pa_cons (pv 4) pa_nil)) (pa_cons (pe_callTy call_tuple_of (by rfl) T.n_tuple bo_tuple (pa_cons (pe_lc (own := [("code", 7)]) (g := gName 7) (tt := tYes) rfl sc_law_other.nd (pi_list (pv 5)) (blkOk_by (N := ["pool", "row", "kind", "sizes", "moves", "rounds", "place", "code"]) (sc := fnScope s_law_other) (by decide +kernel)) (fun _ _ _ _ _ => pg_name (i := 7) sc_law_other.nd rfl (Or.inl rfl)) (fun _ _ _ _ _ => pts_nil) (fun _ _ _ _ _ => (pe_callTy (call_tuple_ofK (K := K)) (by rfl) T.n_tuple bo_tuple (pa_cons (pv 7) pa_nil)))) pa_nil)) pa_nil))))))))))), ?_⟩
    obtain ⟨a, b, c, as, bs, cs, ht, ha, tas, hb, tbs, hc, tcs⟩ := rw_view tr
    change TDs H as (s.map PyData.int) at tas
    change TDs H bs (m.map dMv) at tbs
    change TDs H cs (rs.map dCd) at tcs
    have eas := ints_ok tas
    subst eas
    have cl' : cs.length = rs.length := by rw [tcs.length, List.length_map]
    have sl := ok.s.1; have ml := ok.m.1; have rl := ok.r.1
    change s.length ≤ 12 at sl; change m.length ≤ 24 at ml; change rs.length ≤ 8 at rl
    refine ⟨_, rfl, p, q, is, 3, rfl, by decide, by decide, P0, fun kind H1 k0 k1 P1 K1 => ?_⟩
    have tk1 := P0.tkp K1
    have ht1 := tk1 _ _ ht
    refine ⟨_, rfl, _, _, _, _, rfl, rfl, SqT.of ht1, rfl, _, _, rfl, .inr (SqT.of (tk1 _ _ ha)), fun D1 nD1 => ?_⟩
    have F1 := Keep.new (W := []) (o := .lst (s.map V.int)) nD1
    refine ⟨_, rfl, _, _, _, _, rfl, rfl, SqT.of (F1 _ _ ht1 (by simp)), rfl, _, _, rfl, .inr (SqT.of (F1 _ _ (tk1 _ _ hb) (by simp))), fun D2 nD2 => ?_⟩
    have F2 := Keep.new (W := []) (o := .lst bs) nD2
    have F12 := F1.trans F2
    have d1p : D1 ≠ p := P1.nep nD1
    have P2 := P1.keep0 F12
    have d2p : D2 ≠ p := (P1.keep0 F1).nep nD2
    have d2q : D2 ≠ q := (P1.keep0 F1).neq nD2
    have nf1 : H D1 = none := P1.free K1 nD1
    have nf2 : H D2 = none := P1.free K1 (F1.free nD2)
    have d12 : D1 ≠ D2 := (ne_of_none (upd_same (H := H1) (a := D1) (o := .lst (s.map V.int))) nD2)
    have hD1 := F2 _ _ (upd_same (H := H1) (a := D1) (o := .lst (s.map V.int))) (by simp)
    have hD2 := upd_same (H := upd H1 D1 (.lst (s.map V.int))) (a := D2) (o := .lst bs)
    have tk2 := tk1.trans F12.tk
    have K2 := K1.trans (F12.mono (W' := [p]) (by simp))
    revert P2 hD1 hD2 tk2 K2
    generalize upd (upd H1 D1 (.lst (s.map V.int))) D2 (.lst bs) = H2
    intro P2 hD1 hD2 tk2 K2
    clear F1 F2 F12 ht1 tk1 nD2
    refine ⟨_, rfl, _, _, _, _, rfl, rfl, SqT.of (tk2 _ _ ht), rfl, c, rfl, ⟨_, SqT.of (tk2 _ _ hc)⟩, fun D3 nD3 => ?_⟩
    have d3p : D3 ≠ p := P2.nep nD3
    have d13 : D1 ≠ D3 := ne_of_none hD1 nD3
    have d23 : D2 ≠ D3 := ne_of_none hD2 nD3
    refine lc_tup (K := K) (a := c) (xs := cs) (fun i H' => ∃ zs, H' D3 = some (.lst zs) ∧ LsAt H' zs (rs.take i) ∧ zs.Nodup ∧ (∀ l, .ref l ∈ zs → l ≠ D3 ∧ H2 l = none) ∧ Keep [] H2 H') ⟨[], upd_same, ⟨by simp, fun i z c h => by simp at h⟩, List.nodup_nil, fun l h => by simp at h, Keep.new nD3⟩ ?_ ?_ ?_
    · rintro i H' _ ⟨_, _, _, _, _, kk⟩
      exact SqT.of (kk _ _ (tk2 _ _ hc) (by simp))
    · rintro i y H' hy ⟨zs, hD, tz, nd, nz, kk⟩
      obtain ⟨cd, hcd, d⟩ := td_some ((tcs.tk tk2).tk kk.tk) hy
      obtain ⟨z, us, rfl, hz, tu⟩ := td_view d
      have zl : zs.length ≤ 8 := by rw [tz.n, List.length_take]; omega
      refine ⟨rfl, yes_then ⟨_, rfl, z, us, rfl, .inr (SqT.of hz), fun l nl => ?_⟩⟩
      have hD' : upd H' l (.lst us) D3 = some (.lst zs) := by rw [upd_ne (ne_of_none hD nl)]; exact hD
      have lD : l ≠ D3 := (ne_of_none hD nl).symm
      have upk : ∀ {o : HO}, TK (upd H' l (.lst us)) (upd (upd H' l (.lst us)) D3 o) := fun {o} => TK.lst hD'
      refine ⟨_, hD', smallL (by omega), _, upd_same, ?_, ?_, fun l' hl' => ?_, (kk.then_new nl).then_own nD3⟩
      · rw [take_snoc hcd]
        exact ((tz.keep (Keep.new nl)).kept upk fun l' us' hl' h => by rw [upd_ne (nz l' hl').1]; exact h).snoc ⟨l, us, rfl, by rw [upd_ne lD]; exact upd_same, (tu.tk (TK.new nl)).tk upk⟩
      · refine List.nodup_append.mpr ⟨nd, List.nodup_cons.mpr ⟨by simp, List.nodup_nil⟩, fun v hv u hu e => ?_⟩
        rw [List.mem_singleton.mp hu] at e
        subst e
        obtain ⟨i', hi', e'⟩ := List.getElem_of_mem hv
        have e2 : (rs.take i)[i']? = some ((rs.take i)[i']'(by rw [← tz.n]; exact hi')) := List.getElem?_eq_getElem _
        obtain ⟨l', us', e3, h3, _⟩ := tz.at_ i' _ _ (by rw [List.getElem?_eq_getElem hi', e']) e2
        cases e3
        rw [nl] at h3; cases h3
      · rcases List.mem_append.mp hl' with h | h
        · exact nz l' h
        · rw [List.mem_singleton] at h; cases h; exact ⟨lD, kk.free nl⟩
    rintro H3 ⟨zs, hD3, tz, nd, nz, K3⟩
    rw [cl', List.take_length] at tz
    have P3 := P2.keep0 K3
    have K03 := K2.trans (K3.mono (W' := [p]) (by simp))
    have O3 : OS H3 p q D1 D2 D3 is s m rs bs zs := ⟨K3 _ _ hD1 (by simp), K3 _ _ hD2 (by simp), (tbs.tk tk2).tk K3.tk, hD3, tz, nd, P3, ⟨⟨d1p, d2p, d3p⟩, ⟨P1.neq nD1, d2q, P2.neq nD3⟩, d12, d13, d23⟩, fun l hl => ⟨⟨P2.nep (nz l hl).2, P2.neq (nz l hl).2⟩, (ne_of_none hD1 (nz l hl).2).symm, (ne_of_none hD2 (nz l hl).2).symm, (nz l hl).1⟩⟩
    have nfz : ∀ l, .ref l ∈ zs → H l = none := fun l hl => P2.free K2 (nz l hl).2
    clear nz nd tz hD1 hD2 hD3 tbs tcs tas d12 d13 d23
    refine ⟨fun σ H' => ∃ (s : List Int) (m : List (Int × Int)) (rs : List (List (Str × Int))) (ys zs : List V) (o6 o7 : Option V), σ = [some (.ref p), some (.ref t), some (.int kind), some (.ref D1), some (.ref D2), some (.ref D3), o6, o7] ∧ OS H' p q D1 D2 D3 is s m rs ys zs ∧ OkRw (s, m, rs) ∧ Keep [p] H H', ?_, ?_⟩
    · have stay : ∃ (s' : List Int) (m' : List (Int × Int)) (rs' : List (List (Str × Int))) (ys zs : List V) (o6 o7 : Option V), [some (.ref p), some (.ref t), some (.int kind), some (.ref D1), some (.ref D2), some (.ref D3), none, none] = [some (.ref p), some (.ref t), some (.int kind), some (.ref D1), some (.ref D2), some (.ref D3), o6, o7] ∧ OS H3 p q D1 D2 D3 is s' m' rs' ys zs ∧ OkRw (s', m', rs') ∧ Keep [p] H H3 := ⟨s, m, rs, bs, zs, none, none, rfl, O3, ok, K03⟩
      refine ⟨_, rfl, rfl, _, rfl, iteD (fun e => ⟨_, rfl, _, _, rfl, .inl (SqL.of O3.h1), _, _, rfl, rfl, _, rfl, iteD (fun e2 => ?_) (fun e2 => ?_)⟩) (fun e => ?_)⟩
      · have lt : (s.map V.int).length = s.length := List.length_map ..
        refine ⟨_, rfl, _, rfl, _, _, rfl, .inl (SqL.of O3.h1), p, q, is, _, rfl, e2, by omega, O3.P, fun pl H4 q0 q1 P4 K4 => ?_⟩
        have O4 := O3.draw K4 P4
        obtain ⟨j, rfl⟩ : ∃ j : Nat, pl = (j : Int) := ⟨pl.toNat, by omega⟩
        have hj : j < s.length := by omega
        have hx : (s.map V.int)[j]? = some (.int s[j]) := by rw [List.getElem?_map, List.getElem?_eq_getElem hj]; rfl
        refine ⟨_, rfl, _, rfl, _, _, _, _, rfl, rfl, SqL.of O4.h1, atI_nat hx, _, rfl, p, q, is, 65534, rfl, by decide, by decide, O4.P, fun u H5 u0 u1 P5 K5 => ⟨_, _, rfl, rfl, .inl ⟨_, rfl, _, _, rfl, rfl, by show (0 : Int) < 65535; decide, _, _, rfl, rfl, _, rfl, _, rfl, _, _, _, _, rfl, rfl, (O4.draw K5 P5).h1, ixN_n (by omega), ?_⟩⟩⟩
        have O5 := O4.draw K5 P5
        obtain ⟨v, ev⟩ : ∃ v : Int, v = 1 + (s[j] + u) % 65535 := ⟨_, rfl⟩
        have vb : 1 ≤ v ∧ v ≤ 65535 := by omega
        have el : (s.map V.int).set j (.int (1 + (s[j] + u) % 65535)) = (s.set j v).map V.int := by rw [ev, List.map_set]
        rw [el]
        refine ⟨s.set j v, m, rs, bs, zs, _, _, rfl, O5.set1, ok.sets j vb, ((K03.trans K4).trans K5).then_own nf1⟩
      all_goals
        refine ⟨_, rfl, rfl, _, rfl, iteD (fun e3 => ⟨_, rfl, _, _, rfl, .inl (SqL.of O3.h2), _, _, rfl, rfl, _, rfl, iteD (fun e4 => ?_) (fun e4 => ?_)⟩) (fun e3 => ?_)⟩
        · have bl := O3.t2.length
          rw [List.length_map] at bl
          refine ⟨_, rfl, _, rfl, _, _, rfl, .inl (SqL.of O3.h2), p, q, is, _, rfl, e4, by omega, O3.P, fun pl H4 q0 q1 P4 K4 => ?_⟩
          have O4 := O3.draw K4 P4
          obtain ⟨j, rfl⟩ : ∃ j : Nat, pl = (j : Int) := ⟨pl.toNat, by omega⟩
          have hj : j < bs.length := by omega
          have hx : bs[j]? = some bs[j] := List.getElem?_eq_getElem hj
          obtain ⟨mv, hmv, d⟩ := td_some O4.t2 hx
          obtain ⟨z, ez, hz⟩ := td_mv d
          rw [ez] at hx
          have mb := ok.m.2 mv (List.mem_of_getElem? hmv)
          refine ⟨_, rfl, _, rfl, _, _, _, _, rfl, rfl, SqL.of O4.h2, atI_nat hx, _, _, _, _, rfl, rfl, SqT.of hz, rfl, _, _, rfl, rfl, _, rfl, p, q, is, 8, rfl, by decide, by decide, O4.P, fun u H5 u0 u1 P5 K5 => ⟨_, _, rfl, rfl, by show 2 ≤ sizeLine; decide, fun tt ntt => ?_⟩⟩
          have K6 := Keep.new (W := []) (o := .tup [.int (3 - mv.1), .int (1 + u)]) ntt
          have O6 := (O4.draw K5 P5).keep K6
          refine ⟨_, rfl, _, rfl, _, _, _, _, rfl, rfl, O6.h2, ixN_n (by omega), s, m.set j (3 - mv.1, 1 + u), rs, _, zs, _, _, rfl, O6.set2 ?_, ok.setm j ⟨⟨by show 1 ≤ 3 - mv.1; omega, by show 3 - mv.1 ≤ 2; omega⟩, by show 1 ≤ 1 + u; omega, by show 1 + u ≤ 8; omega⟩, (((K03.trans K4).trans K5).then_new ntt).then_own nf2⟩
          rw [List.map_set]
          exact O6.t2.set j (.tup upd_same (.cons (.int _) (.cons (.int _) .nil)))
        all_goals
          refine ⟨_, rfl, _, _, rfl, .inl (SqL.of O3.h3), _, _, rfl, rfl, _, rfl, iteD (fun e5 => ?_) (fun e5 => stay)⟩
          have zl := O3.t3.n
          refine ⟨_, rfl, _, rfl, _, rfl, _, _, rfl, .inl (SqL.of O3.h3), p, q, is, _, rfl, e5, by omega, O3.P, fun pl H4 q0 q1 P4 K4 => ?_⟩
          have O4 := O3.draw K4 P4
          have K04 := K03.trans K4
          obtain ⟨i, rfl⟩ : ∃ i : Nat, pl = (i : Int) := ⟨pl.toNat, by omega⟩
          have hi : i < zs.length := by omega
          have hz0 : zs[i]? = some zs[i] := List.getElem?_eq_getElem hi
          have hc0 : rs[i]? = some (rs[i]'(by omega)) := List.getElem?_eq_getElem _
          generalize rs[i]'(by omega) = cd at hc0
          obtain ⟨l, us, ez, hl, tu⟩ := O4.t3.at_ i _ _ hz0 hc0
          rw [ez] at hz0
          have cb := ok.r.2 cd (List.mem_of_getElem? hc0)
          have ul := tu.length
          rw [List.length_map] at ul
          refine ⟨_, _, _, _, rfl, rfl, SqL.of O4.h3, atI_nat hz0, ?_⟩
          refine ⟨_, rfl, _, _, rfl, .inl (SqL.of hl), _, _, rfl, rfl, _, rfl, iteD (fun e6 => ?_) (fun e6 => ⟨s, m, rs, bs, zs, _, _, rfl, O4, ok, K04⟩)⟩
          have cbl := cb.1
          refine ⟨_, rfl, _, rfl, _, _, rfl, .inl (SqL.of hl), p, q, is, _, rfl, e6, by omega, O4.P, fun pl2 H5 q2 q3 P5 K5 => ?_⟩
          have O5 := O4.draw K5 P5
          have lz := O4.nz l (List.mem_of_getElem? hz0)
          have hl5 := K5 _ _ hl (by simpa using lz.1.1)
          have tu5 := tu.tk (O4.P.tkp K5)
          obtain ⟨j, rfl⟩ : ∃ j : Nat, pl2 = (j : Int) := ⟨pl2.toNat, by omega⟩
          have hj : j < us.length := by omega
          have hx : us[j]? = some us[j] := List.getElem?_eq_getElem hj
          obtain ⟨pr, hpr, d⟩ := td_some tu5 hx
          obtain ⟨y, ey, hy⟩ := td_in d
          rw [ey] at hx
          refine ⟨rfl, fun L H6 nL hL K6 => ?_⟩
          have O6 := O5.keep K6
          have Lp : L ≠ p := O5.P.nep nL
          refine ⟨_, rfl, p, q, is, 16, rfl, by decide, by decide, O6.P, fun v H7 v0 v1 P7 K7 => ?_⟩
          have O7 := O6.draw K7 P7
          have tk57 : TK H5 H7 := K6.tk.trans (O6.P.tkp K7)
          have hl7 := K7 _ _ (K6 _ _ hl5 (by simp)) (by simpa using lz.1.1)
          obtain ⟨nn, rfl⟩ : ∃ nn : Nat, v = (nn : Int) := ⟨v.toNat, by omega⟩
          refine ⟨_, _, _, _, rfl, rfl, SqL.of (K7 _ _ hL (by simpa using Lp)), atI_nat (nm_get nn (by omega)), _, rfl, _, rfl, _, _, _, _, rfl, rfl, SqL.of hl7, atI_nat hx, _, _, _, _, rfl, rfl, SqT.of (tk57 _ _ hy), rfl, _, _, rfl, rfl, _, rfl, p, q, is, 65535, rfl, by decide, by decide, O7.P, fun u H8 u0 u1 P8 K8 => ⟨_, _, rfl, rfl, .inl ⟨_, rfl, _, _, rfl, rfl, by show (0 : Int) < 65536; decide, by show 2 ≤ sizeLine; decide, fun tt ntt => ?_⟩⟩⟩
          have K9 := Keep.new (W := []) (o := .tup [.str (nmL.getD nn ""), .int ((pr.2 + 1 + u) % 65536)]) ntt
          have O9 := (O7.draw K8 P8).keep K9
          have hl9 := K9 _ _ (K8 _ _ hl7 (by simpa using lz.1.1)) (by simp)
          have tu9 := tu5.tk ((tk57.trans (O7.P.tkp K8)).trans K9.tk)
          have nm : nmL.getD nn "" ∈ nmL := by
            have h16 : nn < nmL.length := by have : nmL.length = 16 := rfl; omega
            rw [List.getD_eq_getElem?_getD, List.getElem?_eq_getElem h16]
            exact List.getElem_mem h16
          refine ⟨_, rfl, _, rfl, _, _, _, _, rfl, rfl, hl9, ixN_n (by omega), s, m, rs.set i (cd.set j (nmL.getD nn "", (pr.2 + 1 + u) % 65536)), bs, zs, _, _, rfl, O9.set3 hz0 hl9 ?_, ok.setr i ⟨by rw [List.length_set]; exact cb.1, fun x hx => (List.mem_or_eq_of_mem_set hx).elim (cb.2 x) fun e => ?_⟩, (((((K04.trans K5).trans (K6.mono (by simp))).trans K7).trans K8).then_new ntt).then_own (nfz l (List.mem_of_getElem? hz0))⟩
          · rw [List.map_set]
            exact tu9.set j (.tup upd_same (.cons (.str _) (.cons (.int _) .nil)))
          · rw [e]; exact ⟨nm, by show 0 ≤ (pr.2 + 1 + u) % 65536; omega, by show (pr.2 + 1 + u) % 65536 ≤ 65535; omega⟩
    rintro σ H4 ⟨s4, m4, rs4, ys4, zs4, o6, o7, rfl, O4, ok4, K4⟩
    have zl := O4.t3.n
    have rl4 : rs4.length ≤ 8 := ok4.r.1
    refine ⟨_, rfl, D1, _, rfl, .inl ⟨SqL.of O4.h1, fun t1 n1 => ?_⟩⟩
    have E1 := Keep.new (W := []) (o := .tup (s4.map V.int)) n1
    refine ⟨_, rfl, D2, _, rfl, .inl ⟨SqL.of (E1 _ _ O4.h2 (by simp)), fun t2 n2 => ?_⟩⟩
    have E2 := Keep.new (W := []) (o := .tup ys4) n2
    have E12 := E1.trans E2
    have O6 := O4.keep E12
    have g1 := E2 _ _ (upd_same (H := H4) (a := t1) (o := .tup (s4.map V.int))) (by simp)
    have g2 := upd_same (H := upd H4 t1 (.tup (s4.map V.int))) (a := t2) (o := .tup ys4)
    revert E12 O6 g1 g2
    generalize upd (upd H4 t1 (.tup (s4.map V.int))) t2 (.tup ys4) = H6
    intro E12 O6 g1 g2
    refine ⟨_, rfl, D3, rfl, ⟨_, SqL.of O6.h3⟩, fun D nD => ?_⟩
    refine lc_list (K := K) (a := D3) (xs := zs4) (fun i H' => ∃ vs, H' D = some (.lst vs) ∧ TDs H' vs ((rs4.take i).map dCd) ∧ Keep [] H6 H') ⟨[], upd_same, .nil, Keep.new nD⟩ ?_ ?_ ?_
    · rintro i H' _ ⟨_, _, _, kk⟩
      exact SqL.of (kk _ _ O6.h3 (by simp))
    · rintro i y H' hy ⟨vs, hD, tv, kk⟩
      have hi : i < rs4.length := by rw [← zl]; exact (List.getElem?_eq_some_iff.mp hy).1
      have hr' : rs4[i]? = some rs4[i] := List.getElem?_eq_getElem hi
      obtain ⟨l, us, rfl, hl, tu⟩ := O6.t3.at_ i y _ hy hr'
      have vl : vs.length = i := by rw [tv.length, List.length_map, List.length_take]; omega
      refine ⟨rfl, yes_then ⟨_, rfl, l, _, rfl, .inl ⟨SqL.of (kk _ _ hl (by simp)), fun t nt => ?_⟩⟩⟩
      have hD2 : upd H' t (.tup us) D = some (.lst vs) := by rw [upd_ne (ne_of_none hD nt)]; exact hD
      refine ⟨_, hD2, by rw [vl]; exact smallL (by omega), _, upd_same, ?_, (kk.then_new nt).then_own nD⟩
      rw [take_snoc hr', List.map_append]
      exact ((tv.tk (TK.new nt)).tk (TK.lst hD2)).snoc ((TD.tup upd_same (tu.tk (kk.tk.trans (TK.new nt)))).tk (TK.lst hD2))
    rintro H7 ⟨vs, hD7, tv7, K7⟩
    rw [zl, List.take_length] at tv7
    refine ⟨D, _, rfl, .inl ⟨SqL.of hD7, fun t3 n3 => ⟨by show 3 ≤ sizeLine; decide, fun t4 n4 => ?_⟩⟩⟩
    have E8 := Keep.new (W := []) (o := .tup vs) n3
    have E9 := Keep.new (W := []) (o := .tup [.ref t1, .ref t2, .ref t3]) n4
    have E79 := (K7.trans E8).trans E9
    refine k t4 (s4, m4, rs4) _ (.tup upd_same (.cons (.tup (E79 _ _ g1 (by simp)) (ints_td s4)) (.cons (.tup (E79 _ _ g2 (by simp)) (O6.t2.tk E79.tk)) (.cons (.tup (E9 _ _ upd_same (by simp)) (tv7.tk (E8.trans E9).tk)) .nil)))) ok4 ((O6.keep E79).P) (K4.trans ((E12.trans E79).mono (by simp)))
end

theorem cut_to (l : List Int) (k : Nat) : cutV (l.map V.int) none (some (k : Int)) = (l.take k).map V.int := by
  unfold cutV
  rw [HT.sIx_nat, HT.sIx_none]
  show ((l.map V.int).drop 0).take (min k (l.map V.int).length - 0) = _
  rw [List.drop_zero, Nat.sub_zero, List.map_take]
  rcases Nat.le_total k (l.map V.int).length with h | h
  · rw [Nat.min_eq_left h]
  · rw [Nat.min_eq_right h, List.take_length, List.take_of_length_le h]
theorem cut_from (l : List Int) (k : Nat) : cutV (l.map V.int) (some (k : Int)) none = (l.drop k).map V.int := by
  unfold cutV
  rw [HT.sIx_nat, HT.sIx_none, List.map_drop]
  rcases Nat.le_total k (l.map V.int).length with h | h
  · rw [Nat.min_eq_left h]
    rw [List.take_of_length_le (by rw [List.length_drop]; omega)]
  · rw [Nat.min_eq_right h, List.drop_of_length_le (Nat.le_refl _), List.drop_of_length_le h]; simp
theorem cells_bd (r : Rw) : ∀ c ∈ cells r, 0 ≤ c.2.1 ∧ c.2.2 ≤ 65535 := by
  intro c hc
  unfold cells at hc
  simp only [List.mem_append, List.mem_singleton, List.mem_flatMap] at hc
  rcases hc with rfl | ⟨s, _, hc⟩ | rfl | ⟨p, _, hc⟩ | rfl | ⟨cd, _, hc⟩
  · exact ⟨by simp, by simp⟩
  · simp [szC] at hc; subst hc; exact ⟨by simp, by simp⟩
  · exact ⟨by simp, by simp⟩
  · simp [mvC] at hc
    rcases hc with rfl | rfl <;> exact ⟨by simp, by simp⟩
  · exact ⟨by simp, by simp⟩
  · unfold cdC at hc
    simp only [List.mem_append, List.mem_singleton, List.mem_flatMap] at hc
    rcases hc with rfl | ⟨p, _, hc⟩
    · exact ⟨by simp, by simp⟩
    · simp [inC] at hc
      rcases hc with rfl | rfl <;> exact ⟨by simp, by simp⟩
theorem cells_pos (r : Rw) : 3 ≤ (cells r).length := by
  unfold cells
  simp only [List.length_append, List.length_singleton]; omega
structure BadAt (r : Rw) (j : Nat) (X : List Int) : Prop where
  pre : ∀ k, k < j → X[k]? = (nums r)[k]?
  at_ : ∃ w, X[j]? = some w ∧ ∀ c, (cells r)[j]? = some c → ¬ (c.2.1 ≤ w ∧ w ≤ c.2.2)
theorem BadAt.all {r : Rw} {j : Nat} {X : List Int} (h : BadAt r j X) (ok : OkRw r) (hj : j < (nums r).length) : pAll X = .error j := by
  obtain ⟨w, hw, hb⟩ := h.at_
  refine all_bad ok hj h.pre fun x c hx hc => ?_
  rw [hw] at hx
  cases hx
  exact hb c hc
theorem BadAt.of {r : Rw} {j : Nat} {X Y : List Int} (h : BadAt r j X) (e : ∀ k, k ≤ j → Y[k]? = X[k]?) : BadAt r j Y := by
  obtain ⟨w, hw, hb⟩ := h.at_
  exact ⟨fun k hk => (e k (Nat.le_of_lt hk)).trans (h.pre k hk), w, (e j (Nat.le_refl _)).trans hw, hb⟩
theorem bad_take {r : Rw} {k : Nat} (ok : OkRw r) (hk : k < (nums r).length) : pAll ((nums r).take k) = .error k := by
  refine all_bad ok hk (fun i hi => by rw [List.getElem?_take_of_lt hi]) fun x c hx _ => ?_
  rw [List.getElem?_eq_none (by rw [List.length_take]; omega)] at hx; cases hx
theorem bad_put {r : Rw} {j : Nat} {w : Int} (hj : j < (nums r).length) (hb : ∀ c, (cells r)[j]? = some c → ¬ (c.2.1 ≤ w ∧ w ≤ c.2.2)) : BadAt r j ((nums r).take j ++ [w] ++ (nums r).drop (j + 1)) := by
  have tl : ((nums r).take j).length = j := by rw [List.length_take]; omega
  refine ⟨fun k hk => ?_, w, ?_, hb⟩
  · rw [List.append_assoc, List.getElem?_append_left (by omega), List.getElem?_take_of_lt hk]
  · rw [List.append_assoc, List.getElem?_append_right (by omega), tl, Nat.sub_self]; rfl
theorem same_ref {n : Nat} {H : Hp} {a b : Addr} {e : Int} (ha : H a = some (.tup [.str "refused", .int e, .bl true])) (hb : H b = some (.tup [.str "refused", .int e, .bl true])) : SameV (n + 2) H (.ref a) (.ref b) := by
  refine .inr ⟨a, b, _, _, rfl, rfl, .inr ⟨ha, hb⟩, rfl, by show 3 ≤ sizeLine; decide, fun i x y hx hy => ?_⟩
  rw [hx] at hy; cases hy
  rcases i with _ | _ | _ | i
  · cases hx; exact .inl ⟨rfl, .inl ⟨_, rfl⟩⟩
  · cases hx; exact .inl ⟨rfl, .inr (.inl ⟨_, rfl⟩)⟩
  · cases hx; exact .inl ⟨rfl, .inr (.inr (.inl ⟨_, rfl⟩))⟩
  · simp at hx
def sp_spoilt : Sp := fun vs H Q _ => ∃ p q is R N r xs, vs = [.ref p, .ref R, .ref N] ∧ Pool H p q is ∧ OkRw r ∧ H R = some (.lst xs) ∧ TDs H xs ((cells r).map dCl) ∧ H N = some (.lst ((nums r).map V.int)) ∧ R ≠ p ∧ N ≠ p ∧ ∀ H', Pool H' p q is → Keep [p] H H' → Q (.bl true) H'
section
variable {P : Program} {w : World} {K : PySem.W.Frag} {mg : Str → Option Value} {base : Heap} {C_Program : Addr} {C_Numbers : Addr} {C_GameError : Addr} {C_BadText : Addr} {C_TooLarge : Addr} {C_BadMove : Addr} {C_BadCode : Addr} {f_BadCode___init : Addr} {T_NAMES : Addr}
theorem ok_spoilt {f : Addr} {fd : FuncData} (D : C8.Def K mg "_law_spoilt" s_law_spoilt f fd) (b : Binds K fd ["pool", "rows", "numbers"] []) (T : Txt K mg C_Program C_Numbers C_GameError C_BadText C_TooLarge C_BadMove C_BadCode T_NAMES) {n : Nat} (c_law_draw : C8.Cal P w K mg base 1 "_law_draw" sp_law_draw []) (c_law_number : C8.Cal P w K mg base 2 "_law_number" sp_law_number []) (c_law_read : C8.Cal P w K mg base 6 "_law_read" sp_lread []) (c_law_beyond : C8.Cal P w K mg base 2 "_law_beyond" sp_bey [])
    (c_law_same : C8.Cal P w K mg base 6 "_law_same" (sp_law_same (n + 2)) []) : C8.Cal P w K mg base 7 "_law_spoilt" sp_spoilt [] := by
  refine cal0 D b .nil sc_law_spoilt (fun vs H Q E h => ?_) (fun cdv A outer s H vs Q E hr h => ?_)
  · obtain ⟨p, q, is, R, N, r, xs, rfl, _⟩ := h
    rfl
  · obtain ⟨p, q, is, R, N, r, xs, rfl, P0, ok, hR, tR, hN, Rp, Np, kq⟩ := h
    refine ⟨_, (pss_cons (ps_set (i := 3) sc_law_spoilt.nd rfl (by first | exact Or.inl rfl | exact Or.inr rfl) (pe_c c_law_draw hr (by first | exact Nat.le_refl _ | decide | omega) rfl (pa_cons (pv 0) (pa_cons (pe_callB call_len_seq (by rfl) T.n_len bo_len (pa_cons (pv 2) pa_nil)) pa_nil))))
(pss_cons (ps_if (pt_not (pt_val (pe_c c_law_same hr (by first | exact Nat.le_refl _ | decide | omega) rfl (pa_cons (pe_c c_law_read hr (by first | exact Nat.le_refl _ | decide | omega) rfl (pa_cons (pe_slice sl_list (pv 2) po_none (po_some (pv 3))) pa_nil)) (pa_cons (pe_tup (pa_cons pe_str (pa_cons (pv 3) (pa_cons pe_bl pa_nil)))) pa_nil)))))
  (pss_one (ps_ret pe_bl))
  pss_nil)
(pss_cons (ps_if (pt_not (pt_val (pe_c c_law_same hr (by first | exact Nat.le_refl _ | decide | omega) rfl (pa_cons (pe_c c_law_read hr (by first | exact Nat.le_refl _ | decide | omega) rfl (pa_cons (pe_op op_cat (pv 2) (pe_lst (pa_cons (pe_c c_law_number hr (by first | exact Nat.le_refl _ | decide | omega) rfl (pa_cons (pv 0) pa_nil)) pa_nil))) pa_nil)) (pa_cons (pe_tup (pa_cons pe_str (pa_cons (pe_callB call_len_seq (by rfl) T.n_len bo_len (pa_cons (pv 2) pa_nil)) (pa_cons pe_bl pa_nil)))) pa_nil)))))
  (pss_one (ps_ret pe_bl))
  pss_nil)
(pss_cons (ps_set (i := 4) sc_law_spoilt.nd rfl (by first | exact Or.inl rfl | exact Or.inr rfl) (pe_c c_law_draw hr (by first | exact Nat.le_refl _ | decide | omega) rfl (pa_cons (pv 0) (pa_cons (pe_callB call_len_seq (by rfl) T.n_len bo_len (pa_cons (pv 2) pa_nil)) pa_nil))))
(pss_cons (ps_set (i := 5) sc_law_spoilt.nd rfl (by first | exact Or.inl rfl | exact Or.inr rfl) (pe_c c_law_beyond hr (by first | exact Nat.le_refl _ | decide | omega) rfl (pa_cons (pv 0) (pa_cons (pe_ix ix_tup (pe_ix ix_list (pv 1) (pv 4) (fun _ _ => rfl)) pe_int (fun _ _ => rfl)) (pa_cons (pe_ix ix_tup (pe_ix ix_list (pv 1) (pv 4) (fun _ _ => rfl)) pe_int (fun _ _ => rfl)) pa_nil)))))
(pss_cons (ps_set (i := 6) sc_law_spoilt.nd rfl (by first | exact Or.inl rfl | exact Or.inr rfl) (pe_op op_cat (pe_op op_cat (pe_slice sl_list (pv 2) po_none (po_some (pv 4))) (pe_lst (pa_cons (pv 5) pa_nil))) (pe_slice sl_list (pv 2) (po_some (pe_op op_add (pv 4) pe_int)) po_none)))
(pss_cons (ps_set (i := 7) sc_law_spoilt.nd rfl (by first | exact Or.inl rfl | exact Or.inr rfl) (pe_op op_add (pe_op op_add (pv 4) pe_int) (pe_c c_law_draw hr (by first | exact Nat.le_refl _ | decide | omega) rfl (pa_cons (pv 0) (pa_cons (pe_op op_sub (pe_callB call_len_seq (by rfl) T.n_len bo_len (pa_cons (pv 2) pa_nil)) (pv 4)) pa_nil)))))
(pss_cons (ps_set (i := 8) sc_law_spoilt.nd rfl (by first | exact Or.inl rfl | exact Or.inr rfl) (pe_op op_cat (pe_op op_cat (pe_slice sl_list (pv 6) po_none (po_some (pv 7))) (pe_lst (pa_cons (pe_c c_law_beyond hr (by first | exact Nat.le_refl _ | decide | omega) rfl (pa_cons (pv 0) (pa_cons pe_int (pa_cons pe_int pa_nil)))) pa_nil))) (pe_slice sl_list (pv 6) (po_some (pe_op op_add (pv 7) pe_int)) po_none)))
(pss_cons (ps_for PassesOwn.never rfl (pi_tup (pe_tup (pa_cons (pv 6) (pa_cons (pe_slice sl_list (pv 6) po_none (po_some (pv 7))) (pa_cons (pe_op op_cat (pv 6) (pe_lst (pa_cons pe_int pa_nil))) (pa_cons (pv 8) pa_nil)))))) (pg_name (i := 9) sc_law_spoilt.nd rfl (by first | exact Or.inl rfl | exact Or.inr rfl))
  (pss_one (ps_if (pt_not (pt_val (pe_c c_law_same hr (by first | exact Nat.le_refl _ | decide | omega) rfl (pa_cons (pe_c c_law_read hr (by first | exact Nat.le_refl _ | decide | omega) rfl (pa_cons (pv 9) pa_nil)) (pa_cons (pe_tup (pa_cons pe_str (pa_cons (pv 4) (pa_cons pe_bl pa_nil)))) pa_nil)))))
    (pss_one (ps_ret pe_bl))
    pss_nil)))
(pss_one (ps_ret pe_bl))))))))))), ?_⟩
    have nl := nums_len r
    have c3 := cells_pos r
    have c5 := cells_len ok
    have ml : ((nums r).map V.int).length = (nums r).length := List.length_map ..
    refine ⟨_, rfl, _, rfl, _, _, rfl, .inl (SqL.of hN), p, q, is, _, rfl, by omega, by omega, P0, fun sz H1 s0 s1 P1 K1 => ?_⟩
    obtain ⟨k, rfl⟩ : ∃ k : Nat, sz = (k : Int) := ⟨sz.toNat, by omega⟩
    have hN1 := K1 _ _ hN (by simpa using Np)
    refine ⟨_, rfl, _, rfl, _, rfl, N, _, rfl, SqL.of hN1, fun w1 nw1 => ?_⟩
    rw [cut_to]
    have E1 := Keep.new (W := []) (o := .lst (((nums r).take k).map V.int)) nw1
    have bk := bad_take ok (k := k) (by omega)
    refine ⟨w1, _, rfl, upd_same, by rw [List.length_take]; omega, (fun r' t l a b c H' e => by rw [bk] at e; cases e), fun e t H2 he ht K2 => ?_⟩
    rw [bk] at he
    cases he
    refine ⟨_, rfl, by show 3 ≤ sizeLine; decide, fun u nu => ⟨_, _, rfl, same_ref (Keep.new (W := []) nu _ _ ht (by simp)) upd_same, _, rfl, iteF ?_⟩⟩
    have K12 := (E1.trans K2).then_new (o := .tup [.str "refused", .int ((k : Nat) : Int), .bl true]) nu
    have P2 := P1.keep0 K12
    have hN2 := K12 _ _ hN1 (by simp)
    have Kp2 := K1.trans (K12.mono (W' := [p]) (by simp))
    revert P2 hN2 Kp2
    generalize upd H2 u (.tup [.str "refused", .int ((k : Nat) : Int), .bl true]) = H3
    intro P2 hN2 Kp2
    -- one number more
    refine ⟨_, rfl, _, rfl, p, q, is, rfl, P2, fun v H4 v0 v1 P4 K4 => ⟨by show 1 ≤ sizeLine; decide, fun l nlw => ?_⟩⟩
    have hN4 := K4 _ _ hN2 (by simpa using Np)
    have F1 := Keep.new (W := []) (o := .lst [.int v]) nlw
    refine ⟨N, l, _, _, rfl, rfl, F1 _ _ hN4 (by simp), upd_same, by show _ + 1 ≤ _; exact smallM (by omega), fun w2 nw2 => ?_⟩
    have F2 := Keep.new (W := []) (o := .lst ((nums r).map V.int ++ [.int v])) nw2
    have el : (nums r).map V.int ++ [V.int v] = ((nums r) ++ [v]).map V.int := by rw [List.map_append]; rfl
    rw [el] at F2 ⊢
    have bk2 := all_more ok v []
    refine ⟨w2, _, rfl, upd_same, by rw [List.length_append]; show _ + 1 ≤ _; omega, (fun r' t l a b c H' e => by rw [bk2] at e; cases e), fun e t2 H5 he ht2 K5 => ?_⟩
    rw [bk2] at he
    cases he
    have F25 := (F1.trans F2).trans K5
    have hN5 := F25 _ _ hN4 (by simp)
    refine ⟨_, rfl, _, _, rfl, .inl (SqL.of hN5), by show 3 ≤ sizeLine; decide, fun u2 nu2 => ?_⟩
    have F6 := Keep.new (W := []) (o := .tup [.str "refused", .int ((((nums r).map V.int).length : Nat) : Int), .bl true]) nu2
    have hu2 := upd_same (H := H5) (a := u2) (o := .tup [.str "refused", .int ((((nums r).map V.int).length : Nat) : Int), .bl true])
    have ht2' := F6 _ _ ht2 (by simp)
    refine ⟨_, _, rfl, same_ref (by rw [← ml] at ht2'; exact ht2') hu2, _, rfl, iteF ?_⟩
    have F26 := F25.trans F6
    have P6 := P4.keep0 F26
    have hN6 := F6 _ _ hN5 (by simp)
    have Kp6 := (Kp2.trans K4).trans (F26.mono (W' := [p]) (by simp))
    clear hu2 ht2'
    revert P6 hN6 Kp6
    generalize upd H5 u2 (.tup [.str "refused", .int ((((nums r).map V.int).length : Nat) : Int), .bl true]) = H6
    intro P6 hN6 Kp6
    clear F26 F25 F6 F2 F1
    -- the place
    refine ⟨_, rfl, _, rfl, _, _, rfl, .inl (SqL.of hN6), p, q, is, _, rfl, by omega, by omega, P6, fun pl H7 s2 s3 P7 K7 => ?_⟩
    obtain ⟨j, rfl⟩ : ∃ j : Nat, pl = (j : Int) := ⟨pl.toNat, by omega⟩
    have hj : j < (nums r).length := by omega
    have Kp7 := Kp6.trans K7
    have tk7 := P0.tkp Kp7
    have hR7 := Kp7 _ _ hR (by simpa using Rp)
    have hN7 := K7 _ _ hN6 (by simpa using Np)
    have xl := tR.length
    rw [List.length_map] at xl
    have hx : xs[j]? = some (xs[j]'(by omega)) := List.getElem?_eq_getElem _
    obtain ⟨c, hc, d⟩ := td_some (tR.tk tk7) hx
    obtain ⟨z, ez, hz⟩ := td_cl d
    rw [ez] at hx
    have bd := cells_bd r c (List.mem_of_getElem? hc)
    refine ⟨_, rfl, _, rfl, _, rfl, _, _, _, _, rfl, rfl, SqL.of hR7, atI_nat hx, _, _, _, _, rfl, rfl, SqT.of hz, rfl, _, rfl, _, rfl, _, _, _, _, rfl, rfl, SqL.of hR7, atI_nat hx, _, _, _, _, rfl, rfl, SqT.of hz, rfl, p, q, is, c.2.1, c.2.2, rfl, bd.1, bd.2, P7, fun w H8 hw P8 K8 => ?_⟩
    have hN8 := K8 _ _ hN7 (by simpa using Np)
    have Kp8 := Kp7.trans K8
    have bA := bad_put hj (w := w) fun c' hc' => by rw [hc] at hc'; cases hc'; exact hw
    -- a wrong number put there
    refine ⟨_, rfl, _, rfl, _, rfl, N, _, rfl, SqL.of hN8, fun a1 na1 => ?_⟩
    rw [cut_to]
    have G1 := Keep.new (W := []) (o := .lst (((nums r).take j).map V.int)) na1
    refine ⟨_, rfl, by show 1 ≤ sizeLine; decide, fun a2 na2 => ?_⟩
    have G2 := Keep.new (W := []) (o := .lst [.int w]) na2
    have tl : ((nums r).take j).length ≤ 5000 := by rw [List.length_take]; omega
    refine ⟨a1, a2, _, _, rfl, rfl, G2 _ _ upd_same (by simp), upd_same, by rw [List.length_map]; show _ + 1 ≤ _; exact smallM (by omega), fun a3 na3 => ?_⟩
    have G3 := Keep.new (W := []) (o := .lst (((nums r).take j).map V.int ++ [.int w])) na3
    have G13 := (G1.trans G2).trans G3
    have g3 := upd_same (H := upd (upd H8 a1 (.lst (((nums r).take j).map V.int))) a2 (.lst [.int w])) (a := a3) (o := .lst (((nums r).take j).map V.int ++ [.int w]))
    refine ⟨_, rfl, _, rfl, _, _, rfl, rfl, _, rfl, N, _, rfl, SqL.of (G13 _ _ hN8 (by simp)), fun a4 na4 => ?_⟩
    rw [show (j : Int) + 1 = ((j + 1 : Nat) : Int) from rfl, cut_from]
    have G4 := Keep.new (W := []) (o := .lst (((nums r).drop (j + 1)).map V.int)) na4
    have dl : ((nums r).drop (j + 1)).length ≤ 5000 := by rw [List.length_drop]; omega
    refine ⟨a3, a4, _, _, rfl, rfl, G4 _ _ g3 (by simp), upd_same, by rw [List.length_append, List.length_map, List.length_map]; show _ + 1 + _ ≤ _; exact smallM (by omega), fun S nS => ?_⟩
    have G5 := Keep.new (W := []) (o := .lst (((nums r).take j).map V.int ++ [.int w] ++ ((nums r).drop (j + 1)).map V.int)) nS
    have G15 := (G13.trans G4).trans G5
    have hS := upd_same (H := upd (upd (upd (upd H8 a1 (.lst (((nums r).take j).map V.int))) a2 (.lst [.int w])) a3 (.lst (((nums r).take j).map V.int ++ [.int w]))) a4 (.lst (((nums r).drop (j + 1)).map V.int))) (a := S) (o := .lst (((nums r).take j).map V.int ++ [.int w] ++ ((nums r).drop (j + 1)).map V.int))
    obtain ⟨X, eX⟩ : ∃ X, X = (nums r).take j ++ [w] ++ (nums r).drop (j + 1) := ⟨_, rfl⟩
    have eXm : ((nums r).take j).map V.int ++ [.int w] ++ ((nums r).drop (j + 1)).map V.int = X.map V.int := by rw [eX, List.map_append, List.map_append]; rfl
    have Xl : X.length = (nums r).length := by
      rw [eX, List.length_append, List.length_append, List.length_take, List.length_drop, List.length_singleton]; omega
    rw [← eX] at bA
    have Sp : S ≠ p := by
      obtain ⟨_, ho⟩ := (P8.keep0 (G13.trans G4)).some
      exact (ne_of_none ho nS).symm
    rw [eXm] at G15 hS ⊢
    revert G15 hS
    generalize upd (upd (upd (upd (upd H8 a1 (.lst (((nums r).take j).map V.int))) a2 (.lst [.int w])) a3 (.lst (((nums r).take j).map V.int ++ [.int w]))) a4 (.lst (((nums r).drop (j + 1)).map V.int))) S (.lst (X.map V.int)) = H9
    intro hS G15
    have P9 := P8.keep0 G15
    have hN9 := G15 _ _ hN8 (by simp)
    have Kp9 := Kp8.trans (G15.mono (W' := [p]) (by simp))
    clear G1 G2 G3 G4 G5 G13 g3 nS
    refine ⟨_, rfl, _, _, rfl, rfl, _, rfl, _, rfl, _, _, rfl, .inl (SqL.of hN9), _, rfl, _, _, rfl, rfl, p, q, is, _, rfl, by omega, by omega, P9, fun dd H10 d0 d1 P10 K10 => ⟨_, _, rfl, rfl, ?_⟩⟩
    obtain ⟨cn, ecn⟩ : ∃ cn : Nat, (j : Int) + 1 + dd = (cn : Int) := ⟨((j : Int) + 1 + dd).toNat, by omega⟩
    show gName 7 (V.int ((j : Int) + 1 + dd)) _ _ _
    rw [ecn]
    have cn1 : j < cn ∧ cn ≤ (nums r).length := by omega
    have hS10 := K10 _ _ hS (by simpa using Sp)
    have Kp10 := Kp9.trans K10
    -- a second wrong number
    refine ⟨_, rfl, _, rfl, _, rfl, S, _, rfl, SqL.of hS10, fun a1 na1 => ?_⟩
    rw [cut_to]
    have G1 := Keep.new (W := [p]) (o := .lst ((X.take cn).map V.int)) na1
    have a1p : a1 ≠ p := P10.nep na1
    refine ⟨_, rfl, p, q, is, 0, 65535, rfl, by decide, by decide, P10.new na1, fun x H11 hx' P11 K11 => ⟨by show 1 ≤ sizeLine; decide, fun a2 na2 => ?_⟩⟩
    have G2 := Keep.new (W := [p]) (o := .lst [.int x]) na2
    have h11 := K11 _ _ (upd_same (H := H10) (a := a1) (o := .lst ((X.take cn).map V.int))) (by simpa using a1p)
    have tl2 : (X.take cn).length ≤ 5000 := by rw [List.length_take]; omega
    refine ⟨a1, a2, _, _, rfl, rfl, Keep.new (W := []) na2 _ _ h11 (by simp), upd_same, by rw [List.length_map]; show _ + 1 ≤ _; exact smallM (by omega), fun a3 na3 => ?_⟩
    have G3 := Keep.new (W := [p]) (o := .lst ((X.take cn).map V.int ++ [.int x])) na3
    have K1013 := ((G1.trans K11).trans G2).trans G3
    have hS13 := K1013 _ _ hS10 (by simpa using Sp)
    have P13 := (P11.new (o := .lst [.int x]) na2).new (o := .lst ((X.take cn).map V.int ++ [.int x])) na3
    have g3 := upd_same (H := upd H11 a2 (.lst [.int x])) (a := a3) (o := .lst ((X.take cn).map V.int ++ [.int x]))
    have Kp13 := Kp10.trans K1013
    revert hS13 P13 g3 Kp13
    generalize upd (upd H11 a2 (.lst [.int x])) a3 (.lst ((X.take cn).map V.int ++ [.int x])) = H13
    intro hS13 P13 g3 Kp13
    refine ⟨_, rfl, _, rfl, _, _, rfl, rfl, _, rfl, S, _, rfl, SqL.of hS13, fun a4 na4 => ?_⟩
    rw [show (cn : Int) + 1 = ((cn + 1 : Nat) : Int) from rfl, cut_from]
    have G4 := Keep.new (W := []) (o := .lst ((X.drop (cn + 1)).map V.int)) na4
    have dl2 : (X.drop (cn + 1)).length ≤ 5000 := by rw [List.length_drop]; omega
    refine ⟨a3, a4, _, _, rfl, rfl, G4 _ _ g3 (by simp), upd_same, by rw [List.length_append, List.length_map, List.length_map]; show _ + 1 + _ ≤ _; exact smallM (by omega), fun B nB => ?_⟩
    have eYm : (X.take cn).map V.int ++ [.int x] ++ (X.drop (cn + 1)).map V.int = (X.take cn ++ [x] ++ X.drop (cn + 1)).map V.int := by rw [List.map_append, List.map_append]; rfl
    rw [eYm]
    obtain ⟨Y, eY⟩ : ∃ Y, Y = X.take cn ++ [x] ++ X.drop (cn + 1) := ⟨_, rfl⟩
    rw [← eY]
    have Yl : Y.length ≤ 10001 := by rw [eY, List.length_append, List.length_append, List.length_singleton]; omega
    have xtl : (X.take cn).length = cn := by rw [List.length_take]; omega
    have bY : BadAt r j Y := bA.of fun k hk => by
      rw [eY, List.append_assoc, List.getElem?_append_left (by omega), List.getElem?_take_of_lt (by omega)]
    have bT : BadAt r j (X.take cn) := bA.of fun k hk => by rw [List.getElem?_take_of_lt (by omega)]
    have bO : BadAt r j (X ++ [0]) := bA.of fun k hk => by rw [List.getElem?_append_left (by omega)]
    have G5 := Keep.new (W := []) (o := .lst (Y.map V.int)) nB
    have G45 := G4.trans G5
    have hB := upd_same (H := upd H13 a4 (.lst ((X.drop (cn + 1)).map V.int))) (a := B) (o := .lst (Y.map V.int))
    have hS14 := G45 _ _ hS13 (by simp)
    have P14 := P13.keep0 G45
    have Kp14 := Kp13.trans (G45.mono (W' := [p]) (by simp))
    revert hB hS14 P14 Kp14
    generalize upd (upd H13 a4 (.lst ((X.drop (cn + 1)).map V.int))) B (.lst (Y.map V.int)) = H14
    intro hB hS14 P14 Kp14
    clear G4 G5 G45 nB G1 G2 G3
    -- the four
    refine ⟨_, rfl, _, rfl, _, rfl, _, rfl, S, _, rfl, SqL.of hS14, fun b1 nb1 => ?_⟩
    rw [cut_to]
    have G1 := Keep.new (W := []) (o := .lst ((X.take cn).map V.int)) nb1
    refine ⟨_, rfl, by show 1 ≤ sizeLine; decide, fun b2 nb2 => ?_⟩
    have G2 := Keep.new (W := []) (o := .lst [.int 0]) nb2
    refine ⟨S, b2, _, _, rfl, rfl, (G1.trans G2) _ _ hS14 (by simp), upd_same, by rw [List.length_map]; show _ + 1 ≤ _; exact smallM (by omega), fun b3 nb3 => ?_⟩
    have eO : X.map V.int ++ [V.int 0] = (X ++ [0]).map V.int := by rw [List.map_append]; rfl
    rw [eO]
    have G3 := Keep.new (W := []) (o := .lst ((X ++ [0]).map V.int)) nb3
    refine ⟨_, rfl, by show 4 ≤ sizeLine; decide, fun tt ntt => ?_⟩
    have G4 := Keep.new (W := []) (o := .tup [.ref S, .ref b1, .ref b3, .ref B]) ntt
    have G23 := G2.trans G3
    have G14 := (G1.trans G23).trans G4
    have g1 := (G23.trans G4) _ _ (upd_same (H := H14) (a := b1) (o := .lst ((X.take cn).map V.int))) (by simp)
    have g3 := G4 _ _ (upd_same (a := b3) (o := .lst ((X ++ [0]).map V.int))) (by simp)
    have gt := upd_same (H := upd (upd (upd H14 b1 (.lst ((X.take cn).map V.int))) b2 (.lst [.int 0])) b3 (.lst ((X ++ [0]).map V.int))) (a := tt) (o := .tup [.ref S, .ref b1, .ref b3, .ref B])
    have gS := G14 _ _ hS14 (by simp)
    have gB := G14 _ _ hB (by simp)
    revert g1 g3 gt gS gB G14
    generalize upd (upd (upd (upd H14 b1 (.lst ((X.take cn).map V.int))) b2 (.lst [.int 0])) b3 (.lst ((X ++ [0]).map V.int))) tt (.tup [.ref S, .ref b1, .ref b3, .ref B]) = H15
    intro G14 g1 g3 gt gS gB
    have four : ∀ (i : Nat) (v : V), [V.ref S, .ref b1, .ref b3, .ref B][i]? = some v → ∃ g Z, v = .ref g ∧ H15 g = some (.lst (Z.map V.int)) ∧ Z.length ≤ 1000000 ∧ BadAt r j Z := fun i v hv => by
      rcases i with _ | _ | _ | _ | i
      · cases hv; exact ⟨S, X, rfl, gS, by omega, bA⟩
      · cases hv; exact ⟨b1, _, rfl, g1, by omega, bT⟩
      · cases hv; exact ⟨b3, _, rfl, g3, by rw [List.length_append, List.length_singleton]; omega, bO⟩
      · cases hv; exact ⟨B, Y, rfl, gB, by omega, bY⟩
      · simp at hv
    refine ⟨tt, rfl, ⟨_, SqT.of gt⟩, for_tup (K := K) (a := tt) (xs := [.ref S, .ref b1, .ref b3, .ref B]) (fun (i : Nat) (σ : List (Option V)) (H' : Hp) => ∃ o9 : Option V, σ = [some (.ref p), some (.ref R), some (.ref N), some (.int (k : Int)), some (.int (j : Int)), some (.int w), some (.ref S), some (.int (cn : Int)), some (.ref B), o9] ∧ Keep [] H15 H') ⟨none, rfl, Keep.refl _ _⟩ ?_ ?_ ?_⟩
    · rintro i σ H' _ ⟨o9, rfl, kk⟩
      exact SqT.of (kk _ _ gt (by simp))
    · rintro i y σ H' hy ⟨o9, rfl, kk⟩
      obtain ⟨g, Z, rfl, hg, Zl, bZ⟩ := four i y hy
      have bz := bZ.all ok hj
      refine ⟨_, rfl, g, Z, rfl, kk _ _ hg (by simp), Zl, (fun r' t l a b c H' e => by rw [bz] at e; cases e), fun e t H2 he ht K2 => ?_⟩
      rw [bz] at he
      cases he
      exact ⟨_, rfl, by show 3 ≤ sizeLine; decide, fun u nu => ⟨_, _, rfl, same_ref (Keep.new (W := []) nu _ _ ht (by simp)) upd_same, _, rfl, iteF ⟨_, rfl, (kk.trans K2).then_new nu⟩⟩⟩
    · rintro σ H' ⟨o9, rfl, kk⟩
      exact kq H' ((P14.keep0 G14).keep0 kk) (Kp14.trans ((G14.trans kk).mono (by simp)))
end

/-- a raising def that does not raise here -/
theorem calNr {P : Program} {w : World} {K : PySem.W.Frag} {mg : Str → Option Value} {base : Heap} {k : Nat} {x : Str} {sp : Sp} {dvs : List V} (c : CalX P w K mg base k x sp dvs) : C8.Cal P w K mg base k x (fun vs H Q _ => sp vs H Q C8.E0) dvs := by
  obtain ⟨f, fd, ps, ds, F, r⟩ := c.ex
  refine ⟨f, fd, ps, ds, ⟨fun vs H Q E h => F.len _ _ _ _ h, fun A outer s H args us vs Q E hr e0 hb hv h => codeAny_mono (F.run A outer s H args us vs Q C8.E0 hr e0 hb hv h) fun r s' q => ?_⟩, r⟩
  cases r with
  | ok f => cases f <;> exact q
  | error e =>
    obtain ⟨_, _, _, _, _, _, _, _, _, _, _, _, z⟩ := q
    exact z.elim
theorem same_int {n : Nat} {H : Hp} (i : Int) : SameV (n + 1) H (.int i) (.int i) := .inl ⟨rfl, .inr (.inl ⟨i, rfl⟩)⟩
theorem same_str {n : Nat} {H : Hp} (x : Str) : SameV (n + 1) H (.str x) (.str x) := .inl ⟨rfl, .inl ⟨x, rfl⟩⟩
theorem same_bl {n : Nat} {H : Hp} (b : Bool) : SameV (n + 1) H (.bl b) (.bl b) := .inl ⟨rfl, .inr (.inr (.inl ⟨b, rfl⟩))⟩
theorem same_tup {α : Type} {f : α → PyData} {l : List α} {n : Nat} {H : Hp} {u v : V} (hu : TD H u (.tuple (l.map f))) (hv : TD H v (.tuple (l.map f))) (hl : l.length ≤ 1000000) (h : ∀ x ∈ l, ∀ u v, TD H u (f x) → TD H v (f x) → SameV n H u v) : SameV (n + 1) H u v := by
  obtain ⟨a, xs, rfl, ha, ta⟩ := td_view hu
  obtain ⟨b, ys, rfl, hb, tb⟩ := td_view hv
  have xl := ta.length
  have yl := tb.length
  rw [List.length_map] at xl yl
  refine .inr ⟨a, b, xs, ys, rfl, rfl, .inr ⟨ha, hb⟩, by omega, smallM (by omega), fun i x y hx hy => ?_⟩
  obtain ⟨c, hc, dx⟩ := td_some ta hx
  obtain ⟨c', hc', dy⟩ := td_some tb hy
  rw [hc] at hc'; cases hc'
  exact h c (List.mem_of_getElem? hc) x y dx dy
theorem same_sz {n : Nat} {H : Hp} {u v : V} {l : List Int} (hu : TD H u (.tuple (l.map PyData.int))) (hv : TD H v (.tuple (l.map PyData.int))) (hl : l.length ≤ 1000000) : SameV (n + 2) H u v :=
  same_tup hu hv hl fun x _ u v a b => by cases a; cases b; exact same_int x
theorem same_pair {n : Nat} {H : Hp} {a b : Addr} {x y : V} (ha : H a = some (.tup [x, y])) (hb : H b = some (.tup [x, y])) (hx : SameV n H x x) (hy : SameV n H y y) : SameV (n + 1) H (.ref a) (.ref b) :=
  .inr ⟨a, b, _, _, rfl, rfl, .inr ⟨ha, hb⟩, rfl, by show 2 ≤ sizeLine; decide, fun i u v hu hv => by
    rw [hu] at hv; cases hv
    rcases i with _ | _ | i
    · cases hu; exact hx
    · cases hu; exact hy
    · simp at hu⟩
theorem same_mv {n : Nat} {H : Hp} {u v : V} {l : List (Int × Int)} (hu : TD H u (.tuple (l.map dMv))) (hv : TD H v (.tuple (l.map dMv))) (hl : l.length ≤ 1000000) : SameV (n + 3) H u v :=
  same_tup hu hv hl fun x _ u v a b => by
    obtain ⟨z, rfl, hz⟩ := td_mv a
    obtain ⟨z', rfl, hz'⟩ := td_mv b
    exact same_pair hz hz' (same_int _) (same_int _)
theorem same_cd {n : Nat} {H : Hp} {u v : V} {l : List (List (Str × Int))} (hu : TD H u (.tuple (l.map dCd))) (hv : TD H v (.tuple (l.map dCd))) (hl : l.length ≤ 1000000) (hc : ∀ c ∈ l, c.length ≤ 300) : SameV (n + 4) H u v :=
  same_tup hu hv hl fun c hcl u v a b => same_tup a b (Nat.le_trans (hc c hcl) (by decide)) fun x _ u v a b => by
    obtain ⟨z, rfl, hz⟩ := td_in a
    obtain ⟨z', rfl, hz'⟩ := td_in b
    exact same_pair hz hz' (same_str _) (same_int _)
theorem same_three {n : Nat} {H : Hp} {l l' : Addr} {u v x u' v' x' : V} {r : Rw} (ok : OkRw r) (hl : H l = some (.lst [u, v, x])) (hl' : H l' = some (.lst [u', v', x'])) (a : TD H u (.tuple (r.1.map PyData.int))) (a' : TD H u' (.tuple (r.1.map PyData.int)))
    (b : TD H v (.tuple (r.2.1.map dMv))) (b' : TD H v' (.tuple (r.2.1.map dMv))) (c : TD H x (.tuple (r.2.2.map dCd))) (c' : TD H x' (.tuple (r.2.2.map dCd))) : SameV (n + 5) H (.ref l) (.ref l') := by
  have := ok.s.1; have := ok.m.1; have := ok.r.1
  refine .inr ⟨l, l', _, _, rfl, rfl, .inl ⟨hl, hl'⟩, rfl, by show 3 ≤ sizeLine; decide, fun i w w' hw hw' => ?_⟩
  rcases i with _ | _ | _ | i
  · cases hw; cases hw'; exact same_sz (n := n + 2) a a' (by omega)
  · cases hw; cases hw'; exact same_mv (n := n + 1) b b' (by omega)
  · cases hw; cases hw'; exact same_cd (n := n) c c' (by omega) fun c hc => (ok.r.2 c hc).1
  · simp at hw
theorem same_ints {n : Nat} {H : Hp} {a b : Addr} {l : List Int} (ha : H a = some (.lst (l.map V.int))) (hb : H b = some (.lst (l.map V.int))) (hl : l.length ≤ 1000000) : SameV (n + 2) H (.ref a) (.ref b) :=
  .inr ⟨a, b, _, _, rfl, rfl, .inl ⟨ha, hb⟩, rfl, by rw [List.length_map]; exact smallM hl, fun i u v hu hv => by
    rw [hu] at hv; cases hv
    obtain ⟨z, _, rfl⟩ := ints_get hu
    exact same_int z⟩
theorem dp_mix {K : PySem.W.Frag} {H : Hp} (x : Str) : ∀ (ys : List Int), DpAll K H (ys.map V.int ++ [.str x]) (ys.map PyData.int ++ [.str x])
  | [] => .cons (.str x) .nil
  | y :: r => .cons (.int y) (dp_mix x r)
theorem shaped_mix {x : Str} (hx : PyData.strOk x = true) (ys : List Int) : SeqAt.shaped (.list (ys.map PyData.int ++ [.str x])) = true := by
  obtain ⟨a, b⟩ := lay_allN (N := 3) (l := ys.map PyData.int ++ [.str x]) fun d hd => by
    rcases List.mem_append.mp hd with h | h
    · obtain ⟨r, hr, rfl⟩ := List.mem_map.mp h
      simp [PyData.canLay0, PyData.depth]
    · rw [List.mem_singleton.mp h]
      simp [PyData.canLay0, PyData.depth, hx]
  unfold SeqAt.shaped
  rw [Bool.and_eq_true, decide_eq_true_iff]
  simp only [PyData.canLay0, PyData.depth]
  exact ⟨a, by omega⟩
def sp_law (K : PySem.W.Frag) : Sp := fun vs H Q _ => ∃ (a : Addr) (ns : List Int), vs = [.ref a] ∧ SqL K H a (ns.map V.int) ∧ ∀ H', Q (.bl true) H'
section
variable {P : Program} {w : World} {K : PySem.W.Frag} {mg : Str → Option Value} {base : Heap} {C_Program : Addr} {C_Numbers : Addr} {C_GameError : Addr} {C_BadText : Addr} {C_TooLarge : Addr} {C_BadMove : Addr} {C_BadCode : Addr} {f_BadCode___init : Addr} {T_NAMES : Addr}
theorem ok_law {f : Addr} {fd : FuncData} (F : C8.Fun K "law" "law" s_law f fd) (T : Txt K mg C_Program C_Numbers C_GameError C_BadText C_TooLarge C_BadMove C_BadCode T_NAMES) (c_law_pool : C8.Cal P w K mg base 1 "_law_pool" (sp_law_pool K) []) (c_law_draw : C8.Cal P w K mg base 1 "_law_draw" sp_law_draw []) (c_law_row : C8.Cal P w K mg base 3 "_law_row" sp_row []) (c_law_numbers : C8.Cal P w K mg base 2 "_law_numbers" sp_numbers []) (c_law_spoilt : C8.Cal P w K mg base 7 "_law_spoilt" sp_spoilt [])
    (c_law_other : C8.Cal P w K mg base 2 "_law_other" sp_other []) (c_law_read : C8.Cal P w K mg base 6 "_law_read" sp_lread []) (c_law_same : C8.Cal P w K mg base 6 "_law_same" (sp_law_same 6) []) (c_Program : C8.Mak P w K mg base 1 "Program" C_Program (sp_prog C_Program) []) (c_program_numbers : C8.Cal P w K mg base 1 "program_numbers" (sp_pn C_Program) [])
    (c_read_program : C8.Cal P w K mg base 5 "read_program" (fun vs H Q _ => sp_read C_Program C_BadCode vs H Q C8.E0) []) (c_Program_eq : Own P w K mg base 1 C_Program "__eq__" (sp_peq C_Program)) : FnOk P w K mg base C8.CX0 8 f fd ["script"] (sp_law K) := by
  refine C8.fn0 F sc_law (fun vs H Q E h => ?_) (fun cdv A outer s H vs Q E hr h => ?_)
  · obtain ⟨a, ns, rfl, _⟩ := h
    rfl
  · obtain ⟨sc, ns, rfl, hS, kq⟩ := h
    refine ⟨_, (pss_cons (ps_set (i := 1) sc_law.nd rfl (by first | exact Or.inl rfl | exact Or.inr rfl) (pe_c c_law_pool hr (by first | exact Nat.le_refl _ | decide | omega) rfl (pa_cons (pv 0) (pa_cons pe_int pa_nil))))
(pss_cons (ps_set (i := 2) sc_law.nd rfl (by first | exact Or.inl rfl | exact Or.inr rfl) (pe_c c_law_row hr (by first | exact Nat.le_refl _ | decide | omega) rfl (pa_cons (pv 1) pa_nil)))
(pss_cons (ps_set (i := 3) sc_law.nd rfl (by first | exact Or.inl rfl | exact Or.inr rfl) (pe_c c_law_numbers hr (by first | exact Nat.le_refl _ | decide | omega) rfl (pa_cons (pv 2) pa_nil)))
(pss_cons (ps_setLc (i := 4) (own := [("place", 7)]) (g := gName 7) (tt := tYes) rfl sc_law.nd rfl rfl (sw_true rfl rfl rfl (by decide +kernel)) (pi_list (pv 3)) (blkOk_by (N := ["script", "pool", "row", "rows", "numbers", "told", "made", "place", "code"]) (sc := fnScope s_law) (by decide +kernel)) (fun _ _ _ _ _ => pg_name (i := 7) sc_law.nd rfl (Or.inl rfl)) (fun _ _ _ _ _ => pts_nil) (fun _ _ _ _ _ => (pe_ix (ix_tupK (K := K)) (pv 7) pe_int (fun _ _ => rfl))))
(pss_cut (ps_if (PW.pt (pw_and (pt_cmpR op_eq (pe_c c_law_draw hr (by first | exact Nat.le_refl _ | decide | omega) rfl (pa_cons (pv 1) (pa_cons pe_int pa_nil))) pe_int (nomark _)) (pw_and1 (pt_not (pt_val (pe_c c_law_spoilt hr (by first | exact Nat.le_refl _ | decide | omega) rfl (pa_cons (pv 1) (pa_cons (pv 3) (pa_cons (pv 4) pa_nil)))))))))
  (pss_one (ps_ret pe_bl))
  pss_nil)
(pss_cons (ps_for PassesOwn.never rfl (pi_tup (pe_tup (pa_cons (pv 2) (pa_cons (pe_c c_law_other hr (by first | exact Nat.le_refl _ | decide | omega) rfl (pa_cons (pv 1) (pa_cons (pv 2) pa_nil))) (pa_cons (pv 2) pa_nil))))) (pg_name (i := 5) sc_law.nd rfl (by first | exact Or.inl rfl | exact Or.inr rfl))
  (pss_one (ps_if (pt_not (pt_val (pe_c c_law_same hr (by first | exact Nat.le_refl _ | decide | omega) rfl (pa_cons (pe_c c_law_read hr (by first | exact Nat.le_refl _ | decide | omega) rfl (pa_cons (pe_lc (own := [("place", 7)]) (g := gName 7) (tt := tYes) rfl sc_law.nd (pi_list (pe_c c_law_numbers hr (by first | exact Nat.le_refl _ | decide | omega) rfl (pa_cons (pv 5) pa_nil))) (blkOk_by (N := ["script", "pool", "row", "rows", "numbers", "told", "made", "place", "code"]) (sc := fnScope s_law) (by decide +kernel)) (fun _ _ _ _ _ => pg_name (i := 7) sc_law.nd rfl (Or.inl rfl)) (fun _ _ _ _ _ => pts_nil) (fun _ _ _ _ _ => (pe_ix (ix_tupK (K := K)) (pv 7) pe_int (fun _ _ => rfl)))) pa_nil)) (pa_cons (pe_tup (pa_cons pe_str (pa_cons (pe_callTy call_list_of (by rfl) T.n_list bo_list (pa_cons (pv 5) pa_nil)) (pa_cons pe_bl pa_nil)))) pa_nil)))))
    (pss_one (ps_ret pe_bl))
    pss_nil)))
(pss_cons (ps_set (i := 6) sc_law.nd rfl (by first | exact Or.inl rfl | exact Or.inr rfl) (pe_mk c_Program hr (by first | exact Nat.le_refl _ | decide | omega) rfl (pa_cons (pe_callTy call_list_of (by rfl) T.n_list bo_list (pa_cons (pe_ix ix_tup (pv 2) pe_int (fun _ _ => rfl)) pa_nil)) (pa_cons (pe_callTy call_list_of (by rfl) T.n_list bo_list (pa_cons (pe_ix ix_tup (pv 2) pe_int (fun _ _ => rfl)) pa_nil)) (pa_cons (pe_lc (own := [("code", 8)]) (g := gName 8) (tt := tYes) rfl sc_law.nd (pi_tup (pe_ix ix_tup (pv 2) pe_int (fun _ _ => rfl))) (blkOk_by (N := ["script", "pool", "row", "rows", "numbers", "told", "made", "place", "code"]) (sc := fnScope s_law) (by decide +kernel)) (fun _ _ _ _ _ => pg_name (i := 8) sc_law.nd rfl (Or.inl rfl)) (fun _ _ _ _ _ => pts_nil) (fun _ _ _ _ _ => (pe_callTy (call_list_ofK (K := K)) (by rfl) T.n_list bo_list (pa_cons (pv 8) pa_nil)))) pa_nil)))))
(pss_cons (ps_if (pt_not (pt_val (pe_c c_law_same hr (by first | exact Nat.le_refl _ | decide | omega) rfl (pa_cons (pe_lst (pa_cons (pe_fld (pv 6) rfl) (pa_cons (pe_fld (pv 6) rfl) (pa_cons (pe_fld (pv 6) rfl) pa_nil)))) (pa_cons (pe_callTy call_list_of (by rfl) T.n_list bo_list (pa_cons (pv 2) pa_nil)) pa_nil)))))
  (pss_one (ps_ret pe_bl))
  pss_nil)
(pss_cons (ps_set (i := 5) sc_law.nd rfl (by first | exact Or.inl rfl | exact Or.inr rfl) (pe_c c_program_numbers hr (by first | exact Nat.le_refl _ | decide | omega) rfl (pa_cons (pv 6) pa_nil)))
(pss_cons (ps_expr (pe_bm PySem.F.plainAttrs_list PySem.F.slot_list_append PySem.F.type_list_append mt_append (pv 5) (pa_cons pe_str pa_nil)))
(pss_cons (ps_if (PW.pt (pw_or (pt_not (pt_val (pe_c c_law_same hr (by first | exact Nat.le_refl _ | decide | omega) rfl (pa_cons (pe_c c_program_numbers hr (by first | exact Nat.le_refl _ | decide | omega) rfl (pa_cons (pv 6) pa_nil)) (pa_cons (pv 4) pa_nil))))) (pw_or1 (pt_cmpR (op_neD hr.units) (pv 5) (pe_op op_cat (pv 4) (pe_lst (pa_cons pe_str pa_nil))) (nomark _)))))
  (pss_one (ps_ret pe_bl))
  pss_nil)
(pss_cons (ps_if (pt_not (pt_val (pe_c c_law_same hr (by first | exact Nat.le_refl _ | decide | omega) rfl (pa_cons (pe_cmpR (op_own c_Program_eq hr (by first | exact Nat.le_refl _ | decide | omega)) (pe_c c_read_program hr (by first | exact Nat.le_refl _ | decide | omega) rfl (pa_cons (pe_callTy call_list_of (by rfl) T.n_list bo_list (pa_cons (pv 4) pa_nil)) pa_nil)) (pv 6) (nomark _)) (pa_cons pe_bl pa_nil)))))
  (pss_one (ps_ret pe_bl))
  pss_nil)
(pss_one (ps_ret (pe_c c_law_spoilt hr (by first | exact Nat.le_refl _ | decide | omega) rfl (pa_cons (pv 1) (pa_cons (pv 3) (pa_cons (pv 4) pa_nil)))))))))))))))))), ?_⟩
    refine ⟨_, rfl, sc, ns, 0, rfl, hS, fun p q H1 np P1 K1 => ?_⟩
    refine ⟨_, rfl, p, q, ns, rfl, P1, fun t r H2 tr ok P2 K2 => ?_⟩
    refine ⟨_, rfl, t, r, rfl, tr, ok, fun R xs H3 nR hR tR K3 => ?_⟩
    have P3 := P2.keep0 K3
    have Rp : R ≠ p := P2.nep nR
    have tr3 := tr.tk K3.tk
    have xl : xs.length = (cells r).length := by rw [tR.length, List.length_map]
    have c5 := cells_len ok
    refine ⟨_, rfl, R, rfl, ⟨_, SqL.of hR⟩, fun N nN => ?_⟩
    have Np : N ≠ p := P3.nep nN
    refine lc_list (K := K) (a := R) (xs := xs) (fun i H' => H' N = some (.lst (fs ((cells r).take i))) ∧ Keep [] H3 H') ⟨upd_same, Keep.new nN⟩ ?_ ?_ ?_
    · rintro i H' _ ⟨_, kk⟩
      exact SqL.of (kk _ _ hR (by simp))
    · rintro i y H' hy ⟨hD, kk⟩
      obtain ⟨c, hc, d⟩ := td_some (tR.tk kk.tk) hy
      obtain ⟨z, rfl, hz⟩ := td_cl d
      refine ⟨rfl, yes_then ⟨_, rfl, _, _, _, _, rfl, rfl, SqT.of hz, rfl, _, hD, by rw [fs_len, List.length_take]; exact smallL (by omega), ?_, kk.then_own nN⟩⟩
      rw [upd_same, take_snoc hc, fs_append]; rfl
    rintro H4 ⟨hN, K4⟩
    rw [xl, List.take_length] at hN
    change H4 N = some (.lst ((nums r).map V.int)) at hN
    have P4 := P3.keep0 K4
    have hR4 := K4 _ _ hR (by simp)
    have tR4 := tR.tk K4.tk
    have tr4 := tr3.tk K4.tk
    refine ⟨fun σ H' => σ = [some (.ref sc), some (.ref p), some (.ref t), some (.ref R), some (.ref N), none, none, none, none] ∧ Pool H' p q ns ∧ Keep [p] H4 H', ?_, ?_⟩
    · refine ⟨_, rfl, p, q, ns, 2, rfl, by decide, by decide, P4, fun v H5 v0 v1 P5 K5 => ⟨rfl, _, rfl, iteD (fun _ => ?_) (fun _ => ⟨rfl, P5, K5⟩)⟩⟩
      refine ⟨_, rfl, _, rfl, _, rfl, p, q, ns, R, N, r, xs, rfl, P5, ok, K5 _ _ hR4 (by simpa using Rp), tR4.tk (P4.tkp K5), K5 _ _ hN (by simpa using Np), Rp, Np, fun H6 P6 K6 => ⟨_, rfl, iteF ⟨rfl, P6, K5.trans K6⟩⟩⟩
    rintro σ H5 ⟨rfl, P5, K5⟩
    have tk5 := P4.tkp K5
    have hR5 := K5 _ _ hR4 (by simpa using Rp)
    have hN5 := K5 _ _ hN (by simpa using Np)
    have tR5 := tR4.tk tk5
    have tr5 := tr4.tk tk5
    clear hR4 hN tR4 tr4 P4
    refine ⟨_, rfl, _, rfl, _, rfl, p, q, ns, t, r, rfl, P5, tr5, ok, fun t' r' H6 tr' ok' P6 K6 => ⟨_, rfl, by show 3 ≤ sizeLine; decide, fun tt ntt => ?_⟩⟩
    have tk6 := P5.tkp K6
    have E7 := Keep.new (W := []) (o := .tup [.ref t, .ref t', .ref t]) ntt
    have hR7 := E7 _ _ (K6 _ _ hR5 (by simpa using Rp)) (by simp)
    have hN7 := E7 _ _ (K6 _ _ hN5 (by simpa using Np)) (by simp)
    have tR7 := (tR5.tk tk6).tk E7.tk
    have tr7 := (tr5.tk tk6).tk E7.tk
    have tr7' := tr'.tk E7.tk
    have P7 := P6.keep0 E7
    have htt := upd_same (H := H6) (a := tt) (o := .tup [.ref t, .ref t', .ref t])
    revert hR7 hN7 tR7 tr7 tr7' P7 htt
    generalize upd H6 tt (.tup [.ref t, .ref t', .ref t]) = H7
    intro hR7 hN7 tR7 tr7 tr7' P7 htt
    have three : ∀ (i : Nat) (v : V), [V.ref t, .ref t', .ref t][i]? = some v → ∃ g r0, v = .ref g ∧ TD H7 (.ref g) (dRw r0) ∧ OkRw r0 := fun i v hv => by
      rcases i with _ | _ | _ | i
      · cases hv; exact ⟨t, r, rfl, tr7, ok⟩
      · cases hv; exact ⟨t', r', rfl, tr7', ok'⟩
      · cases hv; exact ⟨t, r, rfl, tr7, ok⟩
      · simp at hv
    refine ⟨tt, rfl, ⟨_, SqT.of htt⟩, for_tup (K := K) (a := tt) (xs := [.ref t, .ref t', .ref t]) (fun (i : Nat) (σ : List (Option V)) (H' : Hp) => ∃ o5 : Option V, σ = [some (.ref sc), some (.ref p), some (.ref t), some (.ref R), some (.ref N), o5, none, none, none] ∧ Keep [] H7 H') ⟨none, rfl, Keep.refl _ _⟩ ?_ ?_ ?_⟩
    · rintro i σ H' _ ⟨o5, rfl, kk⟩
      exact SqT.of (kk _ _ htt (by simp))
    · rintro i y σ H8 hy ⟨o5, rfl, k8⟩
      obtain ⟨g, r0, rfl, tg, ok0⟩ := three i y hy
      have c50 := cells_len ok0
      refine ⟨_, rfl, g, r0, rfl, tg.tk k8.tk, ok0, fun l us H9 nl hl tu K9 => ⟨l, rfl, ⟨_, SqL.of hl⟩, fun D nD => ?_⟩⟩
      have ul : us.length = (cells r0).length := by rw [tu.length, List.length_map]
      refine lc_list (K := K) (a := l) (xs := us) (fun i H' => H' D = some (.lst (fs ((cells r0).take i))) ∧ Keep [] H9 H') ⟨upd_same, Keep.new nD⟩ ?_ ?_ ?_
      · rintro i H' _ ⟨_, kk⟩
        exact SqL.of (kk _ _ hl (by simp))
      · rintro i y H' hy ⟨hD, kk⟩
        obtain ⟨c, hc, d⟩ := td_some (tu.tk kk.tk) hy
        obtain ⟨z, rfl, hz⟩ := td_cl d
        refine ⟨rfl, yes_then ⟨_, rfl, _, _, _, _, rfl, rfl, SqT.of hz, rfl, _, hD, by rw [fs_len, List.length_take]; exact smallL (by omega), ?_, kk.then_own nD⟩⟩
        rw [upd_same, take_snoc hc, fs_append]; rfl
      rintro H10 ⟨hD, K10⟩
      rw [ul, List.take_length] at hD
      have ao := all_ok ok0
      refine ⟨D, nums r0, rfl, hD, by rw [nums_len]; omega, fun r1 u l1 a b c H11 e hu hl1 ta tb tc K11 => ?_, fun e u H' h => by rw [ao] at h; cases h⟩
      rw [ao] at e
      cases e
      have k11 := ((k8.trans K9).trans K10).trans K11
      obtain ⟨a', b', c', as, bs, cs, hg, ha, tas, hb, tbs, hc, tcs⟩ := rw_view (tg.tk k11.tk)
      refine ⟨_, rfl, _, _, rfl, .inr (SqT.of hg), fun l2 nl2 => ⟨by show 3 ≤ sizeLine; decide, fun u2 nu2 => ?_⟩⟩
      have G1 := Keep.new (W := []) (o := .lst [.ref a', .ref b', .ref c']) nl2
      have G2 := Keep.new (W := []) (o := .tup [.str "read", .ref l2, .bl true]) nu2
      have G12 := G1.trans G2
      refine ⟨_, _, rfl, .inr ⟨u, u2, _, _, rfl, rfl, .inr ⟨G12 _ _ hu (by simp), upd_same⟩, rfl, by show 3 ≤ sizeLine; decide, fun i w w' hw hw' => ?_⟩, _, rfl, iteF ⟨_, rfl, k11.trans G12⟩⟩
      rcases i with _ | _ | _ | i
      · cases hw; cases hw'; exact same_str _
      · cases hw; cases hw'
        exact same_three (n := 0) ok0 (G12 _ _ hl1 (by simp)) (G2 _ _ upd_same (by simp)) (ta.tk G12.tk) (.tup (G12 _ _ ha (by simp)) (tas.tk G12.tk)) (tb.tk G12.tk) (.tup (G12 _ _ hb (by simp)) (tbs.tk G12.tk)) (tc.tk G12.tk) (.tup (G12 _ _ hc (by simp)) (tcs.tk G12.tk))
      · cases hw; cases hw'; exact same_bl _
      · simp at hw
    rintro σ H8 ⟨o5, rfl, k8⟩
    have hR8 := k8 _ _ hR7 (by simp)
    have hN8 := k8 _ _ hN7 (by simp)
    have tR8 := tR7.tk k8.tk
    have tr8 := tr7.tk k8.tk
    have P8 := P7.keep0 k8
    clear three hR7 hN7 tR7 tr7 tr7' P7 htt k8 hR5 hN5 tR5 tr5
    -- the program made
    obtain ⟨a, b, c, as, bs, cs, ht, ha, tas, hb, tbs, hc, tcs⟩ := rw_view tr8
    have eas := ints_ok tas
    subst eas
    have cl' : cs.length = r.2.2.length := by rw [tcs.length, List.length_map]
    have sl := ok.s.1; have ml := ok.m.1; have rl := ok.r.1
    refine ⟨_, rfl, _, _, _, _, rfl, rfl, SqT.of ht, rfl, _, _, rfl, .inr (SqT.of ha), fun D1 nD1 => ?_⟩
    have F1 := Keep.new (W := []) (o := .lst (r.1.map V.int)) nD1
    refine ⟨_, rfl, _, _, _, _, rfl, rfl, SqT.of (F1 _ _ ht (by simp)), rfl, _, _, rfl, .inr (SqT.of (F1 _ _ hb (by simp))), fun D2 nD2 => ?_⟩
    have F2 := Keep.new (W := []) (o := .lst bs) nD2
    have F12 := F1.trans F2
    have hD1 := F2 _ _ (upd_same (H := H8) (a := D1) (o := .lst (r.1.map V.int))) (by simp)
    have hD2 := upd_same (H := upd H8 D1 (.lst (r.1.map V.int))) (a := D2) (o := .lst bs)
    revert F12 hD1 hD2
    generalize upd (upd H8 D1 (.lst (r.1.map V.int))) D2 (.lst bs) = H9
    intro F12 hD1 hD2
    refine ⟨_, rfl, _, _, _, _, rfl, rfl, SqT.of (F12 _ _ ht (by simp)), rfl, c, rfl, ⟨_, SqT.of (F12 _ _ hc (by simp))⟩, fun D3 nD3 => ?_⟩
    refine lc_tup (K := K) (a := c) (xs := cs) (fun i H' => ∃ zs, H' D3 = some (.lst zs) ∧ LsAt H' zs (r.2.2.take i) ∧ (∀ l, .ref l ∈ zs → l ≠ D3) ∧ Keep [] H9 H') ⟨[], upd_same, ⟨by simp, fun i z c h => by simp at h⟩, fun l h => by simp at h, Keep.new nD3⟩ ?_ ?_ ?_
    · rintro i H' _ ⟨_, _, _, _, kk⟩
      exact SqT.of (kk _ _ (F12 _ _ hc (by simp)) (by simp))
    · rintro i y H' hy ⟨zs, hD, tz, nz, kk⟩
      obtain ⟨cd, hcd, d⟩ := td_some ((tcs.tk F12.tk).tk kk.tk) hy
      obtain ⟨z, us, rfl, hz, tu⟩ := td_view d
      have zl : zs.length ≤ 8 := by rw [tz.n, List.length_take]; omega
      refine ⟨rfl, yes_then ⟨_, rfl, z, us, rfl, .inr (SqT.of hz), fun l nl => ?_⟩⟩
      have hD' : upd H' l (.lst us) D3 = some (.lst zs) := by rw [upd_ne (ne_of_none hD nl)]; exact hD
      have lD : l ≠ D3 := (ne_of_none hD nl).symm
      have upk : ∀ {o : HO}, TK (upd H' l (.lst us)) (upd (upd H' l (.lst us)) D3 o) := fun {o} => TK.lst hD'
      refine ⟨_, hD', smallL (by omega), _, upd_same, ?_, fun l' hl' => ?_, (kk.then_new nl).then_own nD3⟩
      · rw [take_snoc hcd]
        exact ((tz.keep (Keep.new nl)).kept upk fun l' us' hl' h => by rw [upd_ne (nz l' hl')]; exact h).snoc ⟨l, us, rfl, by rw [upd_ne lD]; exact upd_same, (tu.tk (TK.new nl)).tk upk⟩
      · rcases List.mem_append.mp hl' with h | h
        · exact nz l' h
        · rw [List.mem_singleton] at h; cases h; exact lD
    rintro H10 ⟨zs, hD3, tz, nz, K10⟩
    rw [cl', List.take_length] at tz
    refine fun g dg ng ndg _ => ?_
    have KM := Keep.made (o := .ins C_Program dg []) ng ndg
    have K810 := (F12.trans K10).trans KM
    refine ⟨g, dg, D1, D2, D3, r.1, r.2.1, r.2.2, bs, zs, rfl, upd_same, KM _ _ (K10 _ _ hD1 (by simp)) (by simp), KM _ _ (K10 _ _ hD2 (by simp)) (by simp), tbs.tk K810.tk, KM _ _ hD3 (by simp), tz.keep KM, by omega, fun H11 K11 G => ⟨rfl, ?_⟩⟩
    have K811 : Keep [] H8 H11 := fun b o h _ => K11 _ _ (K810 _ _ h (by simp)) (by
      rw [List.mem_singleton]; intro z; rw [z, (F12.trans K10).free ng] at h; cases h)
    have G : ProgAt C_Program H11 g r := G
    have hR11 := K811 _ _ hR8 (by simp)
    have hN11 := K811 _ _ hN8 (by simp)
    have tR11 := tR8.tk K811.tk
    have P11 := P8.keep0 K811
    have ht11 := K811 _ _ ht (by simp)
    have ha11 := K811 _ _ ha (by simp)
    have hb11 := K811 _ _ hb (by simp)
    have hc11 := K811 _ _ hc (by simp)
    have tb11 := tbs.tk K811.tk
    have tc11 := tcs.tk K811.tk
    clear K810 K811 KM K11 hR8 hN8 tR8 P8 ht ha hb hc tbs tcs F12 F1 F2 K10
    obtain ⟨dx, b1, b2, b3, hg, t1, t2, t3⟩ := G.ex
    refine ⟨_, rfl, g, C_Program, dx, _, _, rfl, hg, T.cl_Program, T.a_Program_sizes, rfl, _, rfl, g, C_Program, dx, _, _, rfl, hg, T.cl_Program, T.a_Program_moves, rfl, _, rfl, g, C_Program, dx, _, _, rfl, hg, T.cl_Program, T.a_Program_rounds, rfl, by show 3 ≤ sizeLine; decide, fun l1 nl1 => ?_⟩
    have G1 := Keep.new (W := []) (o := .lst [.ref b1, .ref b2, .ref b3]) nl1
    refine ⟨_, rfl, _, _, rfl, .inr (SqT.of (G1 _ _ ht11 (by simp))), fun l2 nl2 => ?_⟩
    have G2 := Keep.new (W := []) (o := .lst [.ref a, .ref b, .ref c]) nl2
    have G12 := G1.trans G2
    refine ⟨_, _, rfl, same_three (n := 1) ok (G2 _ _ upd_same (by simp)) upd_same (t1.tk G12.tk) (.tup (G12 _ _ ha11 (by simp)) (td_ints _)) (t2.tk G12.tk) (.tup (G12 _ _ hb11 (by simp)) (tb11.tk G12.tk)) (t3.tk G12.tk) (.tup (G12 _ _ hc11 (by simp)) (tc11.tk G12.tk)), _, rfl, iteF ?_⟩
    -- the numbers told
    have nl := nums_len r
    refine ⟨_, rfl, g, r, rfl, G.keep G12, ok, fun l3 H12 nl3 hl3 K12 => ?_⟩
    have K1 := G12.trans K12
    refine ⟨_, rfl, .inl ⟨rfl, _, SqL.of hl3⟩, l3, _, _, rfl, rfl, hl3, smallL (by rw [List.length_map]; omega), ?_⟩
    have K2 : Keep [] H11 (upd H12 l3 (.lst ((nums r).map V.int ++ [.str "spoilt"]))) := K1.then_own (G12.free nl3)
    have hl3' := upd_same (H := H12) (a := l3) (o := .lst ((nums r).map V.int ++ [.str "spoilt"]))
    revert K2 hl3'
    generalize upd H12 l3 (.lst ((nums r).map V.int ++ [.str "spoilt"])) = H13
    intro K2 hl3'
    refine ⟨_, rfl, g, r, rfl, G.keep K2, ok, fun l4 H14 nl4 hl4 K14 => ?_⟩
    have K3 := K2.trans K14
    have hN14 := K3 _ _ hN11 (by simp)
    refine ⟨_, rfl, _, _, rfl, same_ints hl4 hN14 (by omega), _, rfl, iteF ⟨_, rfl, _, rfl, by show 1 ≤ sizeLine; decide, fun l5 nl5 => ?_⟩⟩
    have F5 := Keep.new (W := []) (o := .lst [.str "spoilt"]) nl5
    refine ⟨N, l5, _, _, rfl, rfl, F5 _ _ hN14 (by simp), upd_same, by rw [List.length_map]; show _ + 1 ≤ _; exact smallM (by omega), fun l6 nl6 => ?_⟩
    have F6 := Keep.new (W := []) (o := .lst ((nums r).map V.int ++ [.str "spoilt"])) nl6
    have F56 := F5.trans F6
    have sh := shaped_mix (x := "spoilt") (by decide +kernel) (nums r)
    refine ⟨_, _, .lst (SqL.of (F56 _ _ (K14 _ _ hl3' (by simp)) (by simp))) (dp_mix _ _), .lst (SqL.of upd_same) (dp_mix _ _), sh, sh, ?_⟩
    rw [SeqAt.eqv_refl _ (SeqAt.canLay_of_shaped sh)]
    refine ⟨_, rfl, iteF ?_⟩
    have K4 := K3.trans F56
    revert K4
    generalize upd (upd H14 l5 (.lst [.str "spoilt"])) l6 (.lst ((nums r).map V.int ++ [.str "spoilt"])) = H15
    intro K4
    have hN15 := K4 _ _ hN11 (by simp)
    refine ⟨_, rfl, _, _, rfl, .inl (SqL.of hN15), fun l7 nl7 => ?_⟩
    have K5 := K4.then_new (o := .lst ((nums r).map V.int)) nl7
    refine ⟨l7, nums r, rfl, upd_same, by omega, fun r1 g1 H16 e ng1 G1' K16 => ?_, fun e d H' h => by rw [all_ok ok] at h; cases h⟩
    rw [all_ok ok] at e
    cases e
    have K6 := K5.trans K16
    obtain ⟨dx1, _, _, _, hg1, _⟩ := G1'.ex
    refine ⟨_, rfl, g1, g, _, _, _, _, rfl, rfl, hg1, K6 _ _ hg (by simp), g1, g, r, rfl, G1', G.keep K6, ok, _, _, rfl, same_bl true, _, rfl, iteF ?_⟩
    exact ⟨_, rfl, _, rfl, _, rfl, p, q, ns, R, N, r, xs, rfl, P11.keep0 K6, ok, K6 _ _ hR11 (by simp), tR11.tk K6.tk, K6 _ _ hN11 (by simp), Rp, Np, fun H' _ _ => kq H'⟩
end

theorem all_mk {l : PySem.W.OpenLaw} {w : World} {K : PySem.W.Frag} {h : Heap} {mg : Str → Option Value} {fa : Addr} (X : K.In h) (G : h.Ns mainGlobals mg) (hfa : mg "law" = some (.ref fa))
    {f_program_numbers : Addr} {od_program_numbers an_program_numbers : Option Addr} {sl_program_numbers : Array (Option Value)} {oc_program_numbers kV_program_numbers dc_program_numbers pm_program_numbers cd_program_numbers ct_program_numbers : Value}
    {f_read_program : Addr} {od_read_program an_read_program : Option Addr} {sl_read_program : Array (Option Value)} {oc_read_program kV_read_program dc_read_program pm_read_program cd_read_program ct_read_program : Value}
    {f_law_pool : Addr} {od_law_pool an_law_pool : Option Addr} {sl_law_pool : Array (Option Value)} {oc_law_pool kV_law_pool dc_law_pool pm_law_pool cd_law_pool ct_law_pool : Value}
    {f_law_draw : Addr} {od_law_draw an_law_draw : Option Addr} {sl_law_draw : Array (Option Value)} {oc_law_draw kV_law_draw dc_law_draw pm_law_draw cd_law_draw ct_law_draw : Value}
    {f_law_few : Addr} {od_law_few an_law_few : Option Addr} {sl_law_few : Array (Option Value)} {oc_law_few kV_law_few dc_law_few pm_law_few cd_law_few ct_law_few : Value}
    {f_law_number : Addr} {od_law_number an_law_number : Option Addr} {sl_law_number : Array (Option Value)} {oc_law_number kV_law_number dc_law_number pm_law_number cd_law_number ct_law_number : Value}
    {f_law_same : Addr} {od_law_same an_law_same : Option Addr} {sl_law_same : Array (Option Value)} {oc_law_same kV_law_same dc_law_same pm_law_same cd_law_same ct_law_same : Value}
    {f_law_names_of_code : Addr} {od_law_names_of_code an_law_names_of_code : Option Addr} {sl_law_names_of_code : Array (Option Value)} {oc_law_names_of_code kV_law_names_of_code dc_law_names_of_code pm_law_names_of_code cd_law_names_of_code ct_law_names_of_code : Value}
    {f_law_row : Addr} {od_law_row an_law_row : Option Addr} {sl_law_row : Array (Option Value)} {oc_law_row kV_law_row dc_law_row pm_law_row cd_law_row ct_law_row : Value}
    {f_law_numbers : Addr} {od_law_numbers an_law_numbers : Option Addr} {sl_law_numbers : Array (Option Value)} {oc_law_numbers kV_law_numbers dc_law_numbers pm_law_numbers cd_law_numbers ct_law_numbers : Value}
    {f_law_read : Addr} {od_law_read an_law_read : Option Addr} {sl_law_read : Array (Option Value)} {oc_law_read kV_law_read dc_law_read pm_law_read cd_law_read ct_law_read : Value}
    {f_law_beyond : Addr} {od_law_beyond an_law_beyond : Option Addr} {sl_law_beyond : Array (Option Value)} {oc_law_beyond kV_law_beyond dc_law_beyond pm_law_beyond cd_law_beyond ct_law_beyond : Value}
    {f_law_other : Addr} {od_law_other an_law_other : Option Addr} {sl_law_other : Array (Option Value)} {oc_law_other kV_law_other dc_law_other pm_law_other cd_law_other ct_law_other : Value}
    {f_law_spoilt : Addr} {od_law_spoilt an_law_spoilt : Option Addr} {sl_law_spoilt : Array (Option Value)} {oc_law_spoilt kV_law_spoilt dc_law_spoilt pm_law_spoilt cd_law_spoilt ct_law_spoilt : Value}
    {f_law : Addr} {od_law an_law : Option Addr} {sl_law : Array (Option Value)} {oc_law kV_law dc_law pm_law cd_law ct_law : Value}
    {C_Program : Addr}
    {C_Numbers : Addr}
    {f_Program___init : Addr} {od_Program___init an_Program___init : Option Addr} {sl_Program___init : Array (Option Value)} {oc_Program___init kV_Program___init dc_Program___init pm_Program___init cd_Program___init ct_Program___init : Value}
    {f_Program___eq : Addr} {od_Program___eq an_Program___eq : Option Addr} {sl_Program___eq : Array (Option Value)} {oc_Program___eq kV_Program___eq dc_Program___eq pm_Program___eq cd_Program___eq ct_Program___eq : Value}
    {f_Numbers___init : Addr} {od_Numbers___init an_Numbers___init : Option Addr} {sl_Numbers___init : Array (Option Value)} {oc_Numbers___init kV_Numbers___init dc_Numbers___init pm_Numbers___init cd_Numbers___init ct_Numbers___init : Value}
    {f_Numbers_take : Addr} {od_Numbers_take an_Numbers_take : Option Addr} {sl_Numbers_take : Array (Option Value)} {oc_Numbers_take kV_Numbers_take dc_Numbers_take pm_Numbers_take cd_Numbers_take ct_Numbers_take : Value}
    {f_Numbers_take_code : Addr} {od_Numbers_take_code an_Numbers_take_code : Option Addr} {sl_Numbers_take_code : Array (Option Value)} {oc_Numbers_take_code kV_Numbers_take_code dc_Numbers_take_code pm_Numbers_take_code cd_Numbers_take_code ct_Numbers_take_code : Value}
    {C_GameError : Addr}
    {C_BadText : Addr}
    {C_TooLarge : Addr}
    {C_BadMove : Addr}
    {C_BadCode : Addr}
    {nm_BadCode q_BadCode : Str} {N_BadCode : Addr} {bs_BadCode : List Value} {sn_BadCode : List Str} {sub_BadCode : List Value} {ab_BadCode : Bool} {col_BadCode : Option Bool} {dd_BadCode : Option Addr} {m0_BadCode m1_BadCode m2_BadCode m3_BadCode m5_BadCode : Option Value}
    {f_BadCode___init cda_BadCode___init cc_BadCode___init : Addr} {od_BadCode___init an_BadCode___init cld_BadCode___init cdd_BadCode___init : Option Addr} {sl_BadCode___init csl_BadCode___init ccs_BadCode___init : Array (Option Value)} {vs_BadCode___init : Array Value} {oc_BadCode___init dc_BadCode___init pm_BadCode___init ct_BadCode___init cl_BadCode___init ccl_BadCode___init : Value} {file_BadCode___init : Str} {tf_BadCode___init : Tok}
    {t_GREATEST : Tok}
    {T_NAMES : Addr} {nn_NAMES : Nat} {sl_NAMES : Array (Option Value)} {t_NAMES0 t_NAMES1 t_NAMES2 t_NAMES3 t_NAMES4 t_NAMES5 t_NAMES6 t_NAMES7 t_NAMES8 t_NAMES9 t_NAMES10 t_NAMES11 t_NAMES12 t_NAMES13 t_NAMES14 t_NAMES15 : Tok}
    {t_MOST_MOVES : Tok}
    {t_MOST_BRANCHINGS : Tok}
    {t_MOST_VARIABLES : Tok}
    {t_MOST_ROUNDS : Tok}
    (a_program_numbers : PySem.W.nsIn K mainGlobals "program_numbers" = some (some (.ref f_program_numbers))) (l_program_numbers : K.lookup f_program_numbers = some ⟨oc_program_numbers, od_program_numbers, .func (PySem.W.fnOf "program_numbers" "program_numbers" (fnArgs s_program_numbers) (fnBody s_program_numbers) (fnScope s_program_numbers) .none kV_program_numbers dc_program_numbers pm_program_numbers an_program_numbers cd_program_numbers ct_program_numbers), sl_program_numbers⟩) (c_program_numbers : PySem.W.codeIn K cd_program_numbers "program_numbers" = true) (k_program_numbers : PySem.W.keepIn K (.ref f_program_numbers) = true)
    (a_read_program : PySem.W.nsIn K mainGlobals "read_program" = some (some (.ref f_read_program))) (l_read_program : K.lookup f_read_program = some ⟨oc_read_program, od_read_program, .func (PySem.W.fnOf "read_program" "read_program" (fnArgs s_read_program) (fnBody s_read_program) (fnScope s_read_program) .none kV_read_program dc_read_program pm_read_program an_read_program cd_read_program ct_read_program), sl_read_program⟩) (c_read_program : PySem.W.codeIn K cd_read_program "read_program" = true) (k_read_program : PySem.W.keepIn K (.ref f_read_program) = true)
    (a_law_pool : PySem.W.nsIn K mainGlobals "_law_pool" = some (some (.ref f_law_pool))) (l_law_pool : K.lookup f_law_pool = some ⟨oc_law_pool, od_law_pool, .func (PySem.W.fnOf "_law_pool" "_law_pool" (fnArgs s_law_pool) (fnBody s_law_pool) (fnScope s_law_pool) .none kV_law_pool dc_law_pool pm_law_pool an_law_pool cd_law_pool ct_law_pool), sl_law_pool⟩) (c_law_pool : PySem.W.codeIn K cd_law_pool "_law_pool" = true) (k_law_pool : PySem.W.keepIn K (.ref f_law_pool) = true)
    (a_law_draw : PySem.W.nsIn K mainGlobals "_law_draw" = some (some (.ref f_law_draw))) (l_law_draw : K.lookup f_law_draw = some ⟨oc_law_draw, od_law_draw, .func (PySem.W.fnOf "_law_draw" "_law_draw" (fnArgs s_law_draw) (fnBody s_law_draw) (fnScope s_law_draw) .none kV_law_draw dc_law_draw pm_law_draw an_law_draw cd_law_draw ct_law_draw), sl_law_draw⟩) (c_law_draw : PySem.W.codeIn K cd_law_draw "_law_draw" = true) (k_law_draw : PySem.W.keepIn K (.ref f_law_draw) = true)
    (a_law_few : PySem.W.nsIn K mainGlobals "_law_few" = some (some (.ref f_law_few))) (l_law_few : K.lookup f_law_few = some ⟨oc_law_few, od_law_few, .func (PySem.W.fnOf "_law_few" "_law_few" (fnArgs s_law_few) (fnBody s_law_few) (fnScope s_law_few) .none kV_law_few dc_law_few pm_law_few an_law_few cd_law_few ct_law_few), sl_law_few⟩) (c_law_few : PySem.W.codeIn K cd_law_few "_law_few" = true) (k_law_few : PySem.W.keepIn K (.ref f_law_few) = true)
    (a_law_number : PySem.W.nsIn K mainGlobals "_law_number" = some (some (.ref f_law_number))) (l_law_number : K.lookup f_law_number = some ⟨oc_law_number, od_law_number, .func (PySem.W.fnOf "_law_number" "_law_number" (fnArgs s_law_number) (fnBody s_law_number) (fnScope s_law_number) .none kV_law_number dc_law_number pm_law_number an_law_number cd_law_number ct_law_number), sl_law_number⟩) (c_law_number : PySem.W.codeIn K cd_law_number "_law_number" = true) (k_law_number : PySem.W.keepIn K (.ref f_law_number) = true)
    (a_law_same : PySem.W.nsIn K mainGlobals "_law_same" = some (some (.ref f_law_same))) (l_law_same : K.lookup f_law_same = some ⟨oc_law_same, od_law_same, .func (PySem.W.fnOf "_law_same" "_law_same" (fnArgs s_law_same) (fnBody s_law_same) (fnScope s_law_same) .none kV_law_same dc_law_same pm_law_same an_law_same cd_law_same ct_law_same), sl_law_same⟩) (c_law_same : PySem.W.codeIn K cd_law_same "_law_same" = true) (k_law_same : PySem.W.keepIn K (.ref f_law_same) = true)
    (a_law_names_of_code : PySem.W.nsIn K mainGlobals "_law_names_of_code" = some (some (.ref f_law_names_of_code))) (l_law_names_of_code : K.lookup f_law_names_of_code = some ⟨oc_law_names_of_code, od_law_names_of_code, .func (PySem.W.fnOf "_law_names_of_code" "_law_names_of_code" (fnArgs s_law_names_of_code) (fnBody s_law_names_of_code) (fnScope s_law_names_of_code) .none kV_law_names_of_code dc_law_names_of_code pm_law_names_of_code an_law_names_of_code cd_law_names_of_code ct_law_names_of_code), sl_law_names_of_code⟩) (c_law_names_of_code : PySem.W.codeIn K cd_law_names_of_code "_law_names_of_code" = true) (k_law_names_of_code : PySem.W.keepIn K (.ref f_law_names_of_code) = true)
    (a_law_row : PySem.W.nsIn K mainGlobals "_law_row" = some (some (.ref f_law_row))) (l_law_row : K.lookup f_law_row = some ⟨oc_law_row, od_law_row, .func (PySem.W.fnOf "_law_row" "_law_row" (fnArgs s_law_row) (fnBody s_law_row) (fnScope s_law_row) .none kV_law_row dc_law_row pm_law_row an_law_row cd_law_row ct_law_row), sl_law_row⟩) (c_law_row : PySem.W.codeIn K cd_law_row "_law_row" = true) (k_law_row : PySem.W.keepIn K (.ref f_law_row) = true)
    (a_law_numbers : PySem.W.nsIn K mainGlobals "_law_numbers" = some (some (.ref f_law_numbers))) (l_law_numbers : K.lookup f_law_numbers = some ⟨oc_law_numbers, od_law_numbers, .func (PySem.W.fnOf "_law_numbers" "_law_numbers" (fnArgs s_law_numbers) (fnBody s_law_numbers) (fnScope s_law_numbers) .none kV_law_numbers dc_law_numbers pm_law_numbers an_law_numbers cd_law_numbers ct_law_numbers), sl_law_numbers⟩) (c_law_numbers : PySem.W.codeIn K cd_law_numbers "_law_numbers" = true) (k_law_numbers : PySem.W.keepIn K (.ref f_law_numbers) = true)
    (a_law_read : PySem.W.nsIn K mainGlobals "_law_read" = some (some (.ref f_law_read))) (l_law_read : K.lookup f_law_read = some ⟨oc_law_read, od_law_read, .func (PySem.W.fnOf "_law_read" "_law_read" (fnArgs s_law_read) (fnBody s_law_read) (fnScope s_law_read) .none kV_law_read dc_law_read pm_law_read an_law_read cd_law_read ct_law_read), sl_law_read⟩) (c_law_read : PySem.W.codeIn K cd_law_read "_law_read" = true) (k_law_read : PySem.W.keepIn K (.ref f_law_read) = true)
    (a_law_beyond : PySem.W.nsIn K mainGlobals "_law_beyond" = some (some (.ref f_law_beyond))) (l_law_beyond : K.lookup f_law_beyond = some ⟨oc_law_beyond, od_law_beyond, .func (PySem.W.fnOf "_law_beyond" "_law_beyond" (fnArgs s_law_beyond) (fnBody s_law_beyond) (fnScope s_law_beyond) .none kV_law_beyond dc_law_beyond pm_law_beyond an_law_beyond cd_law_beyond ct_law_beyond), sl_law_beyond⟩) (c_law_beyond : PySem.W.codeIn K cd_law_beyond "_law_beyond" = true) (k_law_beyond : PySem.W.keepIn K (.ref f_law_beyond) = true)
    (a_law_other : PySem.W.nsIn K mainGlobals "_law_other" = some (some (.ref f_law_other))) (l_law_other : K.lookup f_law_other = some ⟨oc_law_other, od_law_other, .func (PySem.W.fnOf "_law_other" "_law_other" (fnArgs s_law_other) (fnBody s_law_other) (fnScope s_law_other) .none kV_law_other dc_law_other pm_law_other an_law_other cd_law_other ct_law_other), sl_law_other⟩) (c_law_other : PySem.W.codeIn K cd_law_other "_law_other" = true) (k_law_other : PySem.W.keepIn K (.ref f_law_other) = true)
    (a_law_spoilt : PySem.W.nsIn K mainGlobals "_law_spoilt" = some (some (.ref f_law_spoilt))) (l_law_spoilt : K.lookup f_law_spoilt = some ⟨oc_law_spoilt, od_law_spoilt, .func (PySem.W.fnOf "_law_spoilt" "_law_spoilt" (fnArgs s_law_spoilt) (fnBody s_law_spoilt) (fnScope s_law_spoilt) .none kV_law_spoilt dc_law_spoilt pm_law_spoilt an_law_spoilt cd_law_spoilt ct_law_spoilt), sl_law_spoilt⟩) (c_law_spoilt : PySem.W.codeIn K cd_law_spoilt "_law_spoilt" = true) (k_law_spoilt : PySem.W.keepIn K (.ref f_law_spoilt) = true)
    (a_law : PySem.W.nsIn K mainGlobals "law" = some (some (.ref f_law))) (l_law : K.lookup f_law = some ⟨oc_law, od_law, .func (PySem.W.fnOf "law" "law" (fnArgs s_law) (fnBody s_law) (fnScope s_law) .none kV_law dc_law pm_law an_law cd_law ct_law), sl_law⟩) (c_law : PySem.W.codeIn K cd_law "law" = true) (k_law : PySem.W.keepIn K (.ref f_law) = true)
    (mc_Program : PySem.W.nsIn K mainGlobals "Program" = some (some (.ref C_Program)))
    (pg_Program : PySem.W.plainGet K C_Program Str.empty = true)
    (hd_Program : PySem.W.hasDictIn K C_Program = true)
    (po_Program : PySem.W.plainOver K C_Program = true)
    (sa_Program : PySem.W.findIn K (.ref C_Program) "__setattr__" = some (some (.builtin "object.__setattr__")))
    (mk_Program : PySem.W.makesIn K C_Program = true)
    (kc_Program : PySem.W.keepIn K (.ref C_Program) = true)
    (ha_Program : PySem.W.findIn K (.ref C_Program) "__class__" = some (some (.builtin "object.__class__")))
    (hn_Program : PySem.W.specialIn K (.builtin "object.__class__") "__get__" = some (some (.builtin "getset_descriptor.__get__")))
    (ht_Program : PySem.W.takesIn K (.builtin "object.__class__") = some true)
    (hm_Program : PySem.W.mroIn K C_Program (.type "object") = some true)
    (nsizes_Program : PySem.W.findIn K (.ref C_Program) "sizes" = some none)
    (nmoves_Program : PySem.W.findIn K (.ref C_Program) "moves" = some none)
    (nrounds_Program : PySem.W.findIn K (.ref C_Program) "rounds" = some none)
    (mc_Numbers : PySem.W.nsIn K mainGlobals "Numbers" = some (some (.ref C_Numbers)))
    (pg_Numbers : PySem.W.plainGet K C_Numbers Str.empty = true)
    (hd_Numbers : PySem.W.hasDictIn K C_Numbers = true)
    (po_Numbers : PySem.W.plainOver K C_Numbers = true)
    (sa_Numbers : PySem.W.findIn K (.ref C_Numbers) "__setattr__" = some (some (.builtin "object.__setattr__")))
    (mk_Numbers : PySem.W.makesIn K C_Numbers = true)
    (kc_Numbers : PySem.W.keepIn K (.ref C_Numbers) = true)
    (ha_Numbers : PySem.W.findIn K (.ref C_Numbers) "__class__" = some (some (.builtin "object.__class__")))
    (hn_Numbers : PySem.W.specialIn K (.builtin "object.__class__") "__get__" = some (some (.builtin "getset_descriptor.__get__")))
    (ht_Numbers : PySem.W.takesIn K (.builtin "object.__class__") = some true)
    (hm_Numbers : PySem.W.mroIn K C_Numbers (.type "object") = some true)
    (nnumbers_Numbers : PySem.W.findIn K (.ref C_Numbers) "numbers" = some none)
    (nat_Numbers : PySem.W.findIn K (.ref C_Numbers) "at" = some none)
    (a_Program___init : PySem.W.findIn K (.ref C_Program) "__init__" = some (some (.ref f_Program___init))) (i_Program___init : PySem.W.isFn K (.ref f_Program___init) = true) (l_Program___init : K.lookup f_Program___init = some ⟨oc_Program___init, od_Program___init, .func (PySem.W.fnOf "__init__" "Program.__init__" (fnArgs s_Program___init) (fnBody s_Program___init) (fnScope s_Program___init) .none kV_Program___init dc_Program___init pm_Program___init an_Program___init cd_Program___init ct_Program___init), sl_Program___init⟩) (c_Program___init : PySem.W.codeIn K cd_Program___init "Program.__init__" = true) (k_Program___init : PySem.W.keepIn K (.ref f_Program___init) = true)
    (a_Program___eq : PySem.W.findIn K (.ref C_Program) "__eq__" = some (some (.ref f_Program___eq))) (i_Program___eq : PySem.W.isFn K (.ref f_Program___eq) = true) (l_Program___eq : K.lookup f_Program___eq = some ⟨oc_Program___eq, od_Program___eq, .func (PySem.W.fnOf "__eq__" "Program.__eq__" (fnArgs s_Program___eq) (fnBody s_Program___eq) (fnScope s_Program___eq) .none kV_Program___eq dc_Program___eq pm_Program___eq an_Program___eq cd_Program___eq ct_Program___eq), sl_Program___eq⟩) (c_Program___eq : PySem.W.codeIn K cd_Program___eq "Program.__eq__" = true) (k_Program___eq : PySem.W.keepIn K (.ref f_Program___eq) = true)
    (a_Numbers___init : PySem.W.findIn K (.ref C_Numbers) "__init__" = some (some (.ref f_Numbers___init))) (i_Numbers___init : PySem.W.isFn K (.ref f_Numbers___init) = true) (l_Numbers___init : K.lookup f_Numbers___init = some ⟨oc_Numbers___init, od_Numbers___init, .func (PySem.W.fnOf "__init__" "Numbers.__init__" (fnArgs s_Numbers___init) (fnBody s_Numbers___init) (fnScope s_Numbers___init) .none kV_Numbers___init dc_Numbers___init pm_Numbers___init an_Numbers___init cd_Numbers___init ct_Numbers___init), sl_Numbers___init⟩) (c_Numbers___init : PySem.W.codeIn K cd_Numbers___init "Numbers.__init__" = true) (k_Numbers___init : PySem.W.keepIn K (.ref f_Numbers___init) = true)
    (a_Numbers_take : PySem.W.findIn K (.ref C_Numbers) "take" = some (some (.ref f_Numbers_take))) (i_Numbers_take : PySem.W.isFn K (.ref f_Numbers_take) = true) (l_Numbers_take : K.lookup f_Numbers_take = some ⟨oc_Numbers_take, od_Numbers_take, .func (PySem.W.fnOf "take" "Numbers.take" (fnArgs s_Numbers_take) (fnBody s_Numbers_take) (fnScope s_Numbers_take) .none kV_Numbers_take dc_Numbers_take pm_Numbers_take an_Numbers_take cd_Numbers_take ct_Numbers_take), sl_Numbers_take⟩) (c_Numbers_take : PySem.W.codeIn K cd_Numbers_take "Numbers.take" = true) (k_Numbers_take : PySem.W.keepIn K (.ref f_Numbers_take) = true)
    (a_Numbers_take_code : PySem.W.findIn K (.ref C_Numbers) "take_code" = some (some (.ref f_Numbers_take_code))) (i_Numbers_take_code : PySem.W.isFn K (.ref f_Numbers_take_code) = true) (l_Numbers_take_code : K.lookup f_Numbers_take_code = some ⟨oc_Numbers_take_code, od_Numbers_take_code, .func (PySem.W.fnOf "take_code" "Numbers.take_code" (fnArgs s_Numbers_take_code) (fnBody s_Numbers_take_code) (fnScope s_Numbers_take_code) .none kV_Numbers_take_code dc_Numbers_take_code pm_Numbers_take_code an_Numbers_take_code cd_Numbers_take_code ct_Numbers_take_code), sl_Numbers_take_code⟩) (c_Numbers_take_code : PySem.W.codeIn K cd_Numbers_take_code "Numbers.take_code" = true) (k_Numbers_take_code : PySem.W.keepIn K (.ref f_Numbers_take_code) = true)
    (mc_GameError : PySem.W.nsIn K mainGlobals "GameError" = some (some (.ref C_GameError)))
    (mc_BadText : PySem.W.nsIn K mainGlobals "BadText" = some (some (.ref C_BadText)))
    (mc_TooLarge : PySem.W.nsIn K mainGlobals "TooLarge" = some (some (.ref C_TooLarge)))
    (mc_BadMove : PySem.W.nsIn K mainGlobals "BadMove" = some (some (.ref C_BadMove)))
    (mc_BadCode : PySem.W.nsIn K mainGlobals "BadCode" = some (some (.ref C_BadCode)))
    (opq : PySem.W.nsIn K PySem.cStatics "thirdparty.any" = some none)
    (zsup : PySem.W.nsIn K mainGlobals "super" = some none)
    (ptop : (l.prog.main.scope.names.lookup ("super" : Str)).isSome = false)
    (xsp : PySem.W.specialIn K (.builtin "object.__class__") "__get__" = some (some (.builtin "getset_descriptor.__get__")))
    (xtk : PySem.W.takesIn K (.builtin "object.__class__") = some true)
    (xL_BadCode : K.lookup C_BadCode = some (excClassObj nm_BadCode q_BadCode C_BadCode N_BadCode bs_BadCode [.ref C_GameError, .type "ValueError", .type "Exception", .type "BaseException", .type "object"] true sn_BadCode sub_BadCode ab_BadCode col_BadCode dd_BadCode m0_BadCode m1_BadCode m2_BadCode m3_BadCode m5_BadCode "ValueError.__new__"))
    (al_BadCode : PySem.W.ks_superIn K C_BadCode C_BadCode "__init__" = some (some (.builtin "ValueError.__init__")))
    (ve_BadCode : PySem.W.subIn K (.ref C_BadCode) (.type "ValueError") = some true)
    (sa_BadCode : PySem.W.findIn K (.ref C_BadCode) "__setattr__" = some (some (.builtin "object.__setattr__")))
    (ga_BadCode : PySem.W.findIn K (.ref C_BadCode) "__getattribute__" = some (some (.builtin "BaseException.__getattribute__")))
    (gg_BadCode : PySem.W.findIn K (.ref C_BadCode) "__getattr__" = some none)
    (nb_BadCode : PySem.W.findIn K (.ref C_BadCode) "at" = some none)
    (iC_BadCode : PySem.W.findIn K (.ref C_BadCode) "__init__" = some (some (.ref f_BadCode___init)))
    (tf_BadCode : PySem.W.typeIn K (.ref f_BadCode___init) = some (.type "function"))
    (kC_BadCode : PySem.W.keepIn K (.ref C_BadCode) = true)
    (eC_BadCode : PySem.W.subIn K (.ref C_BadCode) (.type "BaseException") = some true)
    (tC_BadCode : PySem.W.typeIn K (.ref C_BadCode) = some (.type "type"))
    (hC_BadCode : PySem.W.hasDictIn K C_BadCode = true)
    (mo_BadCode : PySem.W.mroIn K C_BadCode (.ref C_BadCode) = some true)
    (ma_BadCode : PySem.W.mroIn K C_BadCode (.type "object") = some true)
    (ca_BadCode : PySem.W.findIn K (.ref C_BadCode) "__class__" = some (some (.builtin "object.__class__")))
    (ss_BadCode : PySem.W.subIn K (.ref C_BadCode) (.ref C_BadCode) = some true)
    (lf_BadCode : K.lookup f_BadCode___init = some ⟨oc_BadCode___init, od_BadCode___init, .func (PySem.W.fnX "__init__" "BadCode.__init__" (fnArgs s_BadCode___init) (fnBody s_BadCode___init) (fnScope s_BadCode___init) [("__class__", cc_BadCode___init)] .none .none dc_BadCode___init pm_BadCode___init an_BadCode___init (.ref cda_BadCode___init) ct_BadCode___init), sl_BadCode___init⟩)
    (cf_BadCode : PySem.W.codeIn K (.ref cda_BadCode___init) "BadCode.__init__" = true)
    (lc_BadCode : K.lookup cc_BadCode___init = some ⟨cl_BadCode___init, cld_BadCode___init, .cell (some (.ref C_BadCode)), csl_BadCode___init⟩)
    (ld_BadCode : K.lookup cda_BadCode___init = some ⟨ccl_BadCode___init, cdd_BadCode___init, .fields vs_BadCode___init, ccs_BadCode___init⟩)
    (vf_BadCode : vs_BadCode___init[2]? = some (.str file_BadCode___init tf_BadCode___init))
    (fe_BadCode : ((l.prog.main.file : Str) == file_BadCode___init) = true)
    (hkit1 : PySem.W.kitOne K (.ref C_BadCode) (.ref C_GameError) = some true)
    (hkit2 : PySem.W.kitAny K (.ref C_BadCode) [.ref C_BadMove, .ref C_BadText, .ref C_TooLarge] = some false)
    (z_GREATEST : PySem.W.nsIn K mainGlobals "GREATEST" = some (some (.int 65535 t_GREATEST)))
    (z_NAMES : PySem.W.nsIn K mainGlobals "NAMES" = some (some (.ref T_NAMES)))
    (lT_NAMES : K.lookup T_NAMES = some ⟨.type "tuple", none, .seq #[.str "push" t_NAMES0, .str "load" t_NAMES1, .str "store" t_NAMES2, .str "sign" t_NAMES3, .str "jump" t_NAMES4, .str "skip" t_NAMES5, .str "lot" t_NAMES6, .str "end" t_NAMES7, .str "ask" t_NAMES8, .str "show" t_NAMES9, .str "pay" t_NAMES10, .str "take" t_NAMES11, .str "view" t_NAMES12, .str "long" t_NAMES13, .str "unit" t_NAMES14, .str "back" t_NAMES15] nn_NAMES, sl_NAMES⟩)
    (z_MOST_MOVES : PySem.W.nsIn K mainGlobals "MOST_MOVES" = some (some (.int 8 t_MOST_MOVES)))
    (z_MOST_BRANCHINGS : PySem.W.nsIn K mainGlobals "MOST_BRANCHINGS" = some (some (.int 24 t_MOST_BRANCHINGS)))
    (z_MOST_VARIABLES : PySem.W.nsIn K mainGlobals "MOST_VARIABLES" = some (some (.int 12 t_MOST_VARIABLES)))
    (z_MOST_ROUNDS : PySem.W.nsIn K mainGlobals "MOST_ROUNDS" = some (some (.int 8 t_MOST_ROUNDS)))
    (z_bool : PySem.W.nsIn K mainGlobals "bool" = some none)
    (z_int : PySem.W.nsIn K mainGlobals "int" = some none)
    (z_isinstance : PySem.W.nsIn K mainGlobals "isinstance" = some none)
    (z_len : PySem.W.nsIn K mainGlobals "len" = some none)
    (z_list : PySem.W.nsIn K mainGlobals "list" = some none)
    (z_min : PySem.W.nsIn K mainGlobals "min" = some none)
    (z_range : PySem.W.nsIn K mainGlobals "range" = some none)
    (z_str : PySem.W.nsIn K mainGlobals "str" = some none)
    (z_tuple : PySem.W.nsIn K mainGlobals "tuple" = some none)
    : ∃ fd : FuncData, (∀ (s : Shared) (v : Value), BindsTo s fd ⟨[v], []⟩ [("script", v)]) ∧ ∀ base : Heap, K.In base → base.Ns mainGlobals mg → FnOk l.prog w K mg base C8.CX0 8 fa fd ["script"] (sp_law K) := by
  have e := hfa.symm.trans (PySem.W.mg_of X G a_law)
  cases e
  have T : Txt K mg C_Program C_Numbers C_GameError C_BadText C_TooLarge C_BadMove C_BadCode T_NAMES := ⟨PySem.W.mg_none_of X G z_bool, PySem.W.mg_none_of X G z_int, PySem.W.mg_none_of X G z_isinstance, PySem.W.mg_none_of X G z_len, PySem.W.mg_none_of X G z_list, PySem.W.mg_none_of X G z_min, PySem.W.mg_none_of X G z_range, PySem.W.mg_none_of X G z_str, PySem.W.mg_none_of X G z_tuple, ⟨pg_Program, hd_Program, po_Program, sa_Program⟩, PySem.W.mg_of X G mc_Program, ⟨⟨pg_Program, hd_Program, po_Program, sa_Program⟩, ha_Program, hn_Program, ht_Program, hm_Program, kitSelf⟩, nsizes_Program, nmoves_Program, nrounds_Program, ⟨pg_Numbers, hd_Numbers, po_Numbers, sa_Numbers⟩, PySem.W.mg_of X G mc_Numbers, ⟨⟨pg_Numbers, hd_Numbers, po_Numbers, sa_Numbers⟩, ha_Numbers, hn_Numbers, ht_Numbers, hm_Numbers, kitSelf⟩, nnumbers_Numbers, nat_Numbers, ⟨_, PySem.W.mg_of X G z_GREATEST, ⟨_, rfl⟩⟩, ⟨_, PySem.W.mg_of X G z_NAMES, rfl⟩, fun H => .inr ⟨_, _, _, lT_NAMES, rfl, rfl, by show 16 ≤ sizeLine; decide, .cons ⟨_, rfl⟩ (.cons ⟨_, rfl⟩ (.cons ⟨_, rfl⟩ (.cons ⟨_, rfl⟩ (.cons ⟨_, rfl⟩ (.cons ⟨_, rfl⟩ (.cons ⟨_, rfl⟩ (.cons ⟨_, rfl⟩ (.cons ⟨_, rfl⟩ (.cons ⟨_, rfl⟩ (.cons ⟨_, rfl⟩ (.cons ⟨_, rfl⟩ (.cons ⟨_, rfl⟩ (.cons ⟨_, rfl⟩ (.cons ⟨_, rfl⟩ (.cons ⟨_, rfl⟩ (.nil))))))))))))))))⟩, ⟨_, lT_NAMES, rfl, rfl⟩, ⟨_, PySem.W.mg_of X G z_MOST_MOVES, ⟨_, rfl⟩⟩, ⟨_, PySem.W.mg_of X G z_MOST_BRANCHINGS, ⟨_, rfl⟩⟩, ⟨_, PySem.W.mg_of X G z_MOST_VARIABLES, ⟨_, rfl⟩⟩, ⟨_, PySem.W.mg_of X G z_MOST_ROUNDS, ⟨_, rfl⟩⟩, PySem.W.mg_of X G mc_GameError, PySem.W.mg_of X G mc_BadText, PySem.W.mg_of X G mc_TooLarge, PySem.W.mg_of X G mc_BadMove, PySem.W.mg_of X G mc_BadCode, ⟨ga_BadCode, gg_BadCode, eC_BadCode, hC_BadCode, ca_BadCode, xsp, xtk, ma_BadCode⟩, ⟨ga_BadCode, gg_BadCode, eC_BadCode, hC_BadCode⟩, nb_BadCode, PySem.W.exm_ref eC_BadCode hC_BadCode tC_BadCode ss_BadCode, hkit1, hkit2, True.intro⟩
  have X_BadCode : SupX_BadCode.Txt l.prog K mg "BadCode" C_BadCode f_BadCode___init := { gC := PySem.W.mg_of X G mc_BadCode, cls := ⟨_, _, _, _, _, _, _, _, _, _, _, _, _, _, _, xL_BadCode, rfl⟩, along := al_BadCode, veC := ve_BadCode, sa := sa_BadCode, ga := ga_BadCode, gg := gg_BadCode, noN := nb_BadCode, iC := iC_BadCode, tC := tf_BadCode, kC := kC_BadCode, exC := eC_BadCode, tyC := tC_BadCode, hdC := hC_BadCode, opq := opq, noS := PySem.W.mg_none_of X G zsup, mroC := mo_BadCode, top := ptop, fn := ⟨_, _, _, _, _, _, _, _, _, _, _, _, _, _, _, _, _, _, lf_BadCode, cf_BadCode, lc_BadCode, ld_BadCode, vf_BadCode, fe_BadCode⟩ }
  have F_Program___init : C8.Fun K "__init__" "Program.__init__" s_Program___init _ _ := ⟨⟨_, _, _, _, _, _, _, _, _, _, rfl, l_Program___init, c_Program___init⟩⟩
  have M_Program : Mk K C_Program f_Program___init := ⟨mk_Program, a_Program___init, i_Program___init, kc_Program⟩
  have b_Program___init : Binds K _ ["self", "sizes", "moves", "rounds"] [] := C8.Fun.binds F_Program___init rfl fun _ _ _ _ _ _ us hl => match us, hl with | [_, _, _, _], _ => rfl
  have F_Program___eq : C8.Fun K "__eq__" "Program.__eq__" s_Program___eq _ _ := ⟨⟨_, _, _, _, _, _, _, _, _, _, rfl, l_Program___eq, c_Program___eq⟩⟩
  have M_Program___eq : Meth K C_Program "__eq__" f_Program___eq := ⟨a_Program___eq, i_Program___eq, k_Program___eq⟩
  have b_Program___eq : Binds K _ ["self", "other"] [] := C8.Fun.binds F_Program___eq rfl fun _ _ _ _ _ _ us hl => match us, hl with | [_, _], _ => rfl
  have F_Numbers___init : C8.Fun K "__init__" "Numbers.__init__" s_Numbers___init _ _ := ⟨⟨_, _, _, _, _, _, _, _, _, _, rfl, l_Numbers___init, c_Numbers___init⟩⟩
  have M_Numbers : Mk K C_Numbers f_Numbers___init := ⟨mk_Numbers, a_Numbers___init, i_Numbers___init, kc_Numbers⟩
  have b_Numbers___init : Binds K _ ["self", "numbers"] [] := C8.Fun.binds F_Numbers___init rfl fun _ _ _ _ _ _ us hl => match us, hl with | [_, _], _ => rfl
  have F_Numbers_take : C8.Fun K "take" "Numbers.take" s_Numbers_take _ _ := ⟨⟨_, _, _, _, _, _, _, _, _, _, rfl, l_Numbers_take, c_Numbers_take⟩⟩
  have M_Numbers_take : Meth K C_Numbers "take" f_Numbers_take := ⟨a_Numbers_take, i_Numbers_take, k_Numbers_take⟩
  have b_Numbers_take : Binds K _ ["self", "least", "most"] [] := C8.Fun.binds F_Numbers_take rfl fun _ _ _ _ _ _ us hl => match us, hl with | [_, _, _], _ => rfl
  have F_Numbers_take_code : C8.Fun K "take_code" "Numbers.take_code" s_Numbers_take_code _ _ := ⟨⟨_, _, _, _, _, _, _, _, _, _, rfl, l_Numbers_take_code, c_Numbers_take_code⟩⟩
  have M_Numbers_take_code : Meth K C_Numbers "take_code" f_Numbers_take_code := ⟨a_Numbers_take_code, i_Numbers_take_code, k_Numbers_take_code⟩
  have b_Numbers_take_code : Binds K _ ["self"] [] := C8.Fun.binds F_Numbers_take_code rfl fun _ _ _ _ _ _ us hl => match us, hl with | [_], _ => rfl
  have D_program_numbers : C8.Def K mg "program_numbers" s_program_numbers _ _ := ⟨⟨⟨_, _, _, _, _, _, _, _, _, _, rfl, l_program_numbers, c_program_numbers⟩⟩, PySem.W.mg_of X G a_program_numbers, k_program_numbers⟩
  have b_program_numbers : Binds K _ ["program"] [] := C8.Fun.binds D_program_numbers.fn rfl fun _ _ _ _ _ _ us hl => match us, hl with | [_], _ => rfl
  have D_read_program : C8.Def K mg "read_program" s_read_program _ _ := ⟨⟨⟨_, _, _, _, _, _, _, _, _, _, rfl, l_read_program, c_read_program⟩⟩, PySem.W.mg_of X G a_read_program, k_read_program⟩
  have b_read_program : Binds K _ ["numbers"] [] := C8.Fun.binds D_read_program.fn rfl fun _ _ _ _ _ _ us hl => match us, hl with | [_], _ => rfl
  have D_law_pool : C8.Def K mg "_law_pool" s_law_pool _ _ := ⟨⟨⟨_, _, _, _, _, _, _, _, _, _, rfl, l_law_pool, c_law_pool⟩⟩, PySem.W.mg_of X G a_law_pool, k_law_pool⟩
  have b_law_pool : Binds K _ ["script", "budget"] [] := C8.Fun.binds D_law_pool.fn rfl fun _ _ _ _ _ _ us hl => match us, hl with | [_, _], _ => rfl
  have D_law_draw : C8.Def K mg "_law_draw" s_law_draw _ _ := ⟨⟨⟨_, _, _, _, _, _, _, _, _, _, rfl, l_law_draw, c_law_draw⟩⟩, PySem.W.mg_of X G a_law_draw, k_law_draw⟩
  have b_law_draw : Binds K _ ["pool", "size"] [] := C8.Fun.binds D_law_draw.fn rfl fun _ _ _ _ _ _ us hl => match us, hl with | [_, _], _ => rfl
  have D_law_few : C8.Def K mg "_law_few" s_law_few _ _ := ⟨⟨⟨_, _, _, _, _, _, _, _, _, _, rfl, l_law_few, c_law_few⟩⟩, PySem.W.mg_of X G a_law_few, k_law_few⟩
  have b_law_few : Binds K _ ["pool", "most"] [] := C8.Fun.binds D_law_few.fn rfl fun _ _ _ _ _ _ us hl => match us, hl with | [_, _], _ => rfl
  have D_law_number : C8.Def K mg "_law_number" s_law_number _ _ := ⟨⟨⟨_, _, _, _, _, _, _, _, _, _, rfl, l_law_number, c_law_number⟩⟩, PySem.W.mg_of X G a_law_number, k_law_number⟩
  have b_law_number : Binds K _ ["pool"] [] := C8.Fun.binds D_law_number.fn rfl fun _ _ _ _ _ _ us hl => match us, hl with | [_], _ => rfl
  have D_law_same : C8.Def K mg "_law_same" s_law_same _ _ := ⟨⟨⟨_, _, _, _, _, _, _, _, _, _, rfl, l_law_same, c_law_same⟩⟩, PySem.W.mg_of X G a_law_same, k_law_same⟩
  have b_law_same : Binds K _ ["actual", "due"] [] := C8.Fun.binds D_law_same.fn rfl fun _ _ _ _ _ _ us hl => match us, hl with | [_, _], _ => rfl
  have D_law_names_of_code : C8.Def K mg "_law_names_of_code" s_law_names_of_code _ _ := ⟨⟨⟨_, _, _, _, _, _, _, _, _, _, rfl, l_law_names_of_code, c_law_names_of_code⟩⟩, PySem.W.mg_of X G a_law_names_of_code, k_law_names_of_code⟩
  have b_law_names_of_code : Binds K _ [] [] := C8.Fun.binds D_law_names_of_code.fn rfl fun _ _ _ _ _ _ us hl => match us, hl with | [], _ => rfl
  have D_law_row : C8.Def K mg "_law_row" s_law_row _ _ := ⟨⟨⟨_, _, _, _, _, _, _, _, _, _, rfl, l_law_row, c_law_row⟩⟩, PySem.W.mg_of X G a_law_row, k_law_row⟩
  have b_law_row : Binds K _ ["pool"] [] := C8.Fun.binds D_law_row.fn rfl fun _ _ _ _ _ _ us hl => match us, hl with | [_], _ => rfl
  have D_law_numbers : C8.Def K mg "_law_numbers" s_law_numbers _ _ := ⟨⟨⟨_, _, _, _, _, _, _, _, _, _, rfl, l_law_numbers, c_law_numbers⟩⟩, PySem.W.mg_of X G a_law_numbers, k_law_numbers⟩
  have b_law_numbers : Binds K _ ["row"] [] := C8.Fun.binds D_law_numbers.fn rfl fun _ _ _ _ _ _ us hl => match us, hl with | [_], _ => rfl
  have D_law_read : C8.Def K mg "_law_read" s_law_read _ _ := ⟨⟨⟨_, _, _, _, _, _, _, _, _, _, rfl, l_law_read, c_law_read⟩⟩, PySem.W.mg_of X G a_law_read, k_law_read⟩
  have b_law_read : Binds K _ ["numbers"] [] := C8.Fun.binds D_law_read.fn rfl fun _ _ _ _ _ _ us hl => match us, hl with | [_], _ => rfl
  have D_law_beyond : C8.Def K mg "_law_beyond" s_law_beyond _ _ := ⟨⟨⟨_, _, _, _, _, _, _, _, _, _, rfl, l_law_beyond, c_law_beyond⟩⟩, PySem.W.mg_of X G a_law_beyond, k_law_beyond⟩
  have b_law_beyond : Binds K _ ["pool", "least", "most"] [] := C8.Fun.binds D_law_beyond.fn rfl fun _ _ _ _ _ _ us hl => match us, hl with | [_, _, _], _ => rfl
  have D_law_other : C8.Def K mg "_law_other" s_law_other _ _ := ⟨⟨⟨_, _, _, _, _, _, _, _, _, _, rfl, l_law_other, c_law_other⟩⟩, PySem.W.mg_of X G a_law_other, k_law_other⟩
  have b_law_other : Binds K _ ["pool", "row"] [] := C8.Fun.binds D_law_other.fn rfl fun _ _ _ _ _ _ us hl => match us, hl with | [_, _], _ => rfl
  have D_law_spoilt : C8.Def K mg "_law_spoilt" s_law_spoilt _ _ := ⟨⟨⟨_, _, _, _, _, _, _, _, _, _, rfl, l_law_spoilt, c_law_spoilt⟩⟩, PySem.W.mg_of X G a_law_spoilt, k_law_spoilt⟩
  have b_law_spoilt : Binds K _ ["pool", "rows", "numbers"] [] := C8.Fun.binds D_law_spoilt.fn rfl fun _ _ _ _ _ _ us hl => match us, hl with | [_, _, _], _ => rfl
  have F_law : C8.Fun K "law" "law" s_law _ _ := ⟨⟨_, _, _, _, _, _, _, _, _, _, rfl, l_law, c_law⟩⟩
  refine ⟨PySem.W.fnOf "law" "law" (fnArgs s_law) (fnBody s_law) (fnScope s_law) .none kV_law dc_law pm_law an_law cd_law ct_law, fun s v => .of_eq rfl, fun base _ _ => ?_⟩
  have c_law_pool := ok_law_pool (P := l.prog) (w := w) (base := base) D_law_pool b_law_pool T
  have c_law_draw := ok_law_draw (P := l.prog) (w := w) (base := base) D_law_draw b_law_draw T
  have c_law_few := ok_law_few D_law_few b_law_few T c_law_draw
  have c_law_number := ok_law_number D_law_number b_law_number T c_law_draw
  have c_same0 := ok_law_same0 (P := l.prog) (w := w) (base := base) D_law_same b_law_same
  have c_same1 := ok_law_same D_law_same b_law_same T c_same0
  have c_same2 := ok_law_same D_law_same b_law_same T c_same1
  have c_same3 := ok_law_same D_law_same b_law_same T c_same2
  have c_same4 := ok_law_same D_law_same b_law_same T c_same3
  have c_same5 := ok_law_same D_law_same b_law_same T c_same4
  have c_law_same := ok_law_same D_law_same b_law_same T c_same5
  have c_law_names_of_code := ok_law_names (P := l.prog) (w := w) (base := base) D_law_names_of_code b_law_names_of_code T
  have c_Program := ok_prog (P := l.prog) (w := w) (base := base) M_Program F_Program___init b_Program___init T
  have c_Program_eq := ok_peq (P := l.prog) (w := w) (base := base) M_Program___eq F_Program___eq b_Program___eq T
  have c_Numbers := ok_nums (P := l.prog) (w := w) (base := base) M_Numbers F_Numbers___init b_Numbers___init T
  have c_Numbers_take := ok_tk (P := l.prog) (w := w) (base := base) M_Numbers_take F_Numbers_take b_Numbers_take T X_BadCode
  have c_Numbers_take_code := ok_tc M_Numbers_take_code F_Numbers_take_code b_Numbers_take_code T c_Numbers_take
  have c_readX := ok_read D_read_program b_read_program T X_BadCode c_Numbers c_Program c_Numbers_take c_Numbers_take_code
  have c_read_program := calNr c_readX
  have c_program_numbers := ok_pn (P := l.prog) (w := w) (base := base) D_program_numbers b_program_numbers T
  have c_law_row := ok_row D_law_row b_law_row T c_law_draw c_law_few c_law_number c_law_names_of_code
  have c_law_numbers := ok_numbers D_law_numbers b_law_numbers T c_law_names_of_code
  have c_law_read := ok_lread D_law_read b_law_read T c_readX
  have c_law_beyond := ok_bey D_law_beyond b_law_beyond T c_law_draw
  have c_law_other := ok_other D_law_other b_law_other T c_law_draw c_law_names_of_code
  have c_law_spoilt := ok_spoilt D_law_spoilt b_law_spoilt T c_law_draw c_law_number c_law_read c_law_beyond c_law_same
  exact ok_law F_law T c_law_pool c_law_draw c_law_row c_law_numbers c_law_spoilt c_law_other c_law_read c_law_same c_Program c_program_numbers c_read_program c_Program_eq
theorem walk {l : PySem.W.OpenLaw} {q : Program} {loose : List Str} {XP : (Str → Option Value) → Heap → Prop} {YP : World → Heap → Prop} {d : DefRec} {K : Params → PySem.W.Frag} (hn : l.most = some 63) (hdf : d.params.defaults = [])
    (hY : ∀ (w : World) (h : Heap), YP w h → (K w.params).In h)
    (F : ∀ (w : World) (mg : Str → Option Value) (fa : Addr) (h : Heap), (K w.params).In h → h.Ns mainGlobals mg → mg d.name = some (.ref fa) →
      ∃ fd : FuncData, (∀ (s : Shared) (u : Value), BindsTo s fd ⟨[u], []⟩ [("script", u)]) ∧ ∀ base : Heap, (K w.params).In base → base.Ns mainGlobals mg → FnOk l.prog w (K w.params) mg base C8.CX0 8 fa fd ["script"] (sp_law (K w.params))) :
    PySem.W.WalkO q loose XP YP l.row.toRowW d [] (fun f vs => PySem.call f vs) :=
  L2.walk_ofB (n := 63) (k := 8) (x := "script") (CX := fun _ => C8.CX0) (sp := fun w => sp_law (K w.params)) hn (by decide) hdf ⟨rfl, by decide, by decide⟩ hY F (fun _ _ a ns hl hb _ hS => ⟨a, ns, rfl, hS, fun _ => rfl⟩) fun _ _ _ _ _ z => z
end My
open PySem PySem.W PyProof.Rows
set_option maxRecDepth 100000 in
set_option maxHeartbeats 0 in
theorem PySem.Challenge.cw_bothgain_k79_programs_as_whole_numbers_holds : PySem.Challenge.rw_bothgain_k79_programs_as_whole_numbers.Holds := by
  w_on; o_law; k_head; (case hw => w_witness2)
  k_fill
  refine My.walk (l := PySem.Challenge.rw_bothgain_k79_programs_as_whole_numbers) rfl rfl (fun w h Y => PySem.W.kIn_of Y) ?F
  case F =>
    intro w mg fa h KX G hmg
    refine' My.all_mk KX G hmg ?a_program_numbers ?l_program_numbers ?c_program_numbers ?k_program_numbers ?a_read_program ?l_read_program ?c_read_program ?k_read_program ?a_law_pool ?l_law_pool ?c_law_pool ?k_law_pool ?a_law_draw ?l_law_draw ?c_law_draw ?k_law_draw ?a_law_few ?l_law_few ?c_law_few ?k_law_few ?a_law_number ?l_law_number ?c_law_number ?k_law_number ?a_law_same ?l_law_same ?c_law_same ?k_law_same ?a_law_names_of_code ?l_law_names_of_code ?c_law_names_of_code ?k_law_names_of_code ?a_law_row ?l_law_row ?c_law_row ?k_law_row ?a_law_numbers ?l_law_numbers ?c_law_numbers ?k_law_numbers ?a_law_read ?l_law_read ?c_law_read ?k_law_read ?a_law_beyond ?l_law_beyond ?c_law_beyond ?k_law_beyond ?a_law_other ?l_law_other ?c_law_other ?k_law_other ?a_law_spoilt ?l_law_spoilt ?c_law_spoilt ?k_law_spoilt ?a_law ?l_law ?c_law ?k_law ?mc_Program ?pg_Program ?hd_Program ?po_Program ?sa_Program ?mk_Program ?kc_Program ?ha_Program ?hn_Program ?ht_Program ?hm_Program ?nsizes_Program ?nmoves_Program ?nrounds_Program ?mc_Numbers ?pg_Numbers ?hd_Numbers ?po_Numbers ?sa_Numbers ?mk_Numbers ?kc_Numbers ?ha_Numbers ?hn_Numbers ?ht_Numbers ?hm_Numbers ?nnumbers_Numbers ?nat_Numbers ?a_Program___init ?i_Program___init ?l_Program___init ?c_Program___init ?k_Program___init ?a_Program___eq ?i_Program___eq ?l_Program___eq ?c_Program___eq ?k_Program___eq ?a_Numbers___init ?i_Numbers___init ?l_Numbers___init ?c_Numbers___init ?k_Numbers___init ?a_Numbers_take ?i_Numbers_take ?l_Numbers_take ?c_Numbers_take ?k_Numbers_take ?a_Numbers_take_code ?i_Numbers_take_code ?l_Numbers_take_code ?c_Numbers_take_code ?k_Numbers_take_code ?mc_GameError ?mc_BadText ?mc_TooLarge ?mc_BadMove ?mc_BadCode ?opq ?zsup ?ptop ?xsp ?xtk ?xL_BadCode ?al_BadCode ?ve_BadCode ?sa_BadCode ?ga_BadCode ?gg_BadCode ?nb_BadCode ?iC_BadCode ?tf_BadCode ?kC_BadCode ?eC_BadCode ?tC_BadCode ?hC_BadCode ?mo_BadCode ?ma_BadCode ?ca_BadCode ?ss_BadCode ?lf_BadCode ?cf_BadCode ?lc_BadCode ?ld_BadCode ?vf_BadCode ?fe_BadCode ?hkit1 ?hkit2 ?z_GREATEST ?z_NAMES ?lT_NAMES ?z_MOST_MOVES ?z_MOST_BRANCHINGS ?z_MOST_VARIABLES ?z_MOST_ROUNDS ?z_bool ?z_int ?z_isinstance ?z_len ?z_list ?z_min ?z_range ?z_str ?z_tuple
    (case a_program_numbers => k_is)
    (case l_program_numbers => k_is)
    (case c_program_numbers => k_is)
    (case k_program_numbers => k_is)
    (case a_read_program => k_is)
    (case l_read_program => k_is)
    (case c_read_program => k_is)
    (case k_read_program => k_is)
    (case a_law_pool => k_is)
    (case l_law_pool => k_is)
    (case c_law_pool => k_is)
    (case k_law_pool => k_is)
    (case a_law_draw => k_is)
    (case l_law_draw => k_is)
    (case c_law_draw => k_is)
    (case k_law_draw => k_is)
    (case a_law_few => k_is)
    (case l_law_few => k_is)
    (case c_law_few => k_is)
    (case k_law_few => k_is)
    (case a_law_number => k_is)
    (case l_law_number => k_is)
    (case c_law_number => k_is)
    (case k_law_number => k_is)
    (case a_law_same => k_is)
    (case l_law_same => k_is)
    (case c_law_same => k_is)
    (case k_law_same => k_is)
    (case a_law_names_of_code => k_is)
    (case l_law_names_of_code => k_is)
    (case c_law_names_of_code => k_is)
    (case k_law_names_of_code => k_is)
    (case a_law_row => k_is)
    (case l_law_row => k_is)
    (case c_law_row => k_is)
    (case k_law_row => k_is)
    (case a_law_numbers => k_is)
    (case l_law_numbers => k_is)
    (case c_law_numbers => k_is)
    (case k_law_numbers => k_is)
    (case a_law_read => k_is)
    (case l_law_read => k_is)
    (case c_law_read => k_is)
    (case k_law_read => k_is)
    (case a_law_beyond => k_is)
    (case l_law_beyond => k_is)
    (case c_law_beyond => k_is)
    (case k_law_beyond => k_is)
    (case a_law_other => k_is)
    (case l_law_other => k_is)
    (case c_law_other => k_is)
    (case k_law_other => k_is)
    (case a_law_spoilt => k_is)
    (case l_law_spoilt => k_is)
    (case c_law_spoilt => k_is)
    (case k_law_spoilt => k_is)
    (case a_law => k_is)
    (case l_law => k_is)
    (case c_law => k_is)
    (case k_law => k_is)
    (case mc_Program => k_is)
    (case pg_Program => k_is)
    (case hd_Program => k_is)
    (case po_Program => k_is)
    (case sa_Program => k_is)
    (case mk_Program => k_is)
    (case kc_Program => k_is)
    (case ha_Program => k_is)
    (case hn_Program => k_is)
    (case ht_Program => k_is)
    (case hm_Program => k_is)
    (case nsizes_Program => k_is)
    (case nmoves_Program => k_is)
    (case nrounds_Program => k_is)
    (case mc_Numbers => k_is)
    (case pg_Numbers => k_is)
    (case hd_Numbers => k_is)
    (case po_Numbers => k_is)
    (case sa_Numbers => k_is)
    (case mk_Numbers => k_is)
    (case kc_Numbers => k_is)
    (case ha_Numbers => k_is)
    (case hn_Numbers => k_is)
    (case ht_Numbers => k_is)
    (case hm_Numbers => k_is)
    (case nnumbers_Numbers => k_is)
    (case nat_Numbers => k_is)
    (case a_Program___init => k_is)
    (case i_Program___init => k_is)
    (case l_Program___init => k_is)
    (case c_Program___init => k_is)
    (case k_Program___init => k_is)
    (case a_Program___eq => k_is)
    (case i_Program___eq => k_is)
    (case l_Program___eq => k_is)
    (case c_Program___eq => k_is)
    (case k_Program___eq => k_is)
    (case a_Numbers___init => k_is)
    (case i_Numbers___init => k_is)
    (case l_Numbers___init => k_is)
    (case c_Numbers___init => k_is)
    (case k_Numbers___init => k_is)
    (case a_Numbers_take => k_is)
    (case i_Numbers_take => k_is)
    (case l_Numbers_take => k_is)
    (case c_Numbers_take => k_is)
    (case k_Numbers_take => k_is)
    (case a_Numbers_take_code => k_is)
    (case i_Numbers_take_code => k_is)
    (case l_Numbers_take_code => k_is)
    (case c_Numbers_take_code => k_is)
    (case k_Numbers_take_code => k_is)
    (case mc_GameError => k_is)
    (case mc_BadText => k_is)
    (case mc_TooLarge => k_is)
    (case mc_BadMove => k_is)
    (case mc_BadCode => k_is)
    (case opq => first | k_is | rfl | decide +kernel)
    (case zsup => k_is)
    (case ptop => first | k_is | rfl | decide +kernel)
    (case xsp => k_is)
    (case xtk => k_is)
    (case xL_BadCode => k_is)
    (case al_BadCode => first | k_is | rfl | decide +kernel)
    (case ve_BadCode => k_is)
    (case sa_BadCode => k_is)
    (case ga_BadCode => k_is)
    (case gg_BadCode => k_is)
    (case nb_BadCode => k_is)
    (case iC_BadCode => k_is)
    (case tf_BadCode => k_is)
    (case kC_BadCode => k_is)
    (case eC_BadCode => k_is)
    (case tC_BadCode => k_is)
    (case hC_BadCode => k_is)
    (case mo_BadCode => k_is)
    (case ma_BadCode => k_is)
    (case ca_BadCode => k_is)
    (case ss_BadCode => first | k_is | rfl | decide +kernel)
    (case lf_BadCode => k_is)
    (case cf_BadCode => k_is)
    (case lc_BadCode => k_is)
    (case ld_BadCode => k_is)
    (case vf_BadCode => first | k_is | rfl | decide +kernel)
    (case fe_BadCode => first | k_is | rfl | decide +kernel)
    (case hkit1 => first | k_is | kit_is | rfl | decide +kernel)
    (case hkit2 => first | k_is | kit_is | rfl | decide +kernel)
    (case z_GREATEST => k_is)
    (case z_NAMES => k_is)
    (case lT_NAMES => k_is)
    (case z_MOST_MOVES => k_is)
    (case z_MOST_BRANCHINGS => k_is)
    (case z_MOST_VARIABLES => k_is)
    (case z_MOST_ROUNDS => k_is)
    (case z_bool => k_is)
    (case z_int => k_is)
    (case z_isinstance => k_is)
    (case z_len => k_is)
    (case z_list => k_is)
    (case z_min => k_is)
    (case z_range => k_is)
    (case z_str => k_is)
    (case z_tuple => k_is)

