
import PyProof.Rows.All
import Wide.All
import OpenK.AllK
import Wide.FinOn
import HandS.ForMost
import HandS.Codes
import HandS.IsInst
import HandS.EndBits
import HandS.Walk
import HandS.DeepEq
import HandS.Gcd
import HandS.Wide
import HandS.Defaults
import HandS.OwnEq
import HandS.Dict
import HandS.WordsDict
import HandS.Star
import HandS.Strs
import HandS.RaiseMore
import HandS.More
import HandS.ForExc
import HandS.ExcIs
import HandS.ExcField
import KE.KExcSuper
import KE.KSuper
import HandS.TryMany
import HandS.ExcInit
import HandS.CallSlots
import HandS.WrittenGet
import HandS.Iter
import HandS.Property
import HandS.MakeKwOnly
import HandS.Style
import KE.RegKIsAll
import HandS.Rev
import HandS.TupAny
import KE.KDictPairs
import PySem.Challenge.RW_bothgain_k32_trees_that_are_too_large
set_option Elab.async false
set_option linter.all false
set_option maxRecDepth 100000
set_option maxHeartbeats 4000000
set_option pp.maxSteps 400

namespace My
open PySem L2 C8 SX
/-! own base: tests, heaps -/
theorem bo_len : bootBuiltins "len" = some (.builtin "len") := by decide +kernel
theorem bo_isinstance : bootBuiltins "isinstance" = some (.builtin "isinstance") := by decide +kernel
theorem bo_min : bootBuiltins "min" = some (.builtin "min") := by decide +kernel
theorem bo_max : bootBuiltins "max" = some (.builtin "max") := by decide +kernel
theorem bo_abs : bootBuiltins "abs" = some (.builtin "abs") := by decide +kernel
theorem bo_int : bootBuiltins "int" = some (.type "int") := by decide +kernel
theorem bo_str : bootBuiltins "str" = some (.type "str") := by decide +kernel
theorem bo_bool : bootBuiltins "bool" = some (.type "bool") := by decide +kernel
theorem bo_list : bootBuiltins "list" = some (.type "list") := by decide +kernel
theorem bo_ord : bootBuiltins "ord" = some (.builtin "ord") := by decide +kernel
theorem bo_chr : bootBuiltins "chr" = some (.builtin "chr") := by decide +kernel
theorem bo_sum : bootBuiltins "sum" = some (.builtin "sum") := by decide +kernel
theorem bo_all : bootBuiltins "all" = some (.builtin "all") := by decide +kernel
theorem bo_any : bootBuiltins "any" = some (.builtin "any") := by decide +kernel
theorem bo_sorted : bootBuiltins "sorted" = some (.builtin "sorted") := by decide +kernel
theorem bo_dict : bootBuiltins "dict" = some (.type "dict") := by decide +kernel
theorem bo_tuple : bootBuiltins "tuple" = some (.type "tuple") := by decide +kernel
theorem iteD {p A B : Prop} [Decidable p] (h1 : p → A) (h2 : ¬ p → B) : if decide p = true then A else B := by
  by_cases h : p
  · rw [decide_eq_true h]; exact iteT (h1 h)
  · rw [decide_eq_false h]; exact iteF (h2 h)
theorem iteN {p A B : Prop} [Decidable p] (h1 : ¬ p → A) (h2 : p → B) : if (!decide p) = true then A else B := by
  by_cases h : p
  · rw [decide_eq_true h]; exact iteF (h2 h)
  · rw [decide_eq_false h]; exact iteT (h1 h)
theorem iteDT {p A B : Prop} [Decidable p] (h : p) (k : A) : if decide p = true then A else B := iteD (fun _ => k) fun z => absurd h z
theorem iteDF {p A B : Prop} [Decidable p] (h : ¬ p) (k : B) : if decide p = true then A else B := iteD (fun z => absurd z h) fun _ => k
theorem iteNT {p A B : Prop} [Decidable p] (h : ¬ p) (k : A) : if (!decide p) = true then A else B := iteN (fun _ => k) fun z => absurd z h
theorem iteNF {p A B : Prop} [Decidable p] (h : p) (k : B) : if (!decide p) = true then A else B := iteN (fun z => absurd h z) fun _ => k
theorem iteB {b : Bool} {A B : Prop} (h1 : b = true → A) (h2 : b = false → B) : if b = true then A else B := by
  cases b with
  | true => exact iteT (h1 rfl)
  | false => exact iteF (h2 rfl)
/-- in a comprehension without a test -/
theorem yes_then {σ : St} {H : Hp} {F G : Hp → Prop} (h : F H) : tYes σ H (fun b H3 => if b = true then F H3 else G H3) := h
/-- all that was tracked stands, but at W -/
def Keep (W : List Addr) (H H' : Hp) : Prop := ∀ b o, H b = some o → b ∉ W → H' b = some o
theorem Keep.refl (W : List Addr) (H : Hp) : Keep W H H := fun _ _ h _ => h
theorem Keep.trans {W : List Addr} {H H1 H2 : Hp} (a : Keep W H H1) (b : Keep W H1 H2) : Keep W H H2 := fun c o h w => b c o (a c o h w) w
theorem Keep.mono {W W' : List Addr} {H H1 : Hp} (a : Keep W H H1) (h : ∀ b, b ∈ W → b ∈ W') : Keep W' H H1 := fun c o q w => a c o q fun z => w (h c z)
theorem Keep.new {W : List Addr} {H : Hp} {p : Addr} {o : HO} (h : H p = none) : Keep W H (upd H p o) := fun b u q _ => by
  rw [upd_ne (ne_of_none q h)]; exact q
theorem Keep.at_ {W : List Addr} {H : Hp} {p : Addr} {o : HO} (h : p ∈ W) : Keep W H (upd H p o) := fun b u q w => by
  rw [upd_ne (fun z => w (by rw [z]; exact h))]; exact q
theorem Keep.then_new {W : List Addr} {H H1 : Hp} {p : Addr} {o : HO} (a : Keep W H H1) (h : H1 p = none) : Keep W H (upd H1 p o) := a.trans (Keep.new h)
theorem Keep.then_at {W : List Addr} {H H1 : Hp} {p : Addr} {o : HO} (a : Keep W H H1) (h : p ∈ W) : Keep W H (upd H1 p o) := a.trans (Keep.at_ h)
/-- what was new since H is not among the kept -/
theorem Keep.then_own {W : List Addr} {H H1 : Hp} {p : Addr} {o : HO} (a : Keep W H H1) (h : H p = none) : Keep W H (upd H1 p o) := fun b u q w => by
  rw [upd_ne (ne_of_none q h)]; exact a b u q w
theorem Keep.free {H H' : Hp} (e : Keep [] H H') {l : Addr} (h : H' l = none) : H l = none := by
  cases q : H l with
  | none => rfl
  | some o => rw [e l o q (by simp)] at h; cases h
theorem Keep.free1 {H H' : Hp} {p : Addr} {o : HO} (e : Keep [p] H H') (hp : H' p = some o) {l : Addr} (h : H' l = none) : H l = none := by
  cases q : H l with
  | none => rfl
  | some u =>
    by_cases z : l = p
    · subst z; rw [hp] at h; cases h
    · rw [e l u q (by simpa using z)] at h; cases h
theorem Keep.seqL {W : List Addr} {K : PySem.W.Frag} {H H' : Hp} {a : Addr} {xs : List V} (e : Keep W H H') (h : SqL K H a xs) (w : a ∉ W) : SqL K H' a xs := by
  rcases h with (h | ⟨o, h⟩) | h
  · exact .inl (.inl (e _ _ h w))
  · exact .inl (.inr ⟨o, e _ _ h w⟩)
  · exact .inr h
theorem Keep.seqT {W : List Addr} {K : PySem.W.Frag} {H H' : Hp} {a : Addr} {xs : List V} (e : Keep W H H') (h : SqT K H a xs) (w : a ∉ W) : SqT K H' a xs := by
  rcases h with (h | ⟨o, h⟩) | h
  · exact .inl (.inl (e _ _ h w))
  · exact .inl (.inr ⟨o, e _ _ h w⟩)
  · exact .inr h
theorem Keep.same {H H' : Hp} (e : Keep [] H H') : Same H H' := fun b o h => e b o h (by simp)
theorem ints_get {ns : List Int} {i : Nat} {v : V} (h : (ns.map V.int)[i]? = some v) : ∃ z, ns[i]? = some z ∧ v = V.int z := by
  rw [List.getElem?_map] at h
  cases e : ns[i]? with
  | none => rw [e] at h; cases h
  | some z => rw [e] at h; exact ⟨z, rfl, (Option.some.inj h).symm⟩
theorem strs_get {ns : List Str} {i : Nat} {v : V} (h : (ns.map V.str)[i]? = some v) : ∃ z, ns[i]? = some z ∧ v = V.str z := by
  rw [List.getElem?_map] at h
  cases e : ns[i]? with
  | none => rw [e] at h; cases h
  | some z => rw [e] at h; exact ⟨z, rfl, (Option.some.inj h).symm⟩
theorem smallM {n : Nat} (h : n ≤ 1000000) : n ≤ sizeLine := Nat.le_trans h (by decide)
theorem smallL {n : Nat} (h : n ≤ 1000000) : n < sizeLine := Nat.lt_of_le_of_lt h (by decide)
/-- a promise that asks the impossible: any def at all keeps it -/
def spNo : Sp := fun _ _ _ _ => False
/-! the same rules with the written part named (within a comprehension) -/
section
variable {X : Cx} {K : PySem.W.Frag}
theorem pe_fldK {e : Expr} {f : Str} {pos : Pos} {ta : TE} (he : PE X e ta) (hb : attributeBase e f X.env (eval e X.env) = eval e X.env) (hK : X.K = K := by rfl) : PE X (.Attribute e f pos) (tFld K ta f) := hK ▸ pe_fld he hb
theorem ix_listK (hK : X.K = K := by rfl) : IxR X (rIxL K) := hK ▸ ix_list
theorem ix_tupK (hK : X.K = K := by rfl) : IxR X (rIxT K) := hK ▸ ix_tup
theorem sl_listK (hK : X.K = K := by rfl) : SlR X (rSlL K) := hK ▸ sl_list
theorem sl_tupK (hK : X.K = K := by rfl) : SlR X (rSlT K) := hK ▸ sl_tup
theorem call_len_seqK (hK : X.K = K := by rfl) : CallR X (.builtin "len") (fun xs H Q => ∃ p ys, xs = [.ref p] ∧ (SqL K H p ys ∨ SqT K H p ys) ∧ Q (.int ys.length) H) := hK ▸ call_len_seq
theorem call_list_ofK (hK : X.K = K := by rfl) : CallR X (.type "list") (fun xs H Q => ∃ p ys, xs = [.ref p] ∧ (SqL K H p ys ∨ SqT K H p ys) ∧ ∀ l, H l = none → Q (.ref l) (upd H l (.lst ys))) := hK ▸ call_list_of
theorem call_isiK2 (hK : X.K = K := by rfl) : CallR X (.builtin "isinstance") (rIsi K) := hK ▸ call_isi
end
/-- behind the making of an instance -/
theorem keep_made {H H2 : Hp} {x dx : Addr} {o : HO} (hx : H x = none) (hd : H dx = none) (k : Keep [x] (upd (upd H dx (.own x)) x o) H2) : Keep [] H H2 := fun b u e _ =>
  k b u (by rw [upd_ne (ne_of_none e hx), upd_ne (ne_of_none e hd)]; exact e) (by simpa using ne_of_none e hx)
theorem kitSelf {K : PySem.W.Frag} {C : Addr} : PySem.W.kitOne K (.ref C) (.ref C) = some true := by
  unfold PySem.W.kitOne
  simp
/-- a call without arguments -/
theorem pe_c0 {X : Cx} {x : Str} {p pos : Pos} {k j : Nat} {sp : Sp} {dvs : List V} (c : C8.Cal X.prog X.w X.K X.mg X.base k x sp dvs) (hr : Room j X.A) (hk : k ≤ j) (hg : Gl X x) (hdb : (x == ("__debug__" : Str)) = false := by decide) :
    PE X (.Call (.Name x p) [] [] pos) (tCall sp dvs C8.E0 tNil) := by
  obtain ⟨f, fd, ps, ds, F, hm, kp, b, d⟩ := c.ex
  exact pe_call0 F (hr.mono hk) hg hm kp b d C8.pass0 hdb

/-! the text by places -/
def top (i : Nat) : Stmt := PySem.Challenge.pw_bothgain_k32_trees_that_are_too_large.main.body.getD i (.Pass ⟨0, 0, 0, 0⟩)
abbrev s_TooLarge___init : Stmt := L2.inClass (top 5) 0
abbrev s_End___init : Stmt := L2.inClass (top 16) 0
theorem sc_End___init : FnScope ["self", "paid"] ["self", "paid"] (fnScope s_End___init) := fnScope_by (by decide +kernel)
abbrev s_Lot___init : Stmt := L2.inClass (top 17) 0
theorem sc_Lot___init : FnScope ["self", "parts"] ["self", "parts"] (fnScope s_Lot___init) := fnScope_by (by decide +kernel)
abbrev s_Turn___init : Stmt := L2.inClass (top 18) 0
theorem sc_Turn___init : FnScope ["self", "player", "view", "parts"] ["self", "player", "view", "parts"] (fnScope s_Turn___init) := fnScope_by (by decide +kernel)
abbrev s_Builder___init : Stmt := L2.inClass (top 19) 0
theorem sc_Builder___init : FnScope ["self", "game"] ["self", "game"] (fnScope s_Builder___init) := fnScope_by (by decide +kernel)
abbrev s_Builder_place : Stmt := L2.inClass (top 19) 1
theorem sc_Builder_place : FnScope ["self"] ["self"] (fnScope s_Builder_place) := fnScope_by (by decide +kernel)
abbrev s_Builder_node : Stmt := L2.inClass (top 19) 2
theorem sc_Builder_node : FnScope ["self", "rest", "table", "seen", "paid", "statement", "word"] ["self", "rest", "table", "seen", "paid"] (fnScope s_Builder_node) := fnScope_by (by decide +kernel)
abbrev s_Builder_stored : Stmt := L2.inClass (top 19) 4
theorem sc_Builder_stored : FnScope ["self", "table", "name", "value", "result"] ["self", "table", "name", "value"] (fnScope s_Builder_stored) := fnScope_by (by decide +kernel)
abbrev s_Builder_branch : Stmt := L2.inClass (top 19) 5
theorem sc_Builder_branch : FnScope ["self", "statement", "rest", "table", "seen", "paid", "parts", "k", "player", "after"] ["self", "statement", "rest", "table", "seen", "paid"] (fnScope s_Builder_branch) := fnScope_by (by decide +kernel)
abbrev s_shown : Stmt := top 20
theorem sc_shown : FnScope ["seen", "to", "event", "first", "second"] ["seen", "to", "event"] (fnScope s_shown) := fnScope_by (by decide +kernel)
abbrev s_chained : Stmt := top 21
theorem sc_chained : FnScope ["block", "rest", "statement"] ["block", "rest"] (fnScope s_chained) := fnScope_by (by decide +kernel)
abbrev s_tree_of : Stmt := top 22
theorem sc_tree_of : FnScope ["game", "builder", "rest", "number", "table", "name", "_"] ["game"] (fnScope s_tree_of) := fnScope_by (by decide +kernel)
abbrev s_Game___init : Stmt := L2.inClass (top 24) 0
theorem sc_Game___init : FnScope ["self", "options", "variables", "rounds"] ["self", "options", "variables", "rounds"] (fnScope s_Game___init) := fnScope_by (by decide +kernel)
abbrev s_places : Stmt := top 26
theorem sc_places : FnScope ["tree", "part"] ["tree"] (fnScope s_places) := fnScope_by (by decide +kernel)
abbrev s_Position___init : Stmt := L2.inClass (top 28) 0
theorem sc_Position___init : FnScope ["self", "waiting", "count", "paid", "view"] ["self", "waiting", "count", "paid", "view"] (fnScope s_Position___init) := fnScope_by (by decide +kernel)
abbrev s_position_of : Stmt := top 29
theorem sc_position_of : FnScope ["node"] ["node"] (fnScope s_position_of) := fnScope_by (by decide +kernel)
abbrev s_follow : Stmt := top 30
theorem sc_follow : FnScope ["tree", "choices", "node", "at", "choice"] ["tree", "choices"] (fnScope s_follow) := fnScope_by (by decide +kernel)
abbrev s_run : Stmt := top 31
theorem sc_run : FnScope ["game", "choices"] ["game", "choices"] (fnScope s_run) := fnScope_by (by decide +kernel)
abbrev s_ends : Stmt := top 32
theorem sc_ends : FnScope ["tree", "found", "part"] ["tree"] (fnScope s_ends) := fnScope_by (by decide +kernel)
abbrev s_law_cell : Stmt := top 34
theorem sc_law_cell : FnScope ["script", "k"] ["script", "k"] (fnScope s_law_cell) := fnScope_by (by decide +kernel)
abbrev s_law_is_integer : Stmt := top 35
theorem sc_law_is_integer : FnScope ["actual"] ["actual"] (fnScope s_law_is_integer) := fnScope_by (by decide +kernel)
abbrev s_law_sizes : Stmt := top 36
theorem sc_law_sizes : FnScope ["script", "cell"] ["script"] (fnScope s_law_sizes) := fnScope_by (by decide +kernel)
abbrev s_law_first : Stmt := top 37
theorem sc_law_first : FnScope ["block"] ["block"] (fnScope s_law_first) := fnScope_by (by decide +kernel)
abbrev s_law_waiting : Stmt := top 38
theorem sc_law_waiting : FnScope ["game", "way", "e"] ["game", "way"] (fnScope s_law_waiting) := fnScope_by (by decide +kernel)
abbrev s_law : Stmt := top 39
theorem sc_law : FnScope ["script", "sizes", "block", "variables", "nodes", "last", "number", "k", "name", "game", "due", "tree", "e", "paid", "cell"] ["script"] (fnScope s_law) := fnScope_by (by decide +kernel)
end My
/-! an own exception class over ValueError (by way of GameError) whose __init__ says super().__init__('..') and keeps its one argument -/
namespace SupX_TooLarge
open My PySem L2 C8 PySem.W PySem.Calls PyProof.Rows PySem.HandSPX
/-- what the written part says of the class at C, and of its __init__ at fI -/
structure Txt (P : Program) (K : Frag) (mg : Str → Option Value) (nm : Str) (C fI : Addr) : Prop where
  gC : mg nm = some (.ref C)
  cls : ∃ nm q N bs bm sn sub ab col dd k0 k1 k2 k3 k5, K.lookup C = some (excClassObj nm q C N bs bm true sn sub ab col dd k0 k1 k2 k3 k5 "ValueError.__new__") ∧ refsVE bm = true
  along : ks_superIn K C C "__init__" = some (some (.builtin "ValueError.__init__"))
  veC : subIn K (.ref C) (.type "ValueError") = some true
  sa : findIn K (.ref C) "__setattr__" = some (some (.builtin "object.__setattr__"))
  ga : findIn K (.ref C) "__getattribute__" = some (some (.builtin "BaseException.__getattribute__"))
  gg : findIn K (.ref C) "__getattr__" = some none
  noN : findIn K (.ref C) "what" = some none
  iC : findIn K (.ref C) "__init__" = some (some (.ref fI))
  tC : typeIn K (.ref fI) = some (.type "function")
  kC : keepIn K (.ref C) = true
  exC : subIn K (.ref C) (.type "BaseException") = some true
  tyC : typeIn K (.ref C) = some (.type "type")
  hdC : hasDictIn K C = true
  opq : nsIn K cStatics "thirdparty.any" = some none
  noS : mg "super" = none
  mroC : mroIn K C (.ref C) = some true
  top : (P.main.scope.names.lookup ("super" : Str)).isSome = false
  fn : ∃ (oc : Value) (od : Option Addr) (doc pm : Value) (an : Option Addr) (cda : Addr) (ct : Value) (osl : Array (Option Value)) (cc : Addr) (cl : Value) (cld : Option Addr) (csl : Array (Option Value)) (ccl : Value) (cdd : Option Addr) (vs : Array Value) (ccs : Array (Option Value)) (file : Str) (tf : Tok),
    K.lookup fI = some ⟨oc, od, .func (fnX "__init__" "TooLarge.__init__" (fnArgs s_TooLarge___init) (fnBody s_TooLarge___init) (fnScope s_TooLarge___init) [("__class__", cc)] .none .none doc pm an (.ref cda) ct), osl⟩ ∧ codeIn K (.ref cda) "TooLarge.__init__" = true ∧
    K.lookup cc = some ⟨cl, cld, .cell (some (.ref C)), csl⟩ ∧ K.lookup cda = some ⟨ccl, cdd, .fields vs, ccs⟩ ∧ vs[2]? = some (.str file tf) ∧ ((P.main.file : Str) == file) = true
/-- what __init__ leaves of a fresh exception at x -/
structure Left (h h' : Heap) (x C dx t1 : Addr) (v : Value) : Prop where
  keep : ∀ b o, b ≠ x → h.get? b = some o → h'.get? b = some o
  obj : h'.get? x = some { cls := .ref C, dict := some dx, data := .fields #[.ref t1, .none, .none, .none, .bool false, .none] }
  dbig : h.objs.size ≤ dx
  dne : dx ≠ x
  ns : h'.Ns1 dx (fun y => if y = "what" then some v else none)
section
variable {prog : Program} {w : World} {A : Around} {E : Value → Shared → Prop} {R : Result → Shared → Prop} {s : Shared} {K : Frag} {mg mb : Str → Option Value} {C fI : Addr} {nm : Str}
/-- such an __init__, run on a fresh exception -/
theorem init (T : Txt prog K mg nm C fI) {x t0 : Addr} {v : Value} (X : K.In s.heap) (hlim : s.heap.NoLimit) (hmg : s.heap.Ns mainGlobals mg) (hmb : s.heap.Ns builtinsNs mb) (hsu : mb "super" = some (.type "super"))
    (hx : s.heap.get? x = some (excO C t0)) (hnx : K.lookup x = none) (hroom : A.depth < recursionLimit)
    (hq : ∀ h' tk dx t1, Left s.heap h' x C dx t1 v → R (.ok (.ret .none)) { s with heap := h', toks := tk }) :
    codeAny (model prog w) A (.call (.ref fI) ⟨[.ref x, v], []⟩) R s := by
  obtain ⟨oc, od, doc, pm, an, cda, ct, osl, cc, cl, cld, csl, ccl, cdd, vs, ccs, file, tf, ho, hcd, hcc, hcda, hvs, hfile⟩ := T.fn
  obtain ⟨nmC, q, N, bs, bm, sn, sub, ab, col, dd, k0, k1, k2, k3, k5, hC, hbm⟩ := T.cls
  have hcl : clsIn K C = some { name := nmC, bases := bs, mro := .ref C :: bm, ns := N, qualname := q, hasDict := true, slotNames := sn, subclasses := sub, abstract := ab, collection := col, hasDel := false } := by unfold clsIn; rw [hC] <;> rfl
  have hal := T.along
  unfold ks_superIn at hal
  rw [hcl] at hal
  have hxC : x ≠ C := fun z => by rw [z, hC] at hnx; cases hnx
  refine ks_codeAny_call_defAt (fd := fnX "__init__" "TooLarge.__init__" (fnArgs s_TooLarge___init) (fnBody s_TooLarge___init) (fnScope s_TooLarge___init) [("__class__", cc)] .none .none doc pm an (.ref cda) ct) (binds := [("self", .ref x), ("what", v)]) hroom (X _ _ ho) rfl hlim
    (codeRec_of X hcd) rfl ?hb ?hcell ?hloc (fun h₁ hns k => ?_) rfl rfl rfl
  case hb => exact BindsTo.of_eq (by first | rfl | with_unfolding_all rfl)
  case hcell =>
    show ∀ x ∈ (fnScope s_TooLarge___init).names, x.2 ≠ .cell
    decide +kernel
  case hloc =>
    intro y hy
    rcases List.mem_cons.mp hy with rfl | hy
    · first | rfl | kernel_rfl
    · rw [List.mem_singleton.mp hy]
      first | rfl | kernel_rfl
  have X1 : K.In h₁ := X.keeps k
  have hx1 := k _ _ hx
  have hxL : s.heap.objs.size ≠ x := Nat.ne_of_gt (Heap.lt_size hx)
  show PySem.wpAt _ (A.deeper (ksEnv "TooLarge.__init__" (fnScope s_TooLarge___init) s.heap.objs.size fI (.ref cda) cc)) (.func (fnBody s_TooLarge___init) (ksEnv "TooLarge.__init__" (fnScope s_TooLarge___init) s.heap.objs.size fI (.ref cda) cc)) (execs (fnBody s_TooLarge___init) (ksEnv "TooLarge.__init__" (fnScope s_TooLarge___init) s.heap.objs.size fI (.ref cda) cc)) _ _ _
  refine ks_wpAt_execs_cons (ks_wpAt_Expr_any (ks_wpAt_MethodCall ?_))
  obtain ⟨arS, har, hars⟩ : ∃ ar, ((fnArgs s_TooLarge___init).posonlyargs ++ (fnArgs s_TooLarge___init).args).head? = some ar ∧ ar.arg = "self" := ⟨_, rfl, rfl⟩
  refine ks_wpAt_super_base (f := fI) (cc := cda) (file := file) (tf := tf) (vs := vs) (ar := arS) rfl rfl (by decide) rfl (X1 _ _ ho) rfl har rfl (X1 _ _ hcda) rfl hvs hfile T.top ?_
  refine ks_loadName_global rfl rfl (loadGlobal_builtin (hmg.keeps k) T.noS (hmb.keeps k) hsu ⟨rfl, ?_⟩)
  refine wpAny_loadName_free rfl rfl (c := cc) rfl ⟨_, X1 _ _ hcc, rfl⟩ ?_
  rw [hars]
  refine wpAny_loadName_local rfl rfl hns (v := .ref x) ?_ ?_
  · first | rfl | with_unfolding_all rfl | kernel_rfl
  refine ks_wpAny_isType_cls (X1 _ _ hC) rfl ⟨rfl, ?_⟩
  refine ks_wpAny_call_super (X1 _ _ hC) rfl hx1 rfl (fun c e => by cases e) (looks_mroIn X1 T.mroC) (fun h2 e2 g2 => ?_)
  have X2 : K.In h2 := X1.keeps g2
  have hx2 := g2 _ _ hx1
  have hI : InstAt h2 x (excO C t0) C none := ⟨hx2, rfl, rfl, trivial⟩
  refine kxs_getMethod kxs_ValueError e2 (looks_opaque X2 T.opq) (l₀ := .ref C :: bm) ((looks_clsIn X2 hcl).andThen .now) rfl X2 hal (hI.type.andThen (looks_subIn X2 T.veC)) hxC (by decide) ?_
  have up3 : ∀ b o, h2.get? b = some o → (h2.push (kxs_mw "ValueError.__init__" x)).get? b = some o := fun b o e => Heap.get?_push_of_some _ e
  have hw3 : (h2.push (kxs_mw "ValueError.__init__" x)).get? h2.objs.size = some (kxs_mw "ValueError.__init__" x) := Heap.get?_push_at rfl rfl
  generalize h2.push (kxs_mw "ValueError.__init__" x) = h3 at *
  refine kxs_callWith1 (u := h2.objs.size) (i := "ValueError.__init__") (x := x) (h₀ := h2) (L := x) (news := [(h2.objs.size, kxs_mw "ValueError.__init__" x)]) (fun p hp => ?_) (by simp) ?_
  · rw [List.mem_singleton] at hp
    subst hp
    exact ⟨hw3, fun z => absurd (Heap.lt_size hx2) (by rw [← show h2.objs.size = x from z]; exact Nat.lt_irrefl _), by
      cases e : h2.get? h2.objs.size with
      | none => rfl
      | some o => exact absurd (Heap.lt_size e) (Nat.lt_irrefl _)⟩
  refine PyProof.Rows.spliced_more (wpAny_Constant_str (PyProof.Rows.spliced_none ⟨hw3, ?_⟩))
  refine wpAny_call (codeAny_of_tree ?_)
  show wpAny _ _ (callAny (.ref h2.objs.size) ⟨[_], []⟩) _ _ _
  have hmwT : (Value.type "method-wrapper" == Value.type "method" || Value.type "method-wrapper" == Value.type "builtin_function_or_method" || Value.type "method-wrapper" == Value.type "method-wrapper") = true := by decide
  simp only [callAny]
  refine wpAny_bind (wpAny_load hw3 ?_)
  simp only [kxs_mw, hmwT, if_true]
  have X3 : K.In h3 := X2.keeps up3
  have hx3 := up3 _ _ hx2
  refine KFB.if_so (by decide) (wpAny_bind (check_bound_init F.excBase_ValueError.toExcCallFacts (X3 _ _ hC) hx3 rfl (wpAny_bind (wpAny_pure (wpAny_pure ⟨plainId_quiet F.excBase_ValueError.init.plain _, codeAny_builtin F.excBase_ValueError.initEntry ?_⟩)))))
  refine exc_init_tree (cls := .ref C) (t0 := t0) (dv := none) (c2 := .none) (c3 := .none) (b4 := .bool false) hx3 (by show 1 ≤ sizeLine; decide) (fun h4 k4 hx4 _ => ?_)
  have X4 : K.In h4 := fun a o e => k4 a o (fun z => by rw [z, hnx] at e; cases e) (X3 a o e)
  have old : ∀ b o, b ≠ x → h₁.get? b = some o → h4.get? b = some o := fun b o hb e => k4 b o hb (up3 b o (g2 b o e))
  have hns4 := hns.at (h' := h4) fun o e => old _ o hxL e
  refine wpAt_of_wpAny (wpAny_execs_cons (plainObj_wpAny_Assign_Attribute (wpAny_Name (wpAny_loadName_local rfl rfl hns4 (v := v) ?_ (wpAny_Name (wpAny_loadName_local rfl rfl hns4 (v := .ref x) ?_ ?_))))))
  · first | rfl | with_unfolding_all rfl | kernel_rfl
  · first | rfl | with_unfolding_all rfl | kernel_rfl
  refine set_plain X4 (ox := excO C h3.objs.size) (od := none) ⟨hx4, rfl, rfl, trivial⟩ T.sa ?_
  refine exc_osa X4 hx4 hcl (show refsVE (.ref C :: bm) = true from hbm) rfl T.noN (fun h5 tk5 dx k5 dn dne hx5 hn5 => wpAny_execs_nil (hq h5 tk5 dx _ ⟨fun b o hb e => k5 b o hb (old b o hb (k b o e)), hx5, ?_, dne, hn5⟩))
  exact Nat.le_of_lt (Nat.lt_of_lt_of_le hns4.lt dn)
/-- a made one -/
structure Made (h h' : Heap) (e C d : Addr) (v : Value) : Prop where
  keep : ∀ b o, h.get? b = some o → h'.get? b = some o
  new : h.objs.size ≤ e
  obj : ∃ oe vs, h'.get? e = some oe ∧ oe.cls = .ref C ∧ oe.dict = some d ∧ oe.data = .fields vs ∧ vs[1]? = some .none
  dbig : h.objs.size ≤ d
  dne : d ≠ e
  ns : h'.Ns1 d (fun y => if y = "what" then some v else none)
theorem made (T : Txt prog K mg nm C fI) {v : Value} (X : K.In s.heap) (hlim : s.heap.NoLimit) (hmg : s.heap.Ns mainGlobals mg) (hmb : s.heap.Ns builtinsNs mb) (hsu : mb "super" = some (.type "super")) (hroom : A.depth + 1 < recursionLimit)
    (hq : ∀ h' tk e d, Made s.heap h' e C d v → R (.ok (.ret (.ref e))) { s with heap := h', toks := tk }) : codeAny (model prog w) A (.call (.ref C) ⟨[v], []⟩) R s := by
  obtain ⟨nmC, q, N, bs, bm, sn, sub, ab, col, dd, k0, k1, k2, k3, k5, hC, hbm⟩ := T.cls
  obtain ⟨hp, g, dr, tk, os⟩ := s
  have up : ∀ b o, hp.get? b = some o → ((hp.push (kdv_tup [v])).push (excO C hp.objs.size)).get? b = some o := fun b o e => Heap.get?_push_of_some _ (Heap.get?_push_of_some _ e)
  have at2 : ((hp.push (kdv_tup [v])).push (excO C hp.objs.size)).get? (hp.objs.size + 1) = some (excO C hp.objs.size) := by heap_get
  have none2 : K.lookup (hp.objs.size + 1) = none := by
    cases e : K.lookup (hp.objs.size + 1) with
    | none => rfl
    | some o => exact absurd (Nat.lt_of_succ_lt (Heap.lt_size (show hp.get? (hp.objs.size + 1) = some o from X _ _ e))) (Nat.lt_irrefl _)
  refine call_own F.excBase_ValueError (fun Y => refsVE_contains Y bm hbm) (X _ _ hC) (looks_findIn X T.iC) (fun self => bind_fn X self T.tC) (by show 1 ≤ sizeLine; decide) ?_
  refine init (s := ⟨(hp.push (kdv_tup [v])).push (excO C hp.objs.size), g, dr, tk, os⟩) T (X.keeps up) (hlim.keeps up) (hmg.keeps up) (hmb.keeps up) hsu at2 none2 ?_ fun h' tk' dx t1 L => ⟨rfl, ?_⟩
  · show A.depth + 1 < recursionLimit
    exact hroom
  · have big : hp.objs.size + 1 + 1 ≤ dx := by
      have z := L.dbig
      rw [Heap.size_push, Heap.size_push] at z
      exact z
    exact hq h' tk' (hp.objs.size + 1) dx ⟨fun b o e => L.keep b o (Nat.ne_of_lt (Nat.lt_succ_of_lt (Heap.lt_size e))) (up b o e), Nat.le_succ _, ⟨_, _, L.obj, rfl, rfl, rfl, rfl⟩, Nat.le_trans (Nat.le_trans (Nat.le_succ _) (Nat.le_succ _)) big, L.dne, L.ns⟩
end
/-! the rules -/
theorem relO_fld {v : V} {u : Value} (r : RelV v u) (f : Str) : RelO (List.lookup f [(("what" : Str), v)]) (if f = "what" then some u else none) := by
  by_cases h : f = "what"
  · subst h
    have q : List.lookup ("what" : Str) [(("what" : Str), v)] = some v := by simp [List.lookup]
    rw [q, if_pos rfl]
    exact r
  · have e : (f == ("what" : Str)) = false := by simpa using h
    rw [if_neg h]
    simp [List.lookup, e]
    trivial
/-- TooLarge(e), raised -/
def tMkE (C : Addr) (ta : TA) : L2.St → Hp → XK → Prop := fun σ H Q => ta σ H fun vs H1 => ∃ v, vs = [v] ∧ ∀ d, H1 d = none → Q (.ref C) (some d) (upd H1 d (.xd [(("what" : Str), v)]))
section
variable {X : Cx} {C fI : Addr} {nm : Str}
theorem pmk {a : Expr} {ta : TA} {p pos : Pos} {k : Nat} (T : Txt X.prog X.K X.mg nm C fI) (hr : Room k X.A) (ha : PA X [a] ta) (hg : Gl X nm := by rfl) (hdb : (nm == ("__debug__" : Str)) = false := by decide)
    (he : starEach (a :: []) X.env = (false, eval a X.env) :: starEach [] X.env := by rfl) (hpl : (backTo pos (starEach [] X.env)).any (·.1) = false := by rfl) :
    PMk X (.Call (.Name nm p) [a] [] pos) (tMkE C ta) := by
  intro pins s σ H Q I h
  refine wpAny_Call_Name_kw (ld_glob I hg T.gC ?_ hdb)
  refine PySem.W.callWith_K (h₀ := X.base) I.ok.mod.kin T.kC (thn (ha.run pos pins s σ H _ I h) fun us s1 hh => ?_) he hpl
  obtain ⟨vs, H1, I1, r1, v, ev, q1⟩ := hh
  subst ev
  refine ⟨I1.kIn, ?_⟩
  cases r1 with
  | cons rv rn =>
    rename_i u us'
    cases rn
    show wpAny _ _ (call (.ref C) [u]) _ _ _
    have lim := I1.nolimit
    obtain ⟨mb, hmb1, hmb2⟩ := I1.mod.blt
    have hg1 := I1.mod.glob.keeps I1.bk
    have hb1 := hmb1.keeps I1.bk
    have hsu : mb "super" = some (.type "super") := (hmb2 _ (by decide)).trans (by decide +kernel)
    obtain ⟨hp, g, dr, tk, os⟩ := s1
    refine wpAny_call (made (mb := mb) T I1.kIn lim hg1 hb1 hsu (by have := hr.dp; omega) fun h' tk' e d M => ?_)
    show MkP X pins σ Q (.ref e) ⟨h', g, dr, tk', os⟩
    obtain ⟨oe, fv, hoe, hc, hd, hdat, h1⟩ := M.obj
    obtain ⟨G', g1, g2⟩ := restrict h' fun b => decide (b ≠ e)
    have there : ∀ b, b ≠ e → G'.get? b = h'.get? b := fun b hb => g1 b (decide_eq_true hb)
    have gone : G'.get? e = none := g2 e (by simp)
    have J : Inv X pins σ (upd H1 d (.xd [(("what" : Str), v)])) ⟨G', g, dr, tk', os⟩ := I1.laid (t' := tk') (fun b o q => (there b (Nat.ne_of_lt (Nat.lt_of_lt_of_le (Heap.lt_size q) M.new))).trans (M.keep b o q)) M.dbig
      ⟨_, M.ns.at (fun o q => (there d M.dne).trans q), fun f => relO_fld rv f⟩
    refine ⟨e, oe, fv, ⟨G', g, dr, tk', os⟩, _, .ref C, some d, rfl, J, fun b o q => ?_, gone, hoe, ⟨hc, hd⟩, hdat, h1, ?_, rfl, I1.bare, raises_own T.exC T.tyC, q1 d (I1.hok.fresh M.dbig)⟩
    · by_cases hb : b = e
      · have q' : G'.get? b = some o := q
        rw [hb, gone] at q'; cases q'
      · exact (there b hb).symm.trans q
    · rw [upd_ne (Ne.symm M.dne)]
      exact I1.hok.fresh M.new
/-- raise TooLarge(e) -/
def tRaiseE (C : Addr) (W : WX) (ta : TA) : TS := fun _ σ H => tMkE C ta σ H fun cls d H' => W cls d σ H'
theorem ps_raiseE {a : Expr} {ta : TA} {W : WX} {p pos pos2 : Pos} {k : Nat} (hc : X.calm = true) (T : Txt X.prog X.K X.mg nm C fI) (hr : Room k X.A) (tk : Takes X W) (ha : PA X [a] ta) (hg : Gl X nm := by rfl) (hdb : (nm == ("__debug__" : Str)) = false := by decide)
    (he : starEach (a :: []) X.env = (false, eval a X.env) :: starEach [] X.env := by rfl) (hpl : (backTo pos (starEach [] X.env)).any (·.1) = false := by rfl) :
    PS X (.Raise (some (.Call (.Name nm p) [a] [] pos)) none pos2) (tRaiseE C W ta) := ps_raise hc tk (pmk T hr ha hg hdb he hpl)
end
end SupX_TooLarge

namespace My
open PySem L2 C8 SX
end My
/-! isinstance(e, ..) of a caught error of an own class that has its dict -/
namespace ExIs
open PySem PySem.W PySem.Spec PySem.Calls PyProof.Rows
/-- what the class at D must say -/
structure ErrC (K : Frag) (D : Addr) : Prop where
  ga : findIn K (.ref D) "__getattribute__" = some (some (.builtin "BaseException.__getattribute__"))
  gg : findIn K (.ref D) "__getattr__" = some none
  exC : subIn K (.ref D) (.type "BaseException") = some true
  hdC : hasDictIn K D = true
  ca : findIn K (.ref D) "__class__" = some (some (.builtin "object.__class__"))
  sp : specialIn K (.builtin "object.__class__") "__get__" = some (some (.builtin "getset_descriptor.__get__"))
  tk : takesIn K (.builtin "object.__class__") = some true
  mo : mroIn K D (.type "object") = some true
theorem ErrC.clsThere {K : Frag} {D : Addr} (T : ErrC K D) : ∃ cd, clsIn K D = some cd := by
  obtain ⟨cd, hc, _⟩ := any_some T.hdC
  exact ⟨cd, hc⟩
theorem ErrC.binds {K : Frag} {D : Addr} (T : ErrC K D) (od : Option Obj) : findObj K D od "__class__" = some (.bind (.builtin "getset_descriptor.__get__") (.builtin "object.__class__")) := by
  obtain ⟨cd, hcd⟩ := T.clsThere
  have e1 := T.ca
  have e2 := T.sp
  have e3 := T.tk
  unfold findObj
  rw [hcd, Option.bind_some, e1, Option.bind_some]
  simp [e2, e3]
section
variable {prog : Program} {w : World} {A : Around} {E : Value → Shared → Prop} {s : Shared} {K : Frag} {x D : Addr} {ox : Obj} {od : Option Obj}
theorem askClass {Q : Option Value → Shared → Prop} (T : ErrC K D) (X : K.In s.heap) (I : InstAt s.heap x ox D od) (h : Q (some (.ref D)) { s with toks := s.toks + 1 }) : wpAny (model prog w) A (getAttr? (.ref x) "__class__") Q E s := by
  obtain ⟨hp, gs, dr, tok, os⟩ := s
  have ty := I.type (M := model prog w)
  have lga := looks_findIn (M := model prog w) X T.ga
  have lgg := looks_findIn (M := model prog w) X T.gg
  have lcl := looks_find (M := model prog w) X I (T.binds od)
  have isB : Looks (model prog w) hp (isInstance (.ref x) (.type "BaseException")) true := ty.andThen (looks_subIn X T.exC)
  have nq : (Value.builtin "BaseException.__getattribute__" == Value.builtin "object.__getattribute__") = false := by decide +kernel
  unfold getAttr? getAttrBy? getAttrBy
  refine wpAny_bind (wpAny_mkText (wpAny_bind (wpAny_attempt (wpAny_holding (wpAny_bind (ty.at (wpAny_bind (lga.at (?goal : _))))))))) 
  show wpAny _ _ (ite ((onTheHeap (Value.ref D) && Value.builtin "BaseException.__getattribute__" == Value.builtin "object.__getattribute__") = true) _ _) _ _ _
  rw [if_neg (by rw [nq]; simp)]
  unfold getAttrByItsOwn hookBefore
  refine wpAny_bind (?g2 : _)
  have onH : onTheHeap (Value.ref D) = true := rfl
  rw [if_pos onH]
  refine lgg.at (wpAny_bind (wpAny_attempt (wpAny_holding (?g3 : _))))
  unfold callGetattribute
  rw [if_neg (by simp)]
  unfold boundAndCalled
  rw [PySem.F.excAttr_ValueError.ga.bind (.ref x)]
  refine wpAny_bind (wpAny_pure (?g4 : _))
  show wpAny _ _ (call (.builtin "BaseException.__getattribute__") [.ref x, .str "__class__" tok]) _ _ _
  refine wpAny_call (codeAny_call_builtin PySem.F.excAttr_ValueError.ga.plain PySem.F.entry_bexc_ga (@check_slot (model prog w) _ _ ⟨hp, gs, dr, tok + 1, os⟩ "BaseException.__getattribute__" "BaseException" "__getattribute__" (.ref x) [.str "__class__" tok] [] _ (by decide +kernel) (by decide +kernel) isB
    (PySem.F.args_bexc_ga (.ref x) (.str "__class__" tok)) (?g5 : _)))
  unfold Builtin.«object.__getattribute__»
  refine wpAny_bind (wpAny_of_eq (a := ((Value.ref x : Value), [Value.str "__class__" tok])) (by first | rfl | (simp only [slotArgs]; rfl)) (wpAny_bind (wpAny_pure (wpAny_bind (ty.at (wpAny_bind (lcl.at (?g6 : _))))))))
  show wpAny _ _ (holding [Value.builtin "object.__class__"] (call (.builtin "getset_descriptor.__get__") [.builtin "object.__class__", .ref x, .ref D]) >>= ret) _ _ _
  refine wpAny_bind (wpAny_holding (wpAny_call (class_get (s := ⟨hp, gs, dr, tok + 1, os⟩) (ox := ox) (od := od) X I T.mo (wpAny_pure (?g7 : _)))))
  show wpAny _ _ (handedOut (.ref D)) _ _ _
  rw [handedOut_of (v := .ref D) rfl]
  first | exact wpAny_pure (wpAny_pure h) | exact wpAny_pure h | exact wpAny_pure (wpAny_bind (wpAny_pure (wpAny_pure h)))
theorem kit (T : ErrC K D) : KitX K (.ref x) (.ref D) (fun h => InstAt h x ox D od) where
  ty := fun _ _ _ I => I.type
  it := fun _ _ X _ => by
    obtain ⟨cd, hcd⟩ := T.clsThere
    unfold clsIn at hcd
    split at hcd
    · rename_i c' d' cd' sl' ho
      intro A' Q' E' s' k q
      unfold isType loadHead
      exact wpAny_bind (wpAny_loadPart (k _ _ (X _ _ ho)) (wpAny_pure q))
    · cases hcd
  ne := fun h tp dd its n sl X htp => Bool.eq_false_iff.mpr fun q => by
    obtain ⟨cd, hcd⟩ := T.clsThere
    have e : D = tp := Value.ref.inj (beq_iff_eq.mp q)
    subst e
    unfold clsIn at hcd
    split at hcd
    · rename_i c' d' cd' sl' ho
      cases (X _ _ ho).symm.trans htp
    · cases hcd
  ca := fun X I k => askClass T X I k
end
end ExIs
namespace L2
open PySem PySem.Spec PyProof.Rows
theorem inst_of {X : Cx} {pins : List (Addr × Obj)} {σ : L2.St} {H : Hp} {s : Shared} {a D dd : Addr} {oe : Obj} {pn : List (Addr × Obj)} {fs : List (Str × V)} (I : Inv (X.suite a ((a, oe) :: pn)) pins σ H s) (hz : Zc (.ref D) (some dd) oe) (hf : ∃ vs, oe.data = .fields vs) (he : H dd = some (.xd fs)) :
    ∃ od, PySem.W.InstAt s.heap a oe D (some od) := by
  obtain ⟨ha, _⟩ := I.pin (a, oe) (List.mem_append_left _ List.mem_cons_self)
  obtain ⟨vs, hd⟩ := hf
  have hx : ObjOk X.prog X.w H s.heap dd (.xd fs) := I.hok dd _ he
  obtain ⟨mA, hns, _⟩ := hx
  obtain ⟨od, ho, _⟩ := lookIn_ns hns
  exact ⟨od, ha, hz.1, by unfold PySem.W.notCls; rw [hd] <;> rfl, by rw [hz.2]; exact ho⟩
/-- isinstance(e, C), e the caught exception -/
def rIsX (K : PySem.W.Frag) (a : Addr) (cls : Value) (d : Option Addr) : List V → Hp → VK → Prop := fun xs H Q => ∃ (D C dd : Addr) (fs : List (Str × V)) (b : Bool), xs = [.ref a, .ref C] ∧ cls = .ref D ∧ d = some dd ∧ ExIs.ErrC K D ∧ H dd = some (.xd fs) ∧ PySem.W.kitOne K (.ref D) (.ref C) = some b ∧ Q (.bl b) H
theorem call_isX {X : Cx} {a : Addr} {cls : Value} {d : Option Addr} {oe : Obj} {pn : List (Addr × Obj)} (hz : Zc cls d oe) (hf : ∃ vs, oe.data = .fields vs) : CallR (X.suite a ((a, oe) :: pn)) (.builtin "isinstance") (rIsX X.K a cls d) := by
  intro pins s σ H xs us Q I r h
  obtain ⟨D, C, dd, fs, b, rfl, rfl, rfl, T, hx, e, q⟩ := h
  obtain ⟨u1, u2, rfl, r1, r2⟩ := vals2 r
  cases (show u1 = Value.ref a from r1)
  cases (show u2 = Value.ref C from r2)
  obtain ⟨od, J⟩ := inst_of I hz hf hx
  exact PySem.W.kia_one (ExIs.kit T) I.kIn J e (fun z => nomatch z) fun tk => ⟨.bl b, H, I.tok tk, rfl, q⟩
theorem crefs_of {cs : List Addr} {its : List Value} (h : Vals (cs.map V.ref) its) : its = cs.map Value.ref := by
  induction cs generalizing its with
  | nil => cases h; rfl
  | cons c cs ih =>
    cases h with
    | cons h1 h2 => rw [ih h2]; cases (show _ = Value.ref c from h1); rfl
/-- isinstance(e, (C1, ..)) -/
def rIsXT (K : PySem.W.Frag) (a : Addr) (cls : Value) (d : Option Addr) : List V → Hp → VK → Prop := fun xs H Q => ∃ (D tp dd : Addr) (cs : List Addr) (fs : List (Str × V)) (b : Bool), xs = [.ref a, .ref tp] ∧ cls = .ref D ∧ d = some dd ∧ ExIs.ErrC K D ∧ H dd = some (.xd fs) ∧ H tp = some (.tup (cs.map V.ref)) ∧
  PySem.W.kitAny K (.ref D) (cs.map Value.ref) = some b ∧ Q (.bl b) H
theorem call_isXT {X : Cx} {a : Addr} {cls : Value} {d : Option Addr} {oe : Obj} {pn : List (Addr × Obj)} (hz : Zc cls d oe) (hf : ∃ vs, oe.data = .fields vs) : CallR (X.suite a ((a, oe) :: pn)) (.builtin "isinstance") (rIsXT X.K a cls d) := by
  intro pins s σ H xs us Q I r h
  obtain ⟨D, tp, dd, cs, fs, b, rfl, rfl, rfl, T, hx, hT, e, q⟩ := h
  obtain ⟨u1, u2, rfl, r1, r2⟩ := vals2 r
  cases (show u1 = Value.ref a from r1)
  cases (show u2 = Value.ref tp from r2)
  obtain ⟨od, J⟩ := inst_of I hz hf hx
  obtain ⟨_, its, rv, o, h1, h2, n, h3⟩ := (show ObjOk X.prog X.w H s.heap tp (.tup (cs.map V.ref)) from I.hok tp _ hT)
  have e3 := crefs_of rv
  subst e3
  obtain ⟨oc, od2, dt, sl⟩ := o
  simp only at h2 h3
  subst h2 h3
  exact PySem.W.kia_tup (ExIs.kit T) I.kIn J h1 e (fun z => nomatch z) fun tk => ⟨.bl b, H, I.tok tk, rfl, q⟩
end L2
namespace My
open PySem L2 C8 SX

/-- what the walk asks of the module -/
structure Txt (K : PySem.W.Frag) (mg : Str → Option Value) (C_End : Addr) (C_Lot : Addr) (C_Turn : Addr) (C_Builder : Addr) (C_Game : Addr) (C_Position : Addr) (C_GameError : Addr) (C_BadRatio : Addr) (C_BadText : Addr) (C_BadPlan : Addr) (C_BadMove : Addr) (C_BadEdit : Addr) (C_BadVersion : Addr) (C_BadPaper : Addr) (C_TooLarge : Addr) : Prop where
  n_bool : mg "bool" = none
  n_dict : mg "dict" = none
  n_enumerate : mg "enumerate" = none
  n_int : mg "int" = none
  n_isinstance : mg "isinstance" = none
  n_len : mg "len" = none
  n_list : mg "list" = none
  n_range : mg "range" = none
  n_reversed : mg "reversed" = none
  n_str : mg "str" = none
  n_sum : mg "sum" = none
  n_tuple : mg "tuple" = none
  cl_End : Cls K C_End
  m_End : mg "End" = some (.ref C_End)
  i_End : InsC K C_End
  a_End_paid : NoAttr K C_End "paid"
  cl_Lot : Cls K C_Lot
  m_Lot : mg "Lot" = some (.ref C_Lot)
  i_Lot : InsC K C_Lot
  a_Lot_parts : NoAttr K C_Lot "parts"
  cl_Turn : Cls K C_Turn
  m_Turn : mg "Turn" = some (.ref C_Turn)
  i_Turn : InsC K C_Turn
  a_Turn_player : NoAttr K C_Turn "player"
  a_Turn_view : NoAttr K C_Turn "view"
  a_Turn_parts : NoAttr K C_Turn "parts"
  cl_Builder : Cls K C_Builder
  m_Builder : mg "Builder" = some (.ref C_Builder)
  i_Builder : InsC K C_Builder
  a_Builder_sizes : NoAttr K C_Builder "sizes"
  a_Builder_on : NoAttr K C_Builder "on"
  a_Builder_left : NoAttr K C_Builder "left"
  cl_Game : Cls K C_Game
  m_Game : mg "Game" = some (.ref C_Game)
  i_Game : InsC K C_Game
  a_Game_options : NoAttr K C_Game "options"
  a_Game_variables : NoAttr K C_Game "variables"
  a_Game_rounds : NoAttr K C_Game "rounds"
  cl_Position : Cls K C_Position
  m_Position : mg "Position" = some (.ref C_Position)
  i_Position : InsC K C_Position
  a_Position_waiting : NoAttr K C_Position "waiting"
  a_Position_count : NoAttr K C_Position "count"
  a_Position_paid : NoAttr K C_Position "paid"
  a_Position_view : NoAttr K C_Position "view"
  v_MOST_PLACES : ∃ u, mg "MOST_PLACES" = some u ∧ RelV (.int 400) u
  m_GameError : mg "GameError" = some (.ref C_GameError)
  m_BadRatio : mg "BadRatio" = some (.ref C_BadRatio)
  m_BadText : mg "BadText" = some (.ref C_BadText)
  m_BadPlan : mg "BadPlan" = some (.ref C_BadPlan)
  m_BadMove : mg "BadMove" = some (.ref C_BadMove)
  m_BadEdit : mg "BadEdit" = some (.ref C_BadEdit)
  m_BadVersion : mg "BadVersion" = some (.ref C_BadVersion)
  m_BadPaper : mg "BadPaper" = some (.ref C_BadPaper)
  m_TooLarge : mg "TooLarge" = some (.ref C_TooLarge)
  e_TooLarge : ExIs.ErrC K C_TooLarge
  f_TooLarge : XfC K C_TooLarge
  no_TooLarge : PySem.W.findIn K (.ref C_TooLarge) "what" = some none
  x_TooLarge : PySem.W.exmOne K (.ref C_TooLarge) (.ref C_TooLarge) = some true
  kLE : PySem.W.kitOne K (.ref C_Lot) (.ref C_End) = some false
  kTE : PySem.W.kitOne K (.ref C_Turn) (.ref C_End) = some false
  kTL : PySem.W.kitOne K (.ref C_Turn) (.ref C_Lot) = some false
  kX : PySem.W.kitAny K (.ref C_TooLarge) [.ref C_BadEdit, .ref C_BadMove, .ref C_BadPaper, .ref C_BadPlan, .ref C_BadRatio, .ref C_BadText, .ref C_BadVersion] = some false
  gE : PySem.W.subIn K (.ref C_GameError) (.type "BaseException") = some true
  gH : PySem.W.hasDictIn K C_GameError = true
  gT : PySem.W.typeIn K (.ref C_GameError) = some (.type "type")
  gS : PySem.W.subIn K (.ref C_TooLarge) (.ref C_GameError) = some true
  ok : True
/-! defs that raise: their promise, their calls (in a def that raises, in a try) -/
structure CalX (P : Program) (w : World) (K : PySem.W.Frag) (mg : Str → Option Value) (base : Heap) (k : Nat) (x : Str) (sp : Sp) (dvs : List V) : Prop where
  ex : ∃ (f : Addr) (fd : FuncData) (ps : List Str) (ds : List Value), FnOk P w K mg base (L2.CX P w) k f fd ps sp ∧ mg x = some (.ref f) ∧ PySem.W.keepIn K (.ref f) = true ∧ Binds K fd ps ds ∧ Vals dvs ds
/-- .. called with keywords -/
structure CalXK (P : Program) (w : World) (K : PySem.W.Frag) (mg : Str → Option Value) (base : Heap) (k : Nat) (x : Str) (sp : Sp) (n : Nat) (ks : List Str) (gV : List V → List V → List V) : Prop where
  ex : ∃ (f : Addr) (fd : FuncData) (ps : List Str) (g : List Value → List Value → List Value), FnOk P w K mg base (L2.CX P w) k f fd ps sp ∧ mg x = some (.ref f) ∧ PySem.W.keepIn K (.ref f) = true ∧ KBn K fd ps n ks g gV
structure MetX (P : Program) (w : World) (K : PySem.W.Frag) (mg : Str → Option Value) (base : Heap) (k : Nat) (C : Addr) (m : Str) (sp : Sp) (dvs : List V) : Prop where
  ex : ∃ (f : Addr) (fd : FuncData) (ps : List Str) (ds : List Value), Cls K C ∧ Meth K C m f ∧ FnOk P w K mg base (L2.CX P w) k f fd ps sp ∧ Binds K fd ps ds ∧ Vals dvs ds
section
variable {P : Program} {w : World} {K : PySem.W.Frag} {mg : Str → Option Value} {base : Heap}
theorem fnx {x qual : Str} {st : Stmt} {f : Addr} {fd : FuncData} {N ps : List Str} {k : Nat} {sp : Sp} (F : C8.Fun K x qual st f fd) (S : FnScope N ps (fnScope st)) (len : ∀ vs H Q E, sp vs H Q E → vs.length = ps.length)
    (hbody : ∀ (cdv : Value) (A : Around) (outer : List Env) (s : Shared) (H : Hp) (vs : List V) (Q : VK) (E : XK), Room k (A.deeper (PyProof.Rows.envOfC qual (fnScope st) s.heap.objs.size f cdv)) → sp vs H Q E →
      ∃ t, PSs (cxOf (L2.CX P w) P w K mg base N qual (fnScope st) f cdv A outer s H E) (fnBody st) t ∧ t { nx := fun _ H' => Q .non H', rt := Q } (start N vs) H) : FnOk P w K mg base (L2.CX P w) (k + 1) f fd ps sp := by
  obtain ⟨oc, od, dV, kV, doc, pm, an, cdv, ct, osl, rfl, lk, hcd⟩ := F.ex
  exact fn_of lk hcd S len fun A outer s H vs Q E hr hsp => hbody cdv A outer s H vs Q E hr hsp
theorem CalX.of {x : Str} {st : Stmt} {f : Addr} {fd : FuncData} {ps : List Str} {ds : List Value} {dvs : List V} {k : Nat} {sp : Sp} (F : C8.Def K mg x st f fd) (ok : FnOk P w K mg base (L2.CX P w) k f fd ps sp) (b : Binds K fd ps ds) (d : Vals dvs ds) : CalX P w K mg base k x sp dvs :=
  ⟨f, fd, ps, ds, ok, F.mgf, F.kp, b, d⟩
end
section
variable {X : Cx} {k j n : Nat} {C : Addr} {x m : Str} {sp : Sp} {dvs : List V} {p pos apos : Pos} {e o : Expr} {es : List Expr} {ta : TE} {t tk : TA} {E : XK} {W : WX} {ks : List Str} {gV : List V → List V → List V} {kws : List Keyword}
/-- called in a def that lets out what E says -/
theorem pe_cX (c : CalX X.prog X.w X.K X.mg X.base k x sp dvs) (hr : Room j X.A) (hk : k ≤ j) (hg : Gl X x) (hx : Passes (L2.CX X.prog X.w) X E) (ha : PA X (e :: es) t)
    (hdb : (x == ("__debug__" : Str)) = false := by decide) (he : starEach (e :: es) X.env = (false, eval e X.env) :: starEach es X.env := by rfl) (hpl : (backTo pos (starEach es X.env)).any (·.1) = false := by rfl) :
    PE X (.Call (.Name x p) (e :: es) [] pos) (tCall sp dvs E t) := by
  obtain ⟨f, fd, ps, ds, F, hm, kp, b, d⟩ := c.ex
  exact pe_call F (hr.mono hk) hg hm kp b d hx ha hdb he hpl
/-- called in a try -/
theorem pe_cS (c : CalX X.prog X.w X.K X.mg X.base k x sp dvs) (hr : Room j X.A) (hk : k ≤ j) (hg : Gl X x) (tk : Takes X W) (ha : PA X (e :: es) t)
    (hdb : (x == ("__debug__" : Str)) = false := by decide) (he : starEach (e :: es) X.env = (false, eval e X.env) :: starEach es X.env := by rfl) (hpl : (backTo pos (starEach es X.env)).any (·.1) = false := by rfl) :
    PE X (.Call (.Name x p) (e :: es) [] pos) (tCallSD sp dvs (WE W) t) := by
  obtain ⟨f, fd, ps, ds, F, hm, kp, b, d⟩ := c.ex
  exact pe_callSD F (hr.mono hk) hg hm kp b d (fun σ => passAt tk σ) ha hdb he hpl
def tCallSK (sp : Sp) (n : Nat) (ks : List Str) (gV : List V → List V → List V) (E : L2.St → XK) (t tk : TA) : TE := fun σ H Q => t σ H fun vs H1 => tk σ H1 fun zs H2 => vs.length = n ∧ zs.length = ks.length ∧ sp (gV vs zs) H2 Q (E σ)
/-- called in a try, with keywords -/
theorem pe_cKS (c : CalXK X.prog X.w X.K X.mg X.base k x sp n ks gV) (hr : Room j X.A) (hk : k ≤ j) (hg : Gl X x) (tw : Takes X W) (ha : PA X (e :: es) t) (hkw : PK X kws tk)
    (hall : (backToKw pos (keywordEach kws X.env)).all (·.1.isSome) = true := by rfl) (hks : (backToKw pos (keywordEach kws X.env)).filterMap (·.1) = ks := by rfl)
    (hdb : (x == ("__debug__" : Str)) = false := by decide) (he : starEach (e :: es) X.env = (false, eval e X.env) :: starEach es X.env := by rfl)
    (hpl : ((backTo pos (starEach (e :: es) X.env)).any (·.1) || (backToKw pos (keywordEach kws X.env)).any (·.1.isNone)) = false := by rfl) :
    PE X (.Call (.Name x p) (e :: es) kws pos) (tCallSK sp n ks gV (WE W) t tk) := by
  obtain ⟨f, fd, ps, g, F, hm, kp, b⟩ := c.ex
  refine ⟨fun pins s σ H Q I h => wpAny_Call_Name_kw (ld_glob I hg hm (PySem.W.callWith_KW (h₀ := X.base) I.ok.mod.kin kp hall (thn (ha.run pos pins s σ H _ I h) fun us s1 ⟨vs, H1, I1, r, q⟩ => ?_) hpl he) hdb)⟩
  refine thn (hkw.run pos pins s1 σ H1 _ I1 q) fun ws s2 ⟨zs, H2, I2, rz, l1, l2, q2⟩ => ⟨I2.kIn, ?_⟩
  rw [hks]
  have r2 := b.rel r rz
  refine wpAny_call (codeAny_mono (F.run X.A X.stack s2 H2 ⟨us, ks.zip ws⟩ (g us ws) (gV vs zs) Q (WE W σ) (hr.mono hk) I2.env0 (b.to s2 us ws I2.kIn (r.length.symm.trans l1) (rz.length.symm.trans l2)) r2 q2) fun r s' hq => ?_)
  cases r with
  | error er => exact passAt tw σ pins H2 s2 er s' I2 hq
  | ok fl =>
    cases fl with
    | ret u => exact I2.after hq
    | next => exact hq.elim
    | brk => exact hq.elim
    | cont => exact hq.elim
end

/-! properties, raising methods, calls with keywords -/
structure Prp (P : Program) (w : World) (K : PySem.W.Frag) (mg : Str → Option Value) (base : Heap) (k : Nat) (C : Addr) (f : Str) (sp : Sp) : Prop where
  ex : ∃ (p g : Addr) (fd : FuncData) (ps : List Str), Cls K C ∧ PropOf K C f p g ∧ FnOk P w K mg base C8.CX0 k g fd ps sp ∧ Binds K fd ps []
structure MakK (P : Program) (w : World) (K : PySem.W.Frag) (mg : Str → Option Value) (base : Heap) (k : Nat) (x : Str) (C : Addr) (sp : Sp) (n : Nat) (ks : List Str) (gV : List V → List V → List V) : Prop where
  ex : ∃ (f : Addr) (fd : FuncData) (ps : List Str) (g : List Value → List Value → List Value), Mk K C f ∧ FnOk P w K mg base C8.CX0 k f fd ps sp ∧ mg x = some (.ref C) ∧ KBn K fd ps (n + 1) ks g gV
section
variable {X : Cx} {k j n : Nat} {C : Addr} {x m f : Str} {sp : Sp} {dvs : List V} {p pos apos : Pos} {e o : Expr} {es : List Expr} {ta : TE} {t tk : TA} {E : XK} {W : WX} {ks : List Str} {gV : List V → List V → List V} {kws : List Keyword}
theorem pe_pr (c : Prp X.prog X.w X.K X.mg X.base k C f sp) (hr : Room j X.A) (hk : k + 1 ≤ j) (he : PE X e ta) (hab : attributeBase e f X.env (eval e X.env) = eval e X.env) : PE X (.Attribute e f pos) (tProp C sp [] C8.E0 ta) := by
  obtain ⟨p, g, fd, ps, hc, hp, F, b⟩ := c.ex
  exact pe_prop he hc hp F (hr.mono hk) b .nil C8.pass0 hab
theorem pe_mX {pl : Sem Bool} (c : MetX X.prog X.w X.K X.mg X.base k C m sp dvs) (hr : Room j X.A) (hk : k ≤ j) (hx : Passes (L2.CX X.prog X.w) X E) (he : PE X o ta) (ha : PA X (e :: es) t)
    (hst : starEach (e :: es) X.env = (false, eval e X.env) :: starEach es X.env := by rfl) (hpl : (backTo pos (starEach es X.env)).any (·.1) = false := by rfl)
    (ht : eval (.Call (.Attribute o m apos) (e :: es) [] pos) X.env = (do
      let ov ← eval o X.env
      standAt apos.atName
      let (f, first) ← holding [ov] (getMethod ov m pl)
      callWith pos f first (backTo pos (starEach (e :: es) X.env)) (backToKw pos (keywordEach [] X.env))) := by rfl) :
    PE X (.Call (.Attribute o m apos) (e :: es) [] pos) (tMeth C m sp dvs E ta t) := by
  obtain ⟨f, fd, ps, ds, hc, hm, F, b, d⟩ := c.ex
  exact pe_meth (pl := pl) he hc hm F (hr.mono hk) b d hx ha hst hpl ht
def tCallKX (sp : Sp) (n : Nat) (ks : List Str) (gV : List V → List V → List V) (E : XK) (t tk : TA) : TE := fun σ H Q => t σ H fun vs H1 => tk σ H1 fun zs H2 => vs.length = n ∧ zs.length = ks.length ∧ sp (gV vs zs) H2 Q E
/-- called with keywords, in a def that lets out what E says -/
theorem pe_cKX (c : CalXK X.prog X.w X.K X.mg X.base k x sp n ks gV) (hr : Room j X.A) (hk : k ≤ j) (hg : Gl X x) (hx : Passes (L2.CX X.prog X.w) X E) (ha : PA X (e :: es) t) (hkw : PK X kws tk)
    (hall : (backToKw pos (keywordEach kws X.env)).all (·.1.isSome) = true := by rfl) (hks : (backToKw pos (keywordEach kws X.env)).filterMap (·.1) = ks := by rfl)
    (hdb : (x == ("__debug__" : Str)) = false := by decide) (he : starEach (e :: es) X.env = (false, eval e X.env) :: starEach es X.env := by rfl)
    (hpl : ((backTo pos (starEach (e :: es) X.env)).any (·.1) || (backToKw pos (keywordEach kws X.env)).any (·.1.isNone)) = false := by rfl) :
    PE X (.Call (.Name x p) (e :: es) kws pos) (tCallKX sp n ks gV E t tk) := by
  obtain ⟨f, fd, ps, g, F, hm, kp, b⟩ := c.ex
  refine ⟨fun pins s σ H Q I h => wpAny_Call_Name_kw (ld_glob I hg hm (PySem.W.callWith_KW (h₀ := X.base) I.ok.mod.kin kp hall (thn (ha.run pos pins s σ H _ I h) fun us s1 ⟨vs, H1, I1, r, q⟩ => ?_) hpl he) hdb)⟩
  refine thn (hkw.run pos pins s1 σ H1 _ I1 q) fun ws s2 ⟨zs, H2, I2, rz, l1, l2, q2⟩ => ⟨I2.kIn, ?_⟩
  rw [hks]
  have r2 := b.rel r rz
  refine wpAny_call (codeAny_mono (F.run X.A X.stack s2 H2 ⟨us, ks.zip ws⟩ (g us ws) (gV vs zs) Q E (hr.mono hk) I2.env0 (b.to s2 us ws I2.kIn (r.length.symm.trans l1) (rz.length.symm.trans l2)) r2 q2) fun r s' hq => ?_)
  cases r with
  | error er => exact hx pins σ H2 s2 er s' I2 hq
  | ok fl =>
    cases fl with
    | ret u => exact I2.after hq
    | next => exact hq.elim
    | brk => exact hq.elim
    | cont => exact hq.elim
theorem pe_mkK (c : MakK X.prog X.w X.K X.mg X.base k x C sp n ks gV) (hr : Room j X.A) (hk : k + 1 ≤ j) (hg : Gl X x) (ha : PA X (e :: es) t) (hkw : PK X kws tk)
    (hall : (backToKw pos (keywordEach kws X.env)).all (·.1.isSome) = true := by rfl) (hks : (backToKw pos (keywordEach kws X.env)).filterMap (·.1) = ks := by rfl) (hdb : (x == ("__debug__" : Str)) = false := by decide)
    (he : starEach (e :: es) X.env = (false, eval e X.env) :: starEach es X.env := by rfl) (hpl : ((backTo pos (starEach (e :: es) X.env)).any (·.1) || (backToKw pos (keywordEach kws X.env)).any (·.1.isNone)) = false := by rfl) :
    PE X (.Call (.Name x p) (e :: es) kws pos) (tMakeK C n ks.length sp gV C8.E0 t tk) := by
  obtain ⟨f, fd, ps, g, M, F, hm, b⟩ := c.ex
  exact pe_makeK M F (hr.mono hk) hg hm b C8.pass0 ha hkw hall hks hdb he hpl
end
section
variable {X : Cx} {k j : Nat} {C : Addr} {m : Str} {sp : Sp} {dvs : List V} {pos apos : Pos} {o : Expr} {ta : TE} {E : XK}
theorem pe_mX0 {pl : Sem Bool} (c : MetX X.prog X.w X.K X.mg X.base k C m sp dvs) (hr : Room j X.A) (hk : k ≤ j) (hx : Passes (L2.CX X.prog X.w) X E) (he : PE X o ta)
    (ht : eval (.Call (.Attribute o m apos) [] [] pos) X.env = (do
      let ov ← eval o X.env
      standAt apos.atName
      let (f, first) ← holding [ov] (getMethod ov m pl)
      callWith pos f first (backTo pos (starEach [] X.env)) (backToKw pos (keywordEach [] X.env))) := by rfl) :
    PE X (.Call (.Attribute o m apos) [] [] pos) (tMeth C m sp dvs E ta tNil) := by
  obtain ⟨f, fd, ps, ds, hc, hm, F, b, d⟩ := c.ex
  exact pe_meth0 (pl := pl) he hc hm F (hr.mono hk) b d hx ht
end

/-- tuples stand -/
def TK (H H' : Hp) : Prop := ∀ b xs, H b = some (.tup xs) → H' b = some (.tup xs)
theorem TK.refl (H : Hp) : TK H H := fun _ _ h => h
theorem TK.trans {H H1 H2 : Hp} (a : TK H H1) (b : TK H1 H2) : TK H H2 := fun c xs h => b c xs (a c xs h)
theorem TK.new {H : Hp} {p : Addr} {o : HO} (h : H p = none) : TK H (upd H p o) := fun b xs q => by rw [upd_ne (ne_of_none q h)]; exact q
theorem TK.lst {H : Hp} {p : Addr} {o : HO} {ys : List V} (h : H p = some (.lst ys)) : TK H (upd H p o) := fun b xs q => by
  rw [upd_ne (ne_of q h (by intro z; cases z))]; exact q
theorem Keep.tk {H H' : Hp} (k : Keep [] H H') : TK H H' := fun b xs q => k b _ q (by simp)
theorem Keep.tk1 {H H' : Hp} {p : Addr} {ys : List V} (k : Keep [p] H H') (h : H p = some (.lst ys)) : TK H H' := fun b xs q => k b _ q (by
  have := ne_of q h (by intro z; cases z)
  simpa using this)

/-! tuples whose object is known: their methods -/
def TupD (H : Hp) (a : Addr) (xs : List V) : Prop := ∃ o : Obj, H a = some (.frz o (.tup xs)) ∧ o.cls = .type "tuple" ∧ o.dict = none
theorem TupD.sq {K : PySem.W.Frag} {H : Hp} {a : Addr} {xs : List V} (h : TupD H a xs) : SqT K H a xs := by
  obtain ⟨o, e, _⟩ := h
  exact .inl (.inr ⟨o, e⟩)
theorem TupD.keep {H H' : Hp} {W : List Addr} {a : Addr} {xs : List V} (h : TupD H a xs) (k : Keep W H H') (w : a ∉ W) : TupD H' a xs := by
  obtain ⟨o, e, c, d⟩ := h
  exact ⟨o, k _ _ e w, c, d⟩
section
open PySem.Spec PyProof.Rows
variable {X : Cx} {T id : String} {r : V → List V → Hp → VK → Prop} {o e : Expr} {es : List Expr} {to : TE} {t : TA} {name : Str} {apos cpos pos : Pos}
theorem tupD_is {pins : List (Addr × Obj)} {σ : L2.St} {H : Hp} {s : Shared} {a : Addr} {xs : List V} (I : Inv X pins σ H s) (h : TupD H a xs) :
    s.TypeIs (.ref a) "tuple" ∧ ∀ b, Value.ref a = .ref b → ∃ ob, s.heap.get? b = some ob ∧ ob.dict = none := by
  obtain ⟨o, e, c, d⟩ := h
  obtain ⟨g, _⟩ := I.hok _ _ e
  exact ⟨⟨o, g, c⟩, fun b q => by cases q; exact ⟨o, g, d⟩⟩
theorem pe_bmZ (pa : PlainAttrs "tuple") (slot : Slot "tuple" name id) (hty : typeOf (.builtin id) = pure (.type "method_descriptor")) (hm : MtR X id r) (ho : PE X o to) (ha : PA X (e :: es) t)
    (hbase : attributeBase o name X.env (eval o X.env) = eval o X.env := by rfl)
    (hfew : ((backTo cpos (starEach (e :: es) X.env)).all (fun x => !x.1) && (backToKw cpos (keywordEach [] X.env)).all (fun x => x.1.isSome)
      && decide ((e :: es).length + ([] : List Keyword).length + (if ([] : List Keyword).isEmpty then 0 else 1) < 30)) = true := by rfl)
    (hline : (apos.endLine == cpos.line) = true := by rfl) (hs : starEach (e :: es) X.env = (false, eval e X.env) :: starEach es X.env := by rfl) (hplain : (backTo cpos (starEach es X.env)).any (·.1) = false := by rfl) :
    PE X (.Call (.Attribute o name apos) (e :: es) [] cpos) (fun σ H Q => to σ H fun x H1 => ∃ a xs, x = .ref a ∧ TupD H1 a xs ∧ t σ H1 fun ys H2 => r x ys H2 Q) := by
  refine ⟨fun pins s σ H Q I h => ?_⟩
  refine wpAny_Call_method_late hbase hfew hline rfl (thn (ho.run pins s σ H _ I h) fun v s1 ⟨x, H1, I1, r1, a, xs, hx, ty, q1⟩ => ?_)
  subst hx
  obtain rfl : v = Value.ref a := r1
  obtain ⟨h1, h2⟩ := tupD_is I1 ty
  refine ⟨"tuple", id, pa, slot, hty, h1, h2, ?_⟩
  have hA := ha.run cpos pins s1 σ H1 _ I1 q1
  rw [hs] at hA ⊢
  refine Calls.callWith_builtin (by show (false || (backTo cpos (starEach es X.env)).any (·.1)) = false; rw [hplain] <;> rfl) (Calls.evalArgs_plain ?_)
  exact thn hA fun us s2 ⟨vs, H2, I2, r2, q2⟩ => hm pins s2 σ H2 (.ref a) vs (.ref a) us Q I2 rfl r2 q2
theorem pe_tupZ {x1} (h : PA X es t) : PE X (.Tuple es x1 pos) (fun σ H Q => t σ H fun xs H1 => xs.length ≤ sizeLine ∧ ∀ p o, H1 p = none → o.cls = .type "tuple" → o.dict = none → Q (.ref p) (upd H1 p (.frz o (.tup xs)))) := by
  refine ⟨fun pins s σ H Q I hq => ?_⟩
  refine wpAny_Tuple_spliced (thn (h.run pos pins s σ H _ I hq) fun us s1 ⟨xs, H1, I1, r, z, q⟩ => ⟨by rw [← r.length]; exact z, ?_⟩)
  have hf : H1 s1.heap.objs.size = none := I1.hok.fresh (Nat.le_refl _)
  refine ⟨.ref s1.heap.objs.size, upd H1 s1.heap.objs.size (.frz { cls := .type "tuple", data := .seq us.toArray } (.tup xs)), I1.laid (t' := s1.toks) (fun b u e => Heap.get?_push_of_some _ e) (Nat.le_refl _) ?_, rfl, q _ _ hf rfl rfl⟩
  exact ⟨Heap.get?_push_size _ rfl, z, us, r, ⟨_, Heap.get?_push_size _ rfl, rfl, _, rfl⟩⟩
theorem call_tuple_ofZ : CallR X (.type "tuple") (fun xs H Q => ∃ p ys, xs = [.ref p] ∧ SqL X.K H p ys ∧ ∀ l o, H l = none → o.cls = .type "tuple" → o.dict = none → Q (.ref l) (upd H l (.frz o (.tup ys)))) := by
  intro pins s σ H xs us Q I r h
  obtain ⟨p, ys, rfl, hq, q⟩ := h
  obtain ⟨u, rfl, rx⟩ := vals1 r
  cases rx
  obtain ⟨its, r', pl, hz⟩ := I.list hq
  have hlen := r'.length
  refine call_tuple_list pl.isList (fun h' kp => ?_) (by simp only [List.size_toArray] <;> omega)
  have I1 : Inv X pins σ H { s with heap := h' } := I.kept (t' := s.toks) kp
  have I2 : Inv X pins σ (upd H h'.objs.size (.frz { cls := .type "tuple", data := .seq its.toArray } (.tup ys))) { s with heap := h'.push { cls := .type "tuple", data := .seq its.toArray } } :=
    I1.laid (t' := s.toks) (fun b o e => Heap.get?_push_of_some _ e) (Nat.le_refl _) (show ObjOk X.prog X.w _ _ _ (.frz _ (.tup ys)) from ⟨Heap.get?_push_size _ rfl, hz, its, r', IsTup.new _ _⟩)
  exact ⟨.ref h'.objs.size, _, I2, rfl, q _ _ (I1.hok.fresh (Nat.le_refl _)) rfl rfl⟩
end

/-! dict(a tuple of pairs), the tuple's object known -/
section
open PySem.Spec PyProof.Rows
variable {X : Cx}
theorem tup_vals {pins : List (Addr × Obj)} {σ : L2.St} {H : Hp} {s : Shared} (I : Inv X pins σ H s) : ∀ {ps : List Addr} {kvs : List (Key × V)}, Paired (fun p kv => SqT X.K H p [kV kv.1, kv.2]) ps kvs →
    ∃ (prs : List (Key × Value)) (qs : List (Value × Value)), KV kvs prs ∧ prs.length = ps.length ∧ qs.length = ps.length ∧
      ∀ (j : Nat) (k v : Value), qs[j]? = some (k, v) → ∃ (b : Addr) (c : Key), ps[j]? = some b ∧ prs[j]? = some (c, v) ∧ IsTup s.heap b #[k, v] ∧ keyIs c k = true
  | _, _, .nil => ⟨[], [], .nil, rfl, rfl, fun j k v e => by cases e⟩
  | _, _, .cons (a := p) (b := kv) h t => by
    obtain ⟨prs, qs, r, h1, h2, h3⟩ := tup_vals I t
    obtain ⟨its, rv, ht, _⟩ := I.tuple h
    obtain ⟨u, y, rfl, ru, ry⟩ := vals2 rv
    refine ⟨(kv.1, y) :: prs, (u, y) :: qs, .cons ⟨rfl, ry⟩ r, congrArg (· + 1) h1, congrArg (· + 1) h2, fun j k v e => ?_⟩
    cases j with
    | zero => cases e; exact ⟨p, kv.1, rfl, rfl, ht, kV_is (P := X.prog) (w := X.w) ru⟩
    | succ j => exact h3 j k v e
theorem call_dictT (hcalm : X.calm = true) : CallR X (.type "dict") (fun xs H Q => ∃ (a : Addr) (ps : List Addr) (kvs : List (Key × V)), xs = [.ref a] ∧ TupD H a (ps.map V.ref) ∧ Paired (fun p kv => SqT X.K H p [kV kv.1, kv.2]) ps kvs ∧
    ∀ d, H d = none → Q (.ref d) (upd H d (.dK (mergeK [] kvs)))) := by
  intro pins s σ H xs us Q I r h
  obtain ⟨a, ps, kvs, rfl, ⟨o, e, hc, hd⟩, hp, q⟩ := h
  obtain ⟨u, rfl, rx⟩ := vals1 r
  cases rx
  obtain ⟨g, z, its, rv, o', g', hc', n, hdat⟩ := I.hok _ _ e
  rw [g] at g'; cases g'
  have ei := refs_at rv
  subst ei
  obtain ⟨prs, qs, rel, h1, h2, h3⟩ := tup_vals I hp
  rw [List.length_map] at z
  have hT : ∀ j, j < qs.length → ∃ b, ps[j]? = some b := fun j hj => ⟨_, List.getElem?_eq_getElem (by omega)⟩
  refine PySem.call_dict_pairs (knd := mixKind X.prog X.w) (kvs := prs) (PairArg.tuple a (ps.map Value.ref).toArray (fun j => ps.getD j 0) qs) (I.ok.hd hcalm) ⟨⟨o, n, g, hc, hd, hdat⟩, ?_, fun j k v hj => ?_⟩ ⟨by omega, fun i key v hi => ?_⟩ (by omega) fun h' tk hd' k => ?_
  · rw [List.size_toArray, List.length_map]; exact h2.symm
  · obtain ⟨b, c, e1, e2, e3, e4⟩ := h3 j k v hj
    have eg : ps.getD j 0 = b := by rw [List.getD_eq_getElem?_getD, e1]; rfl
    exact ⟨by simp [e1], .inl (by show IsTup s.heap (ps.getD j 0) #[k, v]; rw [eg]; exact e3)⟩
  · obtain ⟨b, c, e1, e2, e3, e4⟩ := h3 i key v hi
    exact ⟨c, e2, e4⟩
  · have hm : (s.heap.objs.size == sysModules) = false := beq_eq_false_iff_ne.mpr (Nat.ne_of_gt I.big)
    have hlen : (mergeK [] kvs).length ≤ sizeLine := by
      have h4 := length_mergeK kvs []
      have h5 := rel.length
      rw [List.length_nil] at h4; omega
    refine ⟨.ref s.heap.objs.size, _, I.laid (t' := tk) (fun b o e => k b o (by simp) e) (Nat.le_refl _) (show ObjOk X.prog X.w _ _ _ (.dK (mergeK [] kvs)) from ⟨hlen, hm, _, KV.merge rel .nil, hd'⟩), rfl, q _ (I.hok.fresh (Nat.le_refl _))⟩
end

/-! addresses that all stand and are unlike one another -/
structure Liv (H : Hp) (L : List Addr) : Prop where
  nd : L.Nodup
  on : ∀ a ∈ L, ∃ o, H a = some o
theorem Liv.nil {H : Hp} : Liv H [] := ⟨List.nodup_nil, fun _ h => by cases h⟩
theorem Liv.cons {H : Hp} {L : List Addr} {a : Addr} {o : HO} (h : Liv H L) (n : H a = none) : Liv (upd H a o) (a :: L) := by
  have hne : ∀ b ∈ L, b ≠ a := fun b hb => by obtain ⟨u, hu⟩ := h.on b hb; exact ne_of_none hu n
  refine ⟨List.nodup_cons.mpr ⟨fun z => hne a z rfl, h.nd⟩, fun b hb => ?_⟩
  rcases List.mem_cons.mp hb with rfl | hb
  · exact ⟨_, upd_same⟩
  · obtain ⟨u, hu⟩ := h.on b hb
    exact ⟨u, by rw [upd_ne (hne b hb)]; exact hu⟩
/-- one that stands, new since a heap in which the others stand -/
theorem Liv.cons' {H H' : Hp} {L : List Addr} {a : Addr} {o : HO} (h : Liv H L) (n : H a = none) (h' : Liv H' L) (ha : H' a = some o) : Liv H' (a :: L) :=
  ⟨List.nodup_cons.mpr ⟨fun z => (by obtain ⟨u, hu⟩ := h.on a z; rw [n] at hu; cases hu), h.nd⟩, fun b hb => by
    rcases List.mem_cons.mp hb with rfl | hb
    · exact ⟨_, ha⟩
    · exact h'.on b hb⟩
theorem Liv.keep {H H' : Hp} {L W : List Addr} (h : Liv H L) (k : Keep W H H') (w : ∀ a ∈ W, ∃ o, H' a = some o) : Liv H' L :=
  ⟨h.nd, fun a ha => by
    by_cases z : a ∈ W
    · exact w a z
    · obtain ⟨o, ho⟩ := h.on a ha
      exact ⟨o, k _ _ ho z⟩⟩
theorem Liv.keep0 {H H' : Hp} {L : List Addr} (h : Liv H L) (k : Keep [] H H') : Liv H' L := h.keep k fun _ z => by cases z
theorem Liv.keep1 {H H' : Hp} {L : List Addr} {p : Addr} {o : HO} (h : Liv H L) (k : Keep [p] H H') (hp : H' p = some o) : Liv H' L := h.keep k fun a z => by
  rw [List.mem_singleton] at z; exact ⟨o, by rw [z]; exact hp⟩
theorem nodup_ne {L : List Addr} (h : L.Nodup) {i j : Nat} {a b : Addr} (ha : L[i]? = some a) (hb : L[j]? = some b) (hij : i ≠ j) : a ≠ b := by
  obtain ⟨h1, e1⟩ := List.getElem?_eq_some_iff.mp ha
  obtain ⟨h2, e2⟩ := List.getElem?_eq_some_iff.mp hb
  have hp := List.pairwise_iff_getElem.mp h
  rcases Nat.lt_or_gt_of_ne hij with z | z
  · have := hp i j h1 h2 z
    rwa [e1, e2] at this
  · have := hp j i h2 h1 z
    rw [e1, e2] at this
    exact fun w => this w.symm
theorem Liv.ne {H : Hp} {L : List Addr} (h : Liv H L) (i j : Nat) {a b : Addr} (ha : L[i]? = some a) (hb : L[j]? = some b) (hij : i ≠ j := by decide) : a ≠ b := nodup_ne h.nd ha hb hij
theorem Liv.notNew {H : Hp} {L : List Addr} (h : Liv H L) {a : Addr} (n : H a = none) : a ∉ L := fun z => by
  obtain ⟨u, hu⟩ := h.on a z; rw [n] at hu; cases hu
theorem Liv.cons2 {H H' : Hp} {L : List Addr} {a b : Addr} {o u : HO} (h : Liv H L) (na : H a = none) (nb : H b = none) (ne : a ≠ b) (h' : Liv H' L) (ha : H' a = some o) (hb : H' b = some u) : Liv H' (b :: a :: L) := by
  have h1 := h.cons' na h' ha
  refine ⟨List.nodup_cons.mpr ⟨fun z => ?_, h1.nd⟩, fun c hc => ?_⟩
  · rcases List.mem_cons.mp z with z | z
    · exact ne z.symm
    · exact h.notNew nb z
  · rcases List.mem_cons.mp hc with rfl | hc
    · exact ⟨_, hb⟩
    · exact h1.on c hc
/-- a new instance and its dict -/
theorem Liv.made {H : Hp} {L : List Addr} {x d : Addr} {o : HO} (h : Liv H L) (nx : H x = none) (nd : H d = none) (ne : d ≠ x) : Liv (upd (upd H d (.own x)) x o) (x :: L) :=
  (h.keep0 (Keep.new nd)).cons (by rw [upd_ne ne.symm]; exact nx)
theorem made_at {H : Hp} {x d b : Addr} {o u : HO} (hx : H x = none) (hd : H d = none) (h : H b = some u) : upd (upd H d (.own x)) x o b = some u := by
  rw [upd_ne (ne_of_none h hx), upd_ne (ne_of_none h hd)]; exact h
theorem Keep.made {H : Hp} {x d : Addr} {o : HO} (hx : H x = none) (hd : H d = none) : Keep [] H (upd (upd H d (.own x)) x o) := fun _ _ h _ => made_at hx hd h
theorem Keep.tkL {H H' : Hp} {W : List Addr} (k : Keep W H H') (h : ∀ a ∈ W, ∃ ys, H a = some (.lst ys)) : TK H H' := fun b xs q => k b _ q fun z => by
  obtain ⟨ys, hy⟩ := h b z
  rw [q] at hy; cases hy

theorem calUp {P : Program} {w : World} {K : PySem.W.Frag} {mg : Str → Option Value} {base : Heap} {j k : Nat} {x : Str} {sp : Sp} {dvs : List V} (c : C8.Cal P w K mg base j x sp dvs) (h : j ≤ k) : C8.Cal P w K mg base k x sp dvs := by
  obtain ⟨f, fd, ps, ds, F, hm, kp, b, d⟩ := c.ex
  exact ⟨f, fd, ps, ds, F.mono h, hm, kp, b, d⟩

/-! statements of a round, trees -/
inductive Sg where
  | rnd (i : Int)
  | drw (x : Str) (s : Nat)
  | mov (pl : Int) (x : Str) (s : Nat) (i : Int)
def Sg.row : Sg → List V
  | .rnd i => [.str "round", .int i]
  | .drw x s => [.str "draw", .str x, .int s]
  | .mov pl x s i => [.str "move", .int pl, .str x, .int s, .int i]
def nodes : List Sg → Nat
  | [] => 1
  | .rnd _ :: r => nodes r
  | .drw _ s :: r => 1 + s * nodes r
  | .mov _ _ s _ :: r => 1 + s * nodes r
def leaves : List Sg → Nat
  | [] => 1
  | .rnd _ :: r => leaves r
  | .drw _ s :: r => s * leaves r
  | .mov _ _ s _ :: r => s * leaves r
inductive Rst (H : Hp) : V → List Sg → Prop
  | nil : Rst H .non []
  | cons {p s : Addr} {v : V} {st : Sg} {r : List Sg} : H p = some (.tup [.ref s, v]) → H s = some (.tup st.row) → Rst H v r → Rst H (.ref p) (st :: r)
theorem Rst.tk {H H' : Hp} (k : TK H H') {v : V} {l : List Sg} (h : Rst H v l) : Rst H' v l := by
  induction h with
  | nil => exact .nil
  | cons h1 h2 _ ih => exact .cons (k _ _ h1) (k _ _ h2) ih
inductive Tr (CE CL CT b : Addr) (H : Hp) : V → List Sg → Prop
  | fin {p dx : Addr} : H p = some (.ins CE dx [("paid", .int 0)]) → p ≠ b → Tr CE CL CT b H (.ref p) []
  | rnd {v : V} {r : List Sg} {i : Int} : Tr CE CL CT b H v r → Tr CE CL CT b H v (.rnd i :: r)
  | lot {p dx t : Addr} {vs : List V} {x : Str} {s : Nat} {r : List Sg} : H p = some (.ins CL dx [("parts", .ref t)]) → p ≠ b → H t = some (.tup vs) → vs.length = s → (∀ v ∈ vs, Tr CE CL CT b H v r) → Tr CE CL CT b H (.ref p) (.drw x s :: r)
  | turn {p dx t : Addr} {pl i : Int} {w : V} {vs : List V} {x : Str} {s : Nat} {r : List Sg} : H p = some (.ins CT dx [("player", .int pl), ("view", w), ("parts", .ref t)]) → p ≠ b → H t = some (.tup vs) → vs.length = s → (∀ v ∈ vs, Tr CE CL CT b H v r) → Tr CE CL CT b H (.ref p) (.mov pl x s i :: r)
theorem Tr.keep {CE CL CT b : Addr} {H H' : Hp} (k : Keep [b] H H') (hb : ∀ xs, H b ≠ some (.tup xs)) {v : V} {l : List Sg} (h : Tr CE CL CT b H v l) : Tr CE CL CT b H' v l := by
  have tk : ∀ t xs, H t = some (.tup xs) → H' t = some (.tup xs) := fun t xs h => k _ _ h (by
    intro q; rw [List.mem_singleton.mp q] at h; exact hb _ h)
  have kp : ∀ {p : Addr} {o : HO}, H p = some o → p ≠ b → H' p = some o := fun h n => k _ _ h (by simpa using n)
  induction h with
  | fin h n => exact .fin (kp h n) n
  | rnd _ ih => exact .rnd ih
  | lot h n t e _ ih => exact .lot (kp h n) n (tk _ _ t) e fun v hv => ih v hv
  | turn h n t e _ ih => exact .turn (kp h n) n (tk _ _ t) e fun v hv => ih v hv
theorem Tr.lst {CE CL CT b pa : Addr} {H : Hp} {o : HO} {ys : List V} (hp : H pa = some (.lst ys)) {v : V} {l : List Sg} (h : Tr CE CL CT b H v l) : Tr CE CL CT b (upd H pa o) v l := by
  have tk : ∀ t xs, H t = some (.tup xs) → upd H pa o t = some (.tup xs) := fun t xs h => by rw [upd_ne (ne_of h hp (by intro z; cases z))]; exact h
  have kp : ∀ {p C dx : Addr} {fs : List (Str × V)}, H p = some (.ins C dx fs) → upd H pa o p = some (.ins C dx fs) := fun h => by rw [upd_ne (ne_of h hp (by intro z; cases z))]; exact h
  induction h with
  | fin h n => exact .fin (kp h) n
  | rnd _ ih => exact .rnd ih
  | lot h n t e _ ih => exact .lot (kp h) n (tk _ _ t) e fun v hv => ih v hv
  | turn h n t e _ ih => exact .turn (kp h) n (tk _ _ t) e fun v hv => ih v hv
theorem nodes_pos : ∀ l : List Sg, 0 < nodes l
  | [] => Nat.one_pos
  | .rnd _ :: r => nodes_pos r
  | .drw _ s :: r => by show 0 < 1 + s * nodes r; omega
  | .mov _ _ s _ :: r => by show 0 < 1 + s * nodes r; omega
/-! instances with one, three, four fields -/
def sp_ini1 (C : Addr) (f : Str) : Sp := fun vs H Q _ => ∃ x dx v, vs = [.ref x, v] ∧ H x = some (.ins C dx []) ∧ Q .non (upd H x (.ins C dx [(f, v)]))
def sp_ini3 (C : Addr) (f g h : Str) : Sp := fun vs H Q _ => ∃ x dx u v w, vs = [.ref x, u, v, w] ∧ H x = some (.ins C dx []) ∧ Q .non (upd H x (.ins C dx [(f, u), (g, v), (h, w)]))
def sp_ini4 (C : Addr) (f g h k : Str) : Sp := fun vs H Q _ => ∃ x dx u v w z, vs = [.ref x, u, v, w, z] ∧ H x = some (.ins C dx []) ∧ Q .non (upd H x (.ins C dx [(f, u), (g, v), (h, w), (k, z)]))
section
variable {P : Program} {w : World} {K : PySem.W.Frag} {mg : Str → Option Value} {base : Heap} {C_End : Addr} {C_Lot : Addr} {C_Turn : Addr} {C_Builder : Addr} {C_Game : Addr} {C_Position : Addr} {C_GameError : Addr} {C_BadRatio : Addr} {C_BadText : Addr} {C_BadPlan : Addr} {C_BadMove : Addr} {C_BadEdit : Addr} {C_BadVersion : Addr} {C_BadPaper : Addr} {C_TooLarge : Addr} {f_TooLarge___init : Addr}
theorem ok_end {f : Addr} {fd : FuncData} (M : Mk K C_End f) (F : C8.Fun K "__init__" "End.__init__" s_End___init f fd) (b : Binds K fd ["self", "paid"] []) (T : Txt K mg C_End C_Lot C_Turn C_Builder C_Game C_Position C_GameError C_BadRatio C_BadText C_BadPlan C_BadMove C_BadEdit C_BadVersion C_BadPaper C_TooLarge) : C8.Mak P w K mg base 1 "End" C_End (sp_ini1 C_End "paid") [] := by
  refine mak0 M T.m_End F b .nil sc_End___init (fun vs H Q E h => ?_) (fun cdv A outer s H vs Q E hr h => ?_)
  · obtain ⟨x, dx, v, rfl, _⟩ := h
    rfl
  · obtain ⟨x, dx, v, rfl, hx, k⟩ := h
    refine ⟨_, (pss_one (ps_fld (pv 0) (pv 1) rfl)), ?_⟩
    exact ⟨_, rfl, _, rfl, x, C_End, dx, [], rfl, hx, T.cl_End, T.a_End_paid, by show 0 < 1000; decide, k⟩
theorem ok_lot {f : Addr} {fd : FuncData} (M : Mk K C_Lot f) (F : C8.Fun K "__init__" "Lot.__init__" s_Lot___init f fd) (b : Binds K fd ["self", "parts"] []) (T : Txt K mg C_End C_Lot C_Turn C_Builder C_Game C_Position C_GameError C_BadRatio C_BadText C_BadPlan C_BadMove C_BadEdit C_BadVersion C_BadPaper C_TooLarge) : C8.Mak P w K mg base 1 "Lot" C_Lot (sp_ini1 C_Lot "parts") [] := by
  refine mak0 M T.m_Lot F b .nil sc_Lot___init (fun vs H Q E h => ?_) (fun cdv A outer s H vs Q E hr h => ?_)
  · obtain ⟨x, dx, v, rfl, _⟩ := h
    rfl
  · obtain ⟨x, dx, v, rfl, hx, k⟩ := h
    refine ⟨_, (pss_one (ps_fld (pv 0) (pv 1) rfl)), ?_⟩
    exact ⟨_, rfl, _, rfl, x, C_Lot, dx, [], rfl, hx, T.cl_Lot, T.a_Lot_parts, by show 0 < 1000; decide, k⟩
theorem ok_turn {f : Addr} {fd : FuncData} (M : Mk K C_Turn f) (F : C8.Fun K "__init__" "Turn.__init__" s_Turn___init f fd) (b : Binds K fd ["self", "player", "view", "parts"] []) (T : Txt K mg C_End C_Lot C_Turn C_Builder C_Game C_Position C_GameError C_BadRatio C_BadText C_BadPlan C_BadMove C_BadEdit C_BadVersion C_BadPaper C_TooLarge) : C8.Mak P w K mg base 1 "Turn" C_Turn (sp_ini3 C_Turn "player" "view" "parts") [] := by
  refine mak0 M T.m_Turn F b .nil sc_Turn___init (fun vs H Q E h => ?_) (fun cdv A outer s H vs Q E hr h => ?_)
  · obtain ⟨x, dx, u, v, w, rfl, _⟩ := h
    rfl
  · obtain ⟨x, dx, u, v, w, rfl, hx, k⟩ := h
    refine ⟨_, (pss_cons (ps_fld (pv 0) (pv 1) rfl)
(pss_cons (ps_fld (pv 0) (pv 2) rfl)
(pss_one (ps_fld (pv 0) (pv 3) rfl)))), ?_⟩
    refine ⟨_, rfl, _, rfl, x, C_Turn, dx, [], rfl, hx, T.cl_Turn, T.a_Turn_player, by show 0 < 1000; decide, ?_⟩
    refine ⟨_, rfl, _, rfl, x, C_Turn, dx, _, rfl, upd_same, T.cl_Turn, T.a_Turn_view, by show 1 < 1000; decide, ?_⟩
    refine ⟨_, rfl, _, rfl, x, C_Turn, dx, _, rfl, upd_same, T.cl_Turn, T.a_Turn_parts, by show 2 < 1000; decide, ?_⟩
    rw [upd_upd, upd_upd]; exact k
theorem ok_position {f : Addr} {fd : FuncData} (M : Mk K C_Position f) (F : C8.Fun K "__init__" "Position.__init__" s_Position___init f fd) (b : Binds K fd ["self", "waiting", "count", "paid", "view"] []) (T : Txt K mg C_End C_Lot C_Turn C_Builder C_Game C_Position C_GameError C_BadRatio C_BadText C_BadPlan C_BadMove C_BadEdit C_BadVersion C_BadPaper C_TooLarge) : C8.Mak P w K mg base 1 "Position" C_Position (sp_ini4 C_Position "waiting" "count" "paid" "view") [] := by
  refine mak0 M T.m_Position F b .nil sc_Position___init (fun vs H Q E h => ?_) (fun cdv A outer s H vs Q E hr h => ?_)
  · obtain ⟨x, dx, u, v, w, z, rfl, _⟩ := h
    rfl
  · obtain ⟨x, dx, u, v, w, z, rfl, hx, k⟩ := h
    refine ⟨_, (pss_cons (ps_fld (pv 0) (pv 1) rfl)
(pss_cons (ps_fld (pv 0) (pv 2) rfl)
(pss_cons (ps_fld (pv 0) (pv 3) rfl)
(pss_one (ps_fld (pv 0) (pv 4) rfl))))), ?_⟩
    refine ⟨_, rfl, _, rfl, x, C_Position, dx, [], rfl, hx, T.cl_Position, T.a_Position_waiting, by show 0 < 1000; decide, ?_⟩
    refine ⟨_, rfl, _, rfl, x, C_Position, dx, _, rfl, upd_same, T.cl_Position, T.a_Position_count, by show 1 < 1000; decide, ?_⟩
    refine ⟨_, rfl, _, rfl, x, C_Position, dx, _, rfl, upd_same, T.cl_Position, T.a_Position_paid, by show 2 < 1000; decide, ?_⟩
    refine ⟨_, rfl, _, rfl, x, C_Position, dx, _, rfl, upd_same, T.cl_Position, T.a_Position_view, by show 3 < 1000; decide, ?_⟩
    rw [upd_upd, upd_upd, upd_upd]; exact k
/-- Game(options, variables, rounds), all of them tuples: they are kept as they are -/
def sp_game (K : PySem.W.Frag) (C : Addr) : Sp := fun vs H Q _ => ∃ x dx a b c as bs cs, vs = [.ref x, .ref a, .ref b, .ref c] ∧ H x = some (.ins C dx []) ∧ SqT K H a as ∧ SqT K H b bs ∧ SqT K H c cs ∧ Q .non (upd H x (.ins C dx [("options", .ref a), ("variables", .ref b), ("rounds", .ref c)]))
theorem ok_game {f : Addr} {fd : FuncData} (M : Mk K C_Game f) (F : C8.Fun K "__init__" "Game.__init__" s_Game___init f fd) (b : Binds K fd ["self", "options", "variables", "rounds"] []) (T : Txt K mg C_End C_Lot C_Turn C_Builder C_Game C_Position C_GameError C_BadRatio C_BadText C_BadPlan C_BadMove C_BadEdit C_BadVersion C_BadPaper C_TooLarge) : C8.Mak P w K mg base 1 "Game" C_Game (sp_game K C_Game) [] := by
  refine mak0 M T.m_Game F b .nil sc_Game___init (fun vs H Q E h => ?_) (fun cdv A outer s H vs Q E hr h => ?_)
  · obtain ⟨x, dx, a, b, c, as, bs, cs, rfl, _⟩ := h
    rfl
  · obtain ⟨x, dx, a, b, c, as, bs, cs, rfl, hx, ha, hb, hc, k⟩ := h
    refine ⟨_, (pss_cons (ps_fld (pv 0) (pe_callTy call_tupleT (by rfl) T.n_tuple bo_tuple (pa_cons (pv 1) pa_nil)) rfl)
(pss_cons (ps_fld (pv 0) (pe_callTy call_tupleT (by rfl) T.n_tuple bo_tuple (pa_cons (pv 2) pa_nil)) rfl)
(pss_one (ps_fld (pv 0) (pe_callTy call_tupleT (by rfl) T.n_tuple bo_tuple (pa_cons (pv 3) pa_nil)) rfl)))), ?_⟩
    have up : ∀ {t : Addr} {xs : List V} {fs : List (Str × V)}, SqT K H t xs → SqT K (upd H x (.ins C_Game dx fs)) t xs := fun h => by
      rcases h with (h | ⟨o, h⟩) | h
      · exact .inl (.inl (by rw [upd_ne (ne_of h hx (by intro z; cases z))]; exact h))
      · exact .inl (.inr ⟨o, by rw [upd_ne (ne_of h hx (by intro z; cases z))]; exact h⟩)
      · exact .inr h
    refine ⟨_, rfl, _, _, rfl, ha, _, rfl, x, C_Game, dx, [], rfl, hx, T.cl_Game, T.a_Game_options, by show 0 < 1000; decide, ?_⟩
    refine ⟨_, rfl, _, _, rfl, up hb, _, rfl, x, C_Game, dx, _, rfl, upd_same, T.cl_Game, T.a_Game_variables, by show 1 < 1000; decide, ?_⟩
    rw [upd_upd]
    refine ⟨_, rfl, _, _, rfl, up hc, _, rfl, x, C_Game, dx, _, rfl, upd_same, T.cl_Game, T.a_Game_rounds, by show 2 < 1000; decide, ?_⟩
    rw [upd_upd]; exact k
end

structure Bd (C : Addr) (H : Hp) (b sd : Addr) (od : V) (kvs : List (Key × V)) (L : Int) : Prop where
  o : ∃ dx, H b = some (.ins C dx [("sizes", .ref sd), ("on", od), ("left", .int L)])
  s : H sd = some (.dK kvs)
theorem Bd.keep0 {C : Addr} {H H' : Hp} {b sd : Addr} {od : V} {kvs : List (Key × V)} {L : Int} (h : Bd C H b sd od kvs L) (k : Keep [] H H') : Bd C H' b sd od kvs L := by
  obtain ⟨dx, o⟩ := h.o
  exact ⟨⟨dx, k _ _ o (by simp)⟩, k _ _ h.s (by simp)⟩
theorem Bd.notup {C : Addr} {H : Hp} {b sd : Addr} {od : V} {kvs : List (Key × V)} {L : Int} (h : Bd C H b sd od kvs L) : ∀ xs, H b ≠ some (.tup xs) := by
  obtain ⟨dx, o⟩ := h.o
  intro xs e; rw [o] at e; cases e
theorem Bd.some {C : Addr} {H : Hp} {b sd : Addr} {od : V} {kvs : List (Key × V)} {L : Int} (h : Bd C H b sd od kvs L) : H b ≠ none := by
  obtain ⟨dx, o⟩ := h.o
  intro e; rw [o] at e; cases e
theorem Bd.tk {C : Addr} {H H' : Hp} {b sd : Addr} {od : V} {kvs : List (Key × V)} {L : Int} (h : Bd C H b sd od kvs L) (k : Keep [b] H H') : TK H H' := fun t xs e => k _ _ e (by
  intro q; rw [List.mem_singleton.mp q] at e; exact h.notup _ e)
/-- what was new is new -/
theorem Bd.free {C : Addr} {H H' : Hp} {b sd : Addr} {od : V} {kvs : List (Key × V)} {L : Int} (h : Bd C H' b sd od kvs L) (k : Keep [b] H H') {t : Addr} (n : H' t = none) : H t = none := by
  obtain ⟨dx, o⟩ := h.o
  exact k.free1 o n
theorem Bd.ne {C : Addr} {H : Hp} {b sd : Addr} {od : V} {kvs : List (Key × V)} {L : Int} (h : Bd C H b sd od kvs L) {t : Addr} (n : H t = none) : t ≠ b := by
  intro q; subst q; exact h.some n
abbrev Big (CB : Addr) (H : Hp) (E : XK) (b : Addr) : Prop := ∀ d H', H d = none → H' d = some (.xd [(("what" : Str), .str "places")]) → Keep [b] H H' → E (.ref CB) (some d) H'
def sp_place (C CB : Addr) : Sp := fun vs H Q E => ∃ b sd od kvs L, vs = [.ref b] ∧ Bd C H b sd od kvs L ∧ (1 ≤ L → ∀ H', Bd C H' b sd od kvs (L - 1) → Keep [b] H H' → Q .non H') ∧ (L ≤ 0 → Big CB H E b)
def sp_stored (C : Addr) : Sp := fun vs H Q _ => ∃ (b sd t : Addr) (od : V) (kvs tv : List (Key × V)) (L : Int) (x : Str) (v : Int), vs = [.ref b, .ref t, .str x, .int v] ∧ Bd C H b sd od kvs L ∧ valV kvs (.inr x) = some (.int 3) ∧ H t = some (.dK tv) ∧ tv.length ≤ 1000 ∧
  ∀ r tv' H', H r = none → H' r = some (.dK tv') → tv'.length ≤ tv.length + 1 → Keep [] H H' → Q (.ref r) H'
/-- a pair of views, none of them long -/
def Seen (K : PySem.W.Frag) (H : Hp) (v : V) (n : Nat) : Prop := ∃ p a b as bs, v = .ref p ∧ H p = some (.tup [.ref a, .ref b]) ∧ H a = some (.tup as) ∧ H b = some (.tup bs) ∧ as.length ≤ n ∧ bs.length ≤ n
theorem Seen.tk {K : PySem.W.Frag} {H H' : Hp} {v : V} {n : Nat} (h : Seen K H v n) (k : TK H H') : Seen K H' v n := by
  obtain ⟨p, a, b, as, bs, e, h1, h2, h3, h4, h5⟩ := h
  exact ⟨p, a, b, as, bs, e, k _ _ h1, k _ _ h2, k _ _ h3, h4, h5⟩
theorem Seen.mono {K : PySem.W.Frag} {H : Hp} {v : V} {n m : Nat} (h : Seen K H v n) (k : n ≤ m) : Seen K H v m := by
  obtain ⟨p, a, b, as, bs, e, h1, h2, h3, h4, h5⟩ := h
  exact ⟨p, a, b, as, bs, e, h1, h2, h3, by omega, by omega⟩
def sp_shown (K : PySem.W.Frag) : Sp := fun vs H Q _ => ∃ (v : V) (to : Int) (ev : V) (n : Nat), vs = [v, .int to, ev] ∧ Seen K H v n ∧ n ≤ 1000 ∧ ∀ v' H', Seen K H' v' (n + 1) → Keep [] H H' → Q v' H'
def sp_chained : Sp := fun vs H Q _ => ∃ (a : Addr) (rv : V) (rows : List Sg) (ps : List Addr) (r : List Sg), vs = [.ref a, rv] ∧ H a = some (.tup (ps.map V.ref)) ∧ Paired (fun p st => H p = some (.tup (Sg.row st))) ps rows ∧ Rst H rv r ∧
  ∀ v H', Rst H' v (rows ++ r) → Keep [] H H' → Q v H'
section
variable {P : Program} {w : World} {K : PySem.W.Frag} {mg : Str → Option Value} {base : Heap} {C_End : Addr} {C_Lot : Addr} {C_Turn : Addr} {C_Builder : Addr} {C_Game : Addr} {C_Position : Addr} {C_GameError : Addr} {C_BadRatio : Addr} {C_BadText : Addr} {C_BadPlan : Addr} {C_BadMove : Addr} {C_BadEdit : Addr} {C_BadVersion : Addr} {C_BadPaper : Addr} {C_TooLarge : Addr} {f_TooLarge___init : Addr}
theorem ok_place {f : Addr} {fd : FuncData} (me : Meth K C_Builder "place" f) (F : C8.Fun K "place" "Builder.place" s_Builder_place f fd) (b : Binds K fd ["self"] []) (T : Txt K mg C_End C_Lot C_Turn C_Builder C_Game C_Position C_GameError C_BadRatio C_BadText C_BadPlan C_BadMove C_BadEdit C_BadVersion C_BadPaper C_TooLarge) (X_TooLarge : SupX_TooLarge.Txt P K mg "TooLarge" C_TooLarge f_TooLarge___init) :
    MetX P w K mg base 3 C_Builder "place" (sp_place C_Builder C_TooLarge) [] := by
  refine ⟨f, fd, ["self"], [], T.cl_Builder, me, ?_, b, .nil⟩
  refine fnx F sc_Builder_place (fun vs H Q E h => ?_) (fun cdv A outer s H vs Q E hr h => ?_)
  · obtain ⟨b, sd, od, kvs, L, rfl, _⟩ := h
    rfl
  · obtain ⟨b, sd, od, kvs, L, rfl, hB, k1, k2⟩ := h
    refine ⟨_, (pss_cons (ps_fld (pv 0) (pe_op op_sub (pe_fld (pv 0) rfl) pe_int) rfl)
(pss_one (ps_if (pt_cmpR op_lt (pe_fld (pv 0) rfl) pe_int (nomark _))
  (pss_one (SupX_TooLarge.ps_raiseE rfl X_TooLarge hr (takes_of rfl rfl rfl rfl) (pa_cons pe_str pa_nil)))
  pss_nil))), ?_⟩
    obtain ⟨dx, o⟩ := hB.o
    refine ⟨_, rfl, b, C_Builder, dx, _, _, rfl, o, T.cl_Builder, T.a_Builder_left, rfl, _, _, rfl, rfl, _, rfl, b, C_Builder, dx, _, rfl, o, T.cl_Builder, T.a_Builder_left, by show 3 < 1000; decide, ?_⟩
    have es : sd ≠ b := ne_of hB.s o (by intro z; cases z)
    have hB' : Bd C_Builder (upd H b (.ins C_Builder dx (putF "left" (.int (L - 1)) [("sizes", .ref sd), ("on", od), ("left", .int L)]))) b sd od kvs (L - 1) := ⟨⟨dx, upd_same⟩, by rw [upd_ne es]; exact hB.s⟩
    have kb : Keep [b] H (upd H b (.ins C_Builder dx (putF "left" (.int (L - 1)) [("sizes", .ref sd), ("on", od), ("left", .int L)]))) := Keep.at_ (List.mem_singleton.mpr rfl)
    refine ⟨_, rfl, b, C_Builder, dx, _, _, rfl, upd_same, T.cl_Builder, T.a_Builder_left, rfl, _, _, rfl, rfl, _, rfl, iteD (fun h => ?_) (fun h => k1 (by omega) _ hB' kb)⟩
    exact ⟨_, rfl, fun d nd => k2 (by omega) d _ (hB'.free kb nd) upd_same (kb.then_new nd)⟩
theorem ok_stored {f : Addr} {fd : FuncData} (me : Meth K C_Builder "stored" f) (F : C8.Fun K "stored" "Builder.stored" s_Builder_stored f fd) (b : Binds K fd ["self", "table", "name", "value"] []) (T : Txt K mg C_End C_Lot C_Turn C_Builder C_Game C_Position C_GameError C_BadRatio C_BadText C_BadPlan C_BadMove C_BadEdit C_BadVersion C_BadPaper C_TooLarge) : C8.Met P w K mg base 1 C_Builder "stored" (sp_stored C_Builder) [] := by
  refine met0 T.cl_Builder me F b sc_Builder_stored (fun vs H Q E h => ?_) (fun cdv A outer s H vs Q E hr h => ?_)
  · obtain ⟨b, sd, t, od, kvs, tv, L, x, v, rfl, _⟩ := h
    rfl
  · obtain ⟨b, sd, t, od, kvs, tv, L, x, v, rfl, hB, h3, ht, htl, k⟩ := h
    have hu := hu_of hr
    refine ⟨_, (pss_cons (ps_set (i := 4) sc_Builder_stored.nd rfl (by first | exact Or.inl rfl | exact Or.inr rfl) (pe_callTy call_dictD (by rfl) T.n_dict bo_dict (pa_cons (pv 1) pa_nil)))
(pss_cons (ps_dput hu (pv 4) (pv 2) (pe_op op_mod (pv 3) (pe_dget hu (pe_fld (pv 0) rfl) (pv 2) (fun _ _ => rfl))) (by rfl))
(pss_one (ps_ret (pv 4))))), ?_⟩
    refine ⟨_, rfl, t, tv, rfl, .inl ht, fun r nr => ?_⟩
    have hB1 := hB.keep0 (Keep.new (o := .dK tv) nr)
    obtain ⟨dx, o⟩ := hB1.o
    refine ⟨_, rfl, _, rfl, b, C_Builder, dx, _, _, rfl, o, T.cl_Builder, T.a_Builder_sizes, rfl, _, rfl, sd, _, rfl, h3 ▸ DGet.k (k := Sum.inr x) hB1.s, _, _, rfl, rfl, by show (0 : Int) < 3; decide, ?_⟩
    refine ⟨_, rfl, _, rfl, r, _, rfl, DPut.k (k := Sum.inr x) upd_same (smallL (by omega)), ?_⟩
    refine ⟨_, rfl, k r _ _ nr upd_same (length_putK _ _ _) ((Keep.new nr).then_own nr)⟩
theorem ok_shown {f : Addr} {fd : FuncData} (D : C8.Def K mg "shown" s_shown f fd) (b : Binds K fd ["seen", "to", "event"] []) (T : Txt K mg C_End C_Lot C_Turn C_Builder C_Game C_Position C_GameError C_BadRatio C_BadText C_BadPlan C_BadMove C_BadEdit C_BadVersion C_BadPaper C_TooLarge) : C8.Cal P w K mg base 1 "shown" (sp_shown K) [] := by
  refine cal0 D b .nil sc_shown (fun vs H Q E h => ?_) (fun cdv A outer s H vs Q E hr h => ?_)
  · obtain ⟨v, to, ev, n, rfl, _⟩ := h
    rfl
  · obtain ⟨v, to, ev, n, rfl, ⟨p, a, b, as, bs, rfl, h1, h2, h3, h4, h5⟩, hn, k⟩ := h
    refine ⟨_, (pss_cons (ps_asg (pv 0) (pg_tup (by rfl) (pgs_cons (pg_name (i := 3) sc_shown.nd rfl (by first | exact Or.inl rfl | exact Or.inr rfl)) (pgs_cons (pg_name (i := 4) sc_shown.nd rfl (by first | exact Or.inl rfl | exact Or.inr rfl)) pgs_nil))))
(pss_cut (ps_if (pt_cmpR op_ne (pv 1) pe_int (nomark _))
  (pss_one (ps_set (i := 3) sc_shown.nd rfl (by first | exact Or.inl rfl | exact Or.inr rfl) (pe_op op_catA (pv 3) (pe_tup (pa_cons (pv 2) pa_nil)))))
  pss_nil)
(pss_cut (ps_if (pt_cmpR op_ne (pv 1) pe_int (nomark _))
  (pss_one (ps_set (i := 4) sc_shown.nd rfl (by first | exact Or.inl rfl | exact Or.inr rfl) (pe_op op_catA (pv 4) (pe_tup (pa_cons (pv 2) pa_nil)))))
  pss_nil)
(pss_one (ps_ret (pe_tup (pa_cons (pv 3) (pa_cons (pv 4) pa_nil)))))))), ?_⟩
    refine ⟨_, rfl, p, _, rfl, SqT.of h1, rfl, _, _, rfl, _, _, rfl, rfl, ?_⟩
    -- one view behind an event
    have step : ∀ {H1 : Hp} {a : Addr} {as : List V} {R : VK}, H1 a = some (.tup as) → as.length ≤ n → (∀ a' as' H', H' a' = some (.tup as') → as'.length ≤ n + 1 → Keep [] H1 H' → R (.ref a') H') → 1 ≤ sizeLine ∧ ∀ t, H1 t = none → rCatA K (.ref a) (.ref t) (upd H1 t (.tup [ev])) R := fun {H1 a as R} ha hl g => by
      refine ⟨by decide, fun t nt => ?_⟩
      have ha' : upd H1 t (.tup [ev]) a = some (.tup as) := by rw [upd_ne (ne_of_none ha nt)]; exact ha
      refine ⟨a, t, as, [ev], rfl, rfl, SqT.of ha', SqT.of upd_same, smallM (by show as.length + 1 ≤ _; omega), fun e => ?_, (fun _ e => nomatch e), fun _ _ q nq => ?_⟩
      · exact g t [ev] _ upd_same (by show 1 ≤ _; omega) (Keep.new nt)
      · exact g q _ _ upd_same (by rw [List.length_append]; show as.length + 1 ≤ _; omega) ((Keep.new nt).then_new nq)
    refine ⟨fun σ H' => ∃ a as, σ = [some (.ref p), some (.int to), some ev, some (.ref a), some (.ref b)] ∧ H' a = some (.tup as) ∧ as.length ≤ n + 1 ∧ Keep [] H H', ?_, ?_⟩
    · refine ⟨_, rfl, rfl, _, rfl, iteN (fun _ => ?_) (fun _ => ⟨a, as, rfl, h2, by omega, Keep.refl _ _⟩)⟩
      exact ⟨_, rfl, _, rfl, step h2 h4 fun a' as' H' g1 g2 g3 => ⟨a', as', rfl, g1, g2, g3⟩⟩
    rintro σ H1 ⟨a', as', rfl, g1, g2, K1⟩
    refine ⟨fun σ H' => ∃ b' bs', σ = [some (.ref p), some (.int to), some ev, some (.ref a'), some (.ref b')] ∧ H' b' = some (.tup bs') ∧ bs'.length ≤ n + 1 ∧ Keep [] H1 H', ?_, ?_⟩
    · refine ⟨_, rfl, rfl, _, rfl, iteN (fun _ => ?_) (fun _ => ⟨b, bs, rfl, K1 _ _ h3 (by simp), by omega, Keep.refl _ _⟩)⟩
      exact ⟨_, rfl, _, rfl, step (K1 _ _ h3 (by simp)) h5 fun a' as' H' g1 g2 g3 => ⟨a', as', rfl, g1, g2, g3⟩⟩
    rintro σ H2 ⟨b', bs', rfl, e1, e2, K2⟩
    refine ⟨_, rfl, _, rfl, by show 2 ≤ sizeLine; decide, fun t nt => ?_⟩
    have K3 := Keep.new (W := []) (o := .tup [.ref a', .ref b']) nt
    exact k _ _ ⟨t, a', b', as', bs', rfl, upd_same, K3 _ _ (K2 _ _ g1 (by simp)) (by simp), K3 _ _ e1 (by simp), g2, e2⟩ ((K1.trans K2).trans K3)
end

theorem merge3 (x : Str) : ∀ (xs : List Str) (acc : List (Key × V)), (x ∈ xs ∨ valV acc (.inr x) = some (.int 3)) → valV (mergeK acc (xs.map fun y => (Sum.inr y, V.int 3))) (.inr x) = some (.int 3)
  | [], acc, h => h.elim (fun z => by cases z) id
  | y :: ys, acc, h => by
    refine merge3 x ys (putK acc (.inr y) (.int 3)) ?_
    rw [valV_put]
    by_cases e : x = y
    · subst e; exact .inr (if_pos rfl)
    · rw [if_neg (fun z => e (Sum.inr.inj z))]
      rcases h with h | h
      · rcases List.mem_cons.mp h with h | h
        · exact absurd h e
        · exact .inl h
      · exact .inr h
structure GameAt (C : Addr) (K : PySem.W.Frag) (H : Hp) (g : Addr) (xs : List Str) (rows : List Sg) : Prop where
  o : ∃ dg a v c, H g = some (.ins C dg [("options", .ref a), ("variables", .ref v), ("rounds", .ref c)]) ∧ TupD H a [] ∧ (∃ ps : List Addr, TupD H v (ps.map V.ref) ∧ Paired (fun p x => H p = some (.tup [.str x, .int 3])) ps xs) ∧
    ∃ r bl, H c = some (.tup [.ref r]) ∧ H r = some (.tup [.str "r", .ref bl]) ∧ ∃ qs : List Addr, H bl = some (.tup (qs.map V.ref)) ∧ Paired (fun p st => H p = some (.tup (Sg.row st))) qs rows
theorem paired_map {α β γ : Type} {F : α → β → Prop} {G : α → γ → Prop} {f : β → γ} (h : ∀ a b, F a b → G a (f b)) : ∀ {as : List α} {bs : List β}, Paired F as bs → Paired G as (bs.map f)
  | _, _, .nil => .nil
  | _, _, .cons e t => .cons (h _ _ e) (paired_map h t)
theorem paired_len {α β : Type} {F : α → β → Prop} : ∀ {as : List α} {bs : List β}, Paired F as bs → as.length = bs.length
  | _, _, .nil => rfl
  | _, _, .cons _ t => congrArg (· + 1) (paired_len t)
theorem paired_at {α β : Type} {F : α → β → Prop} : ∀ {as : List α} {bs : List β}, Paired F as bs → ∀ {i : Nat} {a : α}, as[i]? = some a → ∃ b, bs[i]? = some b ∧ F a b
  | _, _, .nil, i, a, e => by cases e
  | _, _, .cons h t, i, a, e => by
    cases i with
    | zero => cases e; exact ⟨_, rfl, h⟩
    | succ i => exact paired_at t e
theorem Keep.at1 {H H' : Hp} {W : List Addr} (k : Keep W H H') {a : Addr} {o : HO} (h : H a = some o) (n : ∀ b ∈ W, H b ≠ some o) : H' a = some o := k _ _ h fun q => n a q h
/-- new objects stand through what keeps -/
theorem TupD.keep0 {H H' : Hp} {a : Addr} {xs : List V} (h : TupD H a xs) (k : Keep [] H H') : TupD H' a xs := h.keep k (by simp)
theorem GameAt.keep0 {C : Addr} {K : PySem.W.Frag} {H H' : Hp} {g : Addr} {xs : List Str} {rows : List Sg} (h : GameAt C K H g xs rows) (k : Keep [] H H') : GameAt C K H' g xs rows := by
  obtain ⟨dg, a, v, c, o, ta, ⟨ps, tv, hp⟩, r, bl, hc, hr, qs, hb, hq⟩ := h.o
  have up : ∀ {a : Addr} {o : HO}, H a = some o → H' a = some o := fun h => k _ _ h (by simp)
  exact ⟨dg, a, v, c, up o, ta.keep0 k, ⟨ps, tv.keep0 k, L2.Paired.mapP hp fun _ _ h => up h⟩, r, bl, up hc, up hr, qs, up hb, L2.Paired.mapP hq fun _ _ h => up h⟩
def sp_binit (C CG : Addr) (K : PySem.W.Frag) : Sp := fun vs H Q _ => ∃ (x dx g : Addr) (xs : List Str) (rows : List Sg), vs = [.ref x, .ref g] ∧ H x = some (.ins C dx []) ∧ GameAt CG K H g xs rows ∧
  ∀ sd od kvs H', (∀ y ∈ xs, valV kvs (.inr y) = some (.int 3)) → H sd = none → Bd C H' x sd od kvs 400 → Keep [x] H H' → Q .non H'
section
variable {P : Program} {w : World} {K : PySem.W.Frag} {mg : Str → Option Value} {base : Heap} {C_End : Addr} {C_Lot : Addr} {C_Turn : Addr} {C_Builder : Addr} {C_Game : Addr} {C_Position : Addr} {C_GameError : Addr} {C_BadRatio : Addr} {C_BadText : Addr} {C_BadPlan : Addr} {C_BadMove : Addr} {C_BadEdit : Addr} {C_BadVersion : Addr} {C_BadPaper : Addr} {C_TooLarge : Addr} {f_TooLarge___init : Addr}
theorem ok_binit {f : Addr} {fd : FuncData} (M : Mk K C_Builder f) (F : C8.Fun K "__init__" "Builder.__init__" s_Builder___init f fd) (b : Binds K fd ["self", "game"] []) (T : Txt K mg C_End C_Lot C_Turn C_Builder C_Game C_Position C_GameError C_BadRatio C_BadText C_BadPlan C_BadMove C_BadEdit C_BadVersion C_BadPaper C_TooLarge) : C8.Mak P w K mg base 1 "Builder" C_Builder (sp_binit C_Builder C_Game K) [] := by
  refine mak0 M T.m_Builder F b .nil sc_Builder___init (fun vs H Q E h => ?_) (fun cdv A outer s H vs Q E hr h => ?_)
  · obtain ⟨x, dx, g, xs, rows, rfl, _⟩ := h
    rfl
  · obtain ⟨x, dx, g, xs, rows, rfl, hx, hG, k⟩ := h
    refine ⟨_, (pss_cons (ps_fld (pv 0) (pe_callTy (call_dictT rfl) (by rfl) T.n_dict bo_dict (pa_cons (pe_fld (pv 1) rfl) pa_nil)) rfl)
(pss_cons (ps_fld (pv 0) (pe_callTy (call_dictT rfl) (by rfl) T.n_dict bo_dict (pa_cons (pe_fld (pv 1) rfl) pa_nil)) rfl)
(pss_one (ps_fld (pv 0) (pe_gc rfl T.v_MOST_PLACES) rfl)))), ?_⟩
    have mx : x ∈ [x] := List.mem_singleton.mpr rfl
    obtain ⟨dg, a, v, c, o, ta, ⟨ps, tv, hp⟩, _⟩ := hG.o
    have nx : ∀ {y : Addr} {ob : HO}, H y = some ob → ob ≠ .ins C_Builder dx [] → y ∉ [x] := fun h n => by
      have := ne_of h hx n
      simpa using this
    have ng : g ∉ [x] := nx o (by intro z; cases z)
    refine ⟨_, rfl, g, C_Game, dg, _, _, rfl, o, T.cl_Game, T.a_Game_variables, rfl, v, ps, xs.map (fun y => (Sum.inr y, V.int 3)), rfl, tv, paired_map (G := fun p (kv : Key × V) => SqT K H p [kV kv.1, kv.2]) (f := fun y => (Sum.inr y, V.int 3)) (fun p y h => SqT.of h) hp, fun sd nsd => ⟨_, rfl, x, C_Builder, dx, [], rfl, by rw [upd_ne (ne_of_none hx nsd)]; exact hx, T.cl_Builder, T.a_Builder_sizes, by show 0 < 1000; decide, ?_⟩⟩
    have hk := fun y (hy : y ∈ xs) => merge3 y xs [] (.inl hy)
    revert hk
    generalize mergeK [] (xs.map fun y => (Sum.inr y, V.int 3)) = kvs
    intro hk
    have k1 : Keep [x] H (upd (upd H sd (.dK kvs)) x (.ins C_Builder dx (putF "sizes" (.ref sd) []))) := (Keep.new nsd).then_at mx
    have ha1 := ta.keep k1 (by
      obtain ⟨oa, e, _⟩ := ta
      exact nx e (by intro z; cases z))
    have hs1 : upd (upd H sd (.dK kvs)) x (.ins C_Builder dx (putF "sizes" (.ref sd) [])) sd = some (.dK kvs) := by rw [upd_ne (ne_of_none hx nsd).symm]; exact upd_same
    have hx1 : upd (upd H sd (.dK kvs)) x (.ins C_Builder dx (putF "sizes" (.ref sd) [])) x = some (.ins C_Builder dx (putF "sizes" (.ref sd) [])) := upd_same
    have o1 := k1 _ _ o ng
    generalize upd (upd H sd (.dK kvs)) x (.ins C_Builder dx (putF "sizes" (.ref sd) [])) = H1 at *
    refine ⟨_, rfl, g, C_Game, dg, _, _, rfl, o1, T.cl_Game, T.a_Game_options, rfl, a, [], [], rfl, ha1, .nil, fun od nod => ⟨_, rfl, x, C_Builder, dx, _, rfl, by rw [upd_ne (ne_of_none hx1 nod)]; exact hx1, T.cl_Builder, T.a_Builder_on, by show 1 < 1000; decide, ?_⟩⟩
    refine ⟨_, rfl, x, C_Builder, dx, _, rfl, upd_same, T.cl_Builder, T.a_Builder_left, by show 2 < 1000; decide, ?_⟩
    have nsx : sd ≠ x := (ne_of_none hx nsd).symm
    have nso : sd ≠ od := ne_of_none hs1 nod
    refine k sd (.ref od) kvs _ hk nsd ⟨⟨dx, upd_same⟩, ?_⟩ (((k1.then_new nod).then_at mx).then_at mx)
    rw [upd_ne nsx, upd_ne nsx, upd_ne nso]; exact hs1
theorem ok_chained {f : Addr} {fd : FuncData} (D : C8.Def K mg "chained" s_chained f fd) (b : Binds K fd ["block", "rest"] []) (T : Txt K mg C_End C_Lot C_Turn C_Builder C_Game C_Position C_GameError C_BadRatio C_BadText C_BadPlan C_BadMove C_BadEdit C_BadVersion C_BadPaper C_TooLarge) : C8.Cal P w K mg base 1 "chained" sp_chained [] := by
  refine cal0 D b .nil sc_chained (fun vs H Q E h => ?_) (fun cdv A outer s H vs Q E hr h => ?_)
  · obtain ⟨a, rv, rows, ps, r, rfl, _⟩ := h
    rfl
  · obtain ⟨a, rv, rows, ps, r, rfl, ha, hp, hR, k⟩ := h
    refine ⟨_, (pss_cons (ps_for PassesOwn.never rfl (RT.pi_revA (by rfl) T.n_reversed (pv 0)) (pg_name (i := 2) sc_chained.nd rfl (by first | exact Or.inl rfl | exact Or.inr rfl))
  (pss_one (ps_set (i := 1) sc_chained.nd rfl (by first | exact Or.inl rfl | exact Or.inr rfl) (pe_tup (pa_cons (pv 2) (pa_cons (pv 1) pa_nil))))))
(pss_one (ps_ret (pv 1)))), ?_⟩
    have hl : ps.length = rows.length := paired_len hp
    have hml : (ps.map V.ref).length = rows.length := by rw [List.length_map]; exact hl
    refine ⟨_, rfl, a, _, rfl, .inr ⟨SqT.of ha, RT.for_ItvT (K := K) (a := a) (xs := ps.map V.ref) (fun (i : Nat) (σ : List (Option V)) (H' : Hp) => ∃ (v : V) (o : Option V), σ = [some (.ref a), some v, o] ∧ Rst H' v (rows.drop (rows.length - i) ++ r) ∧ Keep [] H H')
      ⟨rv, none, rfl, by rw [Nat.sub_zero, List.drop_length]; exact hR, Keep.refl _ _⟩ ?_ ?_ ?_⟩⟩
    · rintro i σ H' ⟨v, o, rfl, _, K1⟩
      exact SqT.of (K1 _ _ ha (by simp))
    · rintro i x σ H' hi hx ⟨v, o, rfl, hv, K1⟩
      rw [List.getElem?_map] at hx
      obtain ⟨p, hpx, rfl⟩ := Option.map_eq_some_iff.mp hx
      obtain ⟨st, hst, hrow⟩ := paired_at hp hpx
      rw [hml] at hi hst
      refine ⟨_, rfl, _, rfl, by show 2 ≤ sizeLine; decide, fun t nt => ⟨_, _, rfl, ?_, K1.then_new nt⟩⟩
      have K2 := Keep.new (W := []) (o := .tup [.ref p, v]) nt
      have e : rows.drop (rows.length - (i + 1)) = st :: rows.drop (rows.length - i) := by
        have h1 : rows.length - (i + 1) < rows.length := by omega
        rw [List.drop_eq_getElem_cons h1]
        have h2 : rows.length - 1 - i = rows.length - (i + 1) := by omega
        rw [h2, List.getElem?_eq_getElem h1] at hst
        rw [Option.some.inj hst, show rows.length - (i + 1) + 1 = rows.length - i by omega]
      rw [e]
      exact .cons upd_same (K2 _ _ (K1 _ _ hrow (by simp)) (by simp)) (hv.tk K2.tk)
    · rintro σ H' ⟨v, o, rfl, hv, K1⟩
      rw [hml, Nat.sub_self, List.drop_zero] at hv
      exact ⟨_, rfl, k v _ hv K1⟩
end

def Sg.ok (kvs : List (Key × V)) : Sg → Prop
  | .rnd _ => True
  | .drw x s => valV kvs (.inr x) = some (.int 3) ∧ s ≤ 1000
  | .mov pl x s _ => valV kvs (.inr x) = some (.int 3) ∧ s ≤ 1000 ∧ (pl = 1 ∨ pl = 2)
structure NE (K : PySem.W.Frag) (C : Addr) (H : Hp) (b sd : Addr) (od : V) (kvs : List (Key × V)) (L : Int) (rv : V) (l : List Sg) (t : Addr) (tv : List (Key × V)) (sn : V) (n : Nat) : Prop where
  B : Bd C H b sd od kvs L
  R : Rst H rv l
  ok : ∀ st ∈ l, st.ok kvs
  T : H t = some (.dK tv)
  tl : tv.length + l.length ≤ 1000
  S : Seen K H sn n
  sl : n + 2 * l.length ≤ 1000
def sp_node (K : PySem.W.Frag) (C CE CL CT CB : Addr) (m : Nat) : Sp := fun vs H Q E => ∃ (b sd t : Addr) (od rv sn : V) (kvs tv : List (Key × V)) (L : Int) (l : List Sg) (n : Nat), vs = [.ref b, rv, .ref t, sn, .int 0] ∧ NE K C H b sd od kvs L rv l t tv sn n ∧ l.length < m ∧
  ((nodes l : Int) ≤ L → ∀ v H', Tr CE CL CT b H' v l → Bd C H' b sd od kvs (L - nodes l) → Keep [b] H H' → Q v H') ∧ (L < nodes l → Big CB H E b)
def sp_branch (K : PySem.W.Frag) (C CE CL CT CB : Addr) (m : Nat) : Sp := fun vs H Q E => ∃ (b sd t sa : Addr) (od rv sn : V) (kvs tv : List (Key × V)) (L : Int) (st : Sg) (l : List Sg) (n : Nat), vs = [.ref b, .ref sa, rv, .ref t, sn, .int 0] ∧ NE K C H b sd od kvs L rv l t tv sn n ∧ n + 2 * l.length + 2 ≤ 1000 ∧ tv.length + l.length + 1 ≤ 1000 ∧
  H sa = some (.tup st.row) ∧ st.ok kvs ∧ (∀ i, st ≠ .rnd i) ∧ l.length < m ∧
  ((nodes (st :: l) : Int) ≤ L → ∀ v H', Tr CE CL CT b H' v (st :: l) → Bd C H' b sd od kvs (L - nodes (st :: l)) → Keep [b] H H' → Q v H') ∧ (L < nodes (st :: l) → Big CB H E b)
/-- what all turns of a loop stand on -/
theorem NE.step {K : PySem.W.Frag} {C : Addr} {H H' : Hp} {b sd t : Addr} {od rv sn : V} {kvs tv : List (Key × V)} {L L' : Int} {l : List Sg} {n : Nat} (h : NE K C H b sd od kvs L rv l t tv sn n) (B' : Bd C H' b sd od kvs L') (k : Keep [b] H H') : NE K C H' b sd od kvs L' rv l t tv sn n := by
  have e : t ≠ b := by
    obtain ⟨dx, o⟩ := h.B.o
    exact ne_of h.T o (by intro z; cases z)
  exact ⟨B', h.R.tk (h.B.tk k), h.ok, k _ _ h.T (by simpa using e), h.tl, h.S.tk (h.B.tk k), h.sl⟩
theorem NE.lst {K : PySem.W.Frag} {C : Addr} {H : Hp} {b sd t pa : Addr} {od rv sn : V} {kvs tv : List (Key × V)} {L : Int} {l : List Sg} {n : Nat} {o : HO} {ys : List V} (hp : H pa = some (.lst ys)) (h : NE K C H b sd od kvs L rv l t tv sn n) : NE K C (upd H pa o) b sd od kvs L rv l t tv sn n := by
  have up : ∀ {a : Addr} {u : HO}, H a = some u → u ≠ .lst ys → upd H pa o a = some u := fun h d => by rw [upd_ne (ne_of h hp d)]; exact h
  have tk : TK H (upd H pa o) := fun a xs h => up h (by intro z; cases z)
  obtain ⟨dx, ob⟩ := h.B.o
  exact ⟨⟨⟨dx, up ob (by intro z; cases z)⟩, up h.B.s (by intro z; cases z)⟩, h.R.tk tk, h.ok, up h.T (by intro z; cases z), h.tl, h.S.tk tk, h.sl⟩
theorem NE.keep0 {K : PySem.W.Frag} {C : Addr} {H H' : Hp} {b sd t : Addr} {od rv sn : V} {kvs tv : List (Key × V)} {L : Int} {l : List Sg} {n : Nat} (h : NE K C H b sd od kvs L rv l t tv sn n) (k : Keep [] H H') : NE K C H' b sd od kvs L rv l t tv sn n :=
  h.step (h.B.keep0 k) (k.mono (by simp))
section
variable {P : Program} {w : World} {K : PySem.W.Frag} {mg : Str → Option Value} {base : Heap} {C_End : Addr} {C_Lot : Addr} {C_Turn : Addr} {C_Builder : Addr} {C_Game : Addr} {C_Position : Addr} {C_GameError : Addr} {C_BadRatio : Addr} {C_BadText : Addr} {C_BadPlan : Addr} {C_BadMove : Addr} {C_BadEdit : Addr} {C_BadVersion : Addr} {C_BadPaper : Addr} {C_TooLarge : Addr} {f_TooLarge___init : Addr}
theorem ok_branch {f : Addr} {fd : FuncData} (me : Meth K C_Builder "branch" f) (F : C8.Fun K "branch" "Builder.branch" s_Builder_branch f fd) (b : Binds K fd ["self", "statement", "rest", "table", "seen", "paid"] []) (T : Txt K mg C_End C_Lot C_Turn C_Builder C_Game C_Position C_GameError C_BadRatio C_BadText C_BadPlan C_BadMove C_BadEdit C_BadVersion C_BadPaper C_TooLarge) {m k : Nat} (hk : 3 ≤ k) (c_Builder_place : MetX P w K mg base 3 C_Builder "place" (sp_place C_Builder C_TooLarge) [])
    (c_Builder_node : MetX P w K mg base k C_Builder "node" (sp_node K C_Builder C_End C_Lot C_Turn C_TooLarge m) []) (c_Builder_stored : C8.Met P w K mg base 1 C_Builder "stored" (sp_stored C_Builder) []) (c_shown : C8.Cal P w K mg base 1 "shown" (sp_shown K) [])
    (c_Lot : C8.Mak P w K mg base 1 "Lot" C_Lot (sp_ini1 C_Lot "parts") []) (c_Turn : C8.Mak P w K mg base 1 "Turn" C_Turn (sp_ini3 C_Turn "player" "view" "parts") []) :
    MetX P w K mg base (k + 1) C_Builder "branch" (sp_branch K C_Builder C_End C_Lot C_Turn C_TooLarge m) [] := by
  refine ⟨f, fd, ["self", "statement", "rest", "table", "seen", "paid"], [], T.cl_Builder, me, ?_, b, .nil⟩
  refine fnx F sc_Builder_branch (fun vs H Q E h => ?_) (fun cdv A outer s H vs Q E hr h => ?_)
  · obtain ⟨b, sd, t, sa, od, rv, sn, kvs, tv, L, st, l, n, rfl, _⟩ := h
    rfl
  · obtain ⟨b, sd, t, sa, od, rv, sn, kvs, tv, L, st, l, n, rfl, N, hn2, ht2, hsa, hst, hnr, hlm, k1, k2⟩ := h
    refine ⟨_, (pss_cons (ps_expr (pe_mX0 c_Builder_place hr (by first | exact Nat.le_refl _ | decide | omega) (passes_call (takes_of rfl rfl rfl rfl) (fun _ _ _ _ h => h)) (pv 0)))
(pss_cons (ps_set (i := 6) sc_Builder_branch.nd rfl (by first | exact Or.inl rfl | exact Or.inr rfl) (pe_lst pa_nil))
(pss_cons (ps_if (pt_cmpR op_eq (pe_ix ix_tup (pv 1) pe_int (fun _ _ => rfl)) pe_str (nomark _))
  (pss_cons (ps_for (passes_of rfl) rfl (pi_range1 (by rfl) T.n_range (pa_cons (pe_ix ix_tup (pv 1) pe_int (fun _ _ => rfl)) pa_nil)) (pg_name (i := 7) sc_Builder_branch.nd rfl (by first | exact Or.inl rfl | exact Or.inr rfl))
    (pss_one (ps_expr (pe_bm PySem.F.plainAttrs_list PySem.F.slot_list_append PySem.F.type_list_append mt_append (pv 6) (pa_cons (pe_mX c_Builder_node hr (by first | exact Nat.le_refl _ | decide | omega) (passes_call (takes_of rfl rfl rfl rfl) (fun _ _ _ _ h => h)) (pv 0) (pa_cons (pv 2) (pa_cons (pe_mt c_Builder_stored hr (by first | exact Nat.le_refl _ | decide | omega) (pv 0) (pa_cons (pv 3) (pa_cons (pe_ix ix_tup (pv 1) pe_int (fun _ _ => rfl)) (pa_cons (pv 7) pa_nil)))) (pa_cons (pv 4) (pa_cons (pv 5) pa_nil))))) pa_nil)))))
  (pss_one (ps_ret (pe_mk c_Lot hr (by first | exact Nat.le_refl _ | decide | omega) rfl (pa_cons (pe_callTy call_tuple_of (by rfl) T.n_tuple bo_tuple (pa_cons (pv 6) pa_nil)) pa_nil)))))
  pss_nil)
(pss_cons (ps_set (i := 8) sc_Builder_branch.nd rfl (by first | exact Or.inl rfl | exact Or.inr rfl) (pe_ix ix_tup (pv 1) pe_int (fun _ _ => rfl)))
(pss_cons (ps_set (i := 4) sc_Builder_branch.nd rfl (by first | exact Or.inl rfl | exact Or.inr rfl) (pe_c c_shown hr (by first | exact Nat.le_refl _ | decide | omega) rfl (pa_cons (pv 4) (pa_cons (pv 8) (pa_cons (pe_tup (pa_cons pe_str (pa_cons (pe_ix ix_tup (pv 1) pe_int (fun _ _ => rfl)) (pa_cons (pe_ix ix_tup (pv 1) pe_int (fun _ _ => rfl)) pa_nil)))) pa_nil)))))
(pss_cons (ps_for (passes_of rfl) rfl (pi_range1 (by rfl) T.n_range (pa_cons (pe_ix ix_tup (pv 1) pe_int (fun _ _ => rfl)) pa_nil)) (pg_name (i := 7) sc_Builder_branch.nd rfl (by first | exact Or.inl rfl | exact Or.inr rfl))
  (pss_cons (ps_set (i := 9) sc_Builder_branch.nd rfl (by first | exact Or.inl rfl | exact Or.inr rfl) (pe_c c_shown hr (by first | exact Nat.le_refl _ | decide | omega) rfl (pa_cons (pv 4) (pa_cons (pv 8) (pa_cons (pe_tup (pa_cons pe_str (pa_cons (pv 7) pa_nil))) pa_nil)))))
  (pss_one (ps_expr (pe_bm PySem.F.plainAttrs_list PySem.F.slot_list_append PySem.F.type_list_append mt_append (pv 6) (pa_cons (pe_mX c_Builder_node hr (by first | exact Nat.le_refl _ | decide | omega) (passes_call (takes_of rfl rfl rfl rfl) (fun _ _ _ _ h => h)) (pv 0) (pa_cons (pv 2) (pa_cons (pe_mt c_Builder_stored hr (by first | exact Nat.le_refl _ | decide | omega) (pv 0) (pa_cons (pv 3) (pa_cons (pe_ix ix_tup (pv 1) pe_int (fun _ _ => rfl)) (pa_cons (pv 7) pa_nil)))) (pa_cons (pv 9) (pa_cons (pv 5) pa_nil))))) pa_nil))))))
(pss_one (ps_ret (pe_mk c_Turn hr (by first | exact Nat.le_refl _ | decide | omega) rfl (pa_cons (pv 8) (pa_cons (pe_ix ix_tup (pv 4) (pe_op op_sub (pv 8) pe_int) (fun _ _ => rfl)) (pa_cons (pe_callTy call_tuple_of (by rfl) T.n_tuple bo_tuple (pa_cons (pv 6) pa_nil)) pa_nil)))))))))))), ?_⟩
    obtain ⟨dx, o⟩ := N.B.o
    have npos := nodes_pos (st :: l)
    refine ⟨_, rfl, b, dx, _, rfl, o, rfl, b, sd, od, kvs, L, rfl, N.B, fun hL H1 B1 K1 => ?_, fun hL => k2 (by omega)⟩
    refine ⟨Nat.zero_le _, fun pa npa => ?_⟩
    have npab := B1.ne npa
    have hpa0 : H pa = none := B1.free K1 npa
    have N2 := (N.step B1 K1).keep0 (Keep.new (o := .lst []) npa)
    have K2 : Keep [b] H (upd H1 pa (.lst [])) := K1.then_new npa
    have hsa2 := K2 _ _ hsa (by have := ne_of hsa o (by intro z; cases z); simpa using this)
    -- one turn: the node of the rest
    have turn : ∀ {s i : Nat} {H3 H4 : Hp} {y : Addr} {vs : List V} {sn' : V} {n' : Nat} {tv' : List (Key × V)} {R : VK}, i < s → nodes (st :: l) = 1 + s * nodes l → NE K C_Builder H3 b sd od kvs (L - 1 - ((i * nodes l : Nat) : Int)) rv l t tv sn' n' → Keep [b] H H3 → H3 pa = some (.lst vs) → (∀ v ∈ vs, Tr C_End C_Lot C_Turn b H3 v l) →
        H4 y = some (.dK tv') → tv'.length ≤ tv.length + 1 → Keep [] H3 H4 →
        (∀ v H4, Tr C_End C_Lot C_Turn b H4 v l → (∀ v ∈ vs, Tr C_End C_Lot C_Turn b H4 v l) → H4 pa = some (.lst vs) → 0 ≤ L - 1 - (((i + 1) * nodes l : Nat) : Int) → NE K C_Builder H4 b sd od kvs (L - 1 - (((i + 1) * nodes l : Nat) : Int)) rv l t tv sn' n' → Keep [b] H H4 → Keep [b] H3 H4 → R v H4) →
        sp_node K C_Builder C_End C_Lot C_Turn C_TooLarge m [.ref b, rv, .ref y, sn', .int 0] H4 R E := by
      intro s i H3 H4 y vs sn' n' tv' R hi hnd N3 K3 hp3 hv3 hy hyl K4 g
      have hmul : (i + 1) * nodes l ≤ s * nodes l := Nat.mul_le_mul_right _ hi
      have hsuc : (i + 1) * nodes l = i * nodes l + nodes l := Nat.succ_mul ..
      have N4 := N3.keep0 K4
      refine ⟨b, sd, y, od, rv, sn', kvs, tv', _, l, n', rfl, ⟨N4.B, N4.R, N4.ok, hy, by omega, N4.S, N4.sl⟩, hlm, fun hle v H5 T5 B5 K5 => ?_, fun hlt d H5 nd hd K5 => ?_⟩
      · have e : L - 1 - ((i * nodes l : Nat) : Int) - (nodes l : Int) = L - 1 - (((i + 1) * nodes l : Nat) : Int) := by omega
        rw [e] at B5
        refine g v H5 T5 (fun v hv => ?_) (K5 _ _ (K4 _ _ hp3 (by simp)) (by simpa using npab)) (by omega) (N4.step B5 K5) ((K3.trans (K4.mono (by simp))).trans K5) ((K4.mono (by simp)).trans K5)
        exact ((hv3 v hv).keep (K4.mono (by simp)) N3.B.notup).keep K5 N4.B.notup
      · refine k2 (by omega) d _ ?_ hd ((K3.trans (K4.mono (by simp))).trans K5)
        exact N3.B.free K3 (K4.free nd)
    cases st with
    | rnd i => exact absurd rfl (hnr i)
    | drw x s =>
      obtain ⟨hx3, hs⟩ := hst
      have hnd : nodes (Sg.drw x s :: l) = 1 + s * nodes l := rfl
      refine ⟨_, rfl, _, _, _, _, rfl, rfl, SqT.of hsa2, rfl, rfl, _, rfl, iteDT rfl ?_⟩
      refine ⟨_, rfl, _, _, _, _, rfl, rfl, SqT.of hsa2, rfl, _, rfl, by omega, by omega, for_range (lo := 0) (n := (s : Int).toNat) (fun (i : Nat) (σ : List (Option V)) (H' : Hp) => ∃ (vs : List V) (o7 : Option V), σ = [some (.ref b), some (.ref sa), some rv, some (.ref t), some sn, some (.int 0), some (.ref pa), o7, none, none] ∧ H' pa = some (.lst vs) ∧ vs.length = i ∧ (∀ v ∈ vs, Tr C_End C_Lot C_Turn b H' v l) ∧
        (i = 0 ∨ 0 ≤ L - 1 - ((i * nodes l : Nat) : Int)) ∧ NE K C_Builder H' b sd od kvs (L - 1 - ((i * nodes l : Nat) : Int)) rv l t tv sn n ∧ Keep [b] H H')
        ⟨[], none, rfl, upd_same, rfl, (fun _ h => by cases h), .inl rfl, by rw [Nat.zero_mul]; simpa using N2, K2⟩ ?_ ?_⟩
      · rintro i σ H3 hi ⟨vs, o7, rfl, hp3, hl3, hv3, hL3, N3, K3⟩
        have hi : i < s := hi
        obtain ⟨dx3, o3⟩ := N3.B.o
        have hsa3 := K3 _ _ hsa (by have := ne_of hsa o (by intro z; cases z); simpa using this)
        refine ⟨_, rfl, .inl ⟨rfl, _, SqL.of hp3⟩, _, rfl, b, dx3, _, rfl, o3, rfl, _, rfl, _, rfl, b, dx3, _, rfl, o3, rfl, _, rfl, _, rfl, _, _, _, _, rfl, rfl, SqT.of hsa3, rfl, _, rfl, b, sd, t, od, kvs, tv, _, x, _, rfl, N3.B, hx3, N3.T, by have := N3.tl; omega, fun y tv' H4 ny hy hyl K4 => ⟨_, rfl, _, rfl, turn hi hnd N3 K3 hp3 hv3 hy hyl K4 fun v H4 T4 hv4 hp4 hL4 N4 K4 _ => ?_⟩⟩
        refine ⟨pa, _, _, rfl, rfl, hp4, smallL (by omega), ?_⟩
        refine ⟨vs ++ [v], _, rfl, upd_same, by rw [List.length_append]; show vs.length + 1 = _; omega, fun u hu => ?_, .inr hL4, N4.lst hp4, K4.then_own hpa0⟩
        rcases List.mem_append.mp hu with hu | hu
        · exact (hv4 u hu).lst hp4
        · rw [List.mem_singleton.mp hu]; exact T4.lst hp4
      · rintro σ H3 ⟨vs, o7, rfl, hp3, hl3, hv3, hL3, N3, K3⟩
        have hl3 : vs.length = s := hl3
        have hL3 : (s : Int).toNat = 0 ∨ 0 ≤ L - 1 - ((s * nodes l : Nat) : Int) := hL3
        refine ⟨_, rfl, _, _, rfl, .inl ⟨SqL.of hp3, fun tp ntp => fun p dp np ndp nep => ?_⟩⟩
        refine ⟨p, dp, .ref tp, rfl, upd_same, rfl, ?_⟩
        rw [upd_upd]
        have K5 := (Keep.new (W := []) (o := .tup vs) ntp).trans (Keep.made (o := .ins C_Lot dp [("parts", .ref tp)]) np ndp)
        have N5 := N3.keep0 K5
        have hnp : H3 p = none := (Keep.new (W := []) ntp).free np
        have hLe : ((nodes (Sg.drw x s :: l) : Nat) : Int) ≤ L := by
          rw [hnd]
          rcases hL3 with z | z
          · have z : s = 0 := z
            rw [z, Nat.zero_mul]; omega
          · omega
        refine k1 hLe _ _ (.lot upd_same (N3.B.ne hnp) (made_at np ndp upd_same) hl3 fun v hv => (hv3 v hv).keep (K5.mono (by simp)) N3.B.notup) ?_ (K3.trans (K5.mono (by simp)))
        have e : L - (nodes (Sg.drw x s :: l) : Int) = L - 1 - ((s * nodes l : Nat) : Int) := by rw [hnd]; omega
        rw [e]
        exact N5.B
    | mov pl x s j =>
      obtain ⟨hx3, hs, hpl⟩ := hst
      have hnd : nodes (Sg.mov pl x s j :: l) = 1 + s * nodes l := rfl
      refine ⟨_, rfl, _, _, _, _, rfl, rfl, SqT.of hsa2, rfl, rfl, _, rfl, iteDF (by decide) ?_⟩
      refine ⟨_, rfl, _, _, _, _, rfl, rfl, SqT.of hsa2, rfl, ?_⟩
      refine ⟨_, rfl, _, rfl, _, rfl, _, _, _, _, rfl, rfl, SqT.of hsa2, rfl, _, rfl, _, _, _, _, rfl, rfl, SqT.of hsa2, rfl, by show 3 ≤ sizeLine; decide, fun te nte => ?_⟩
      have K2' := Keep.new (W := []) (o := .tup [.str "move", .int j, .int s]) nte
      have N2' := N2.keep0 K2'
      refine ⟨sn, pl, .ref te, n, rfl, N2'.S, by omega, fun sn2 H3 S3 K3 => ?_⟩
      have K23 := K2'.trans K3
      have N3 := N2.keep0 K23
      have K03 := K2.trans (K23.mono (by simp) : Keep [b] _ H3)
      have hsa3 := K23 _ _ hsa2 (by simp)
      refine ⟨_, rfl, _, _, _, _, rfl, rfl, SqT.of hsa3, rfl, _, rfl, by omega, by omega, for_range (lo := 0) (n := (s : Int).toNat) (fun (i : Nat) (σ : List (Option V)) (H' : Hp) => ∃ (vs : List V) (o7 o9 : Option V), σ = [some (.ref b), some (.ref sa), some rv, some (.ref t), some sn2, some (.int 0), some (.ref pa), o7, some (.int pl), o9] ∧ H' pa = some (.lst vs) ∧ vs.length = i ∧ (∀ v ∈ vs, Tr C_End C_Lot C_Turn b H' v l) ∧
        (i = 0 ∨ 0 ≤ L - 1 - ((i * nodes l : Nat) : Int)) ∧ NE K C_Builder H' b sd od kvs (L - 1 - ((i * nodes l : Nat) : Int)) rv l t tv sn n ∧ Seen K H' sn2 (n + 1) ∧ Keep [b] H H')
        ⟨[], none, none, rfl, K23 _ _ upd_same (by simp), rfl, (fun _ h => by cases h), .inl rfl, by rw [Nat.zero_mul]; simpa using N3, S3, K03⟩ ?_ ?_⟩
      · rintro i σ H4 hi ⟨vs, o7, o9, rfl, hp4, hl4, hv4, hL4, N4, S4, K4⟩
        have hi : i < s := hi
        refine ⟨_, rfl, _, rfl, _, rfl, by show 2 ≤ sizeLine; decide, fun td ntd => ?_⟩
        have K5 := Keep.new (W := []) (o := .tup [.str "did", .int (0 + (i : Int))]) ntd
        refine ⟨sn2, pl, .ref td, n + 1, rfl, S4.tk K5.tk, by omega, fun sn3 H5 S5 K5' => ?_⟩
        have K45 := K5.trans K5'
        have N5 := N4.keep0 K45
        have N5' : NE K C_Builder H5 b sd od kvs (L - 1 - ((i * nodes l : Nat) : Int)) rv l t tv sn3 (n + 2) := ⟨N5.B, N5.R, N5.ok, N5.T, N5.tl, S5, by omega⟩
        have K05 := K4.trans (K45.mono (by simp) : Keep [b] _ H5)
        have hp5 := K45 _ _ hp4 (by simp)
        have hv5 : ∀ v ∈ vs, Tr C_End C_Lot C_Turn b H5 v l := fun v hv => (hv4 v hv).keep (K45.mono (by simp)) N4.B.notup
        have hsa5 := K05 _ _ hsa (by have := ne_of hsa o (by intro z; cases z); simpa using this)
        obtain ⟨dx5, o5⟩ := N5.B.o
        refine ⟨_, rfl, .inl ⟨rfl, _, SqL.of hp5⟩, _, rfl, b, dx5, _, rfl, o5, rfl, _, rfl, _, rfl, b, dx5, _, rfl, o5, rfl, _, rfl, _, rfl, _, _, _, _, rfl, rfl, SqT.of hsa5, rfl, _, rfl, b, sd, t, od, kvs, tv, _, x, _, rfl, N5.B, hx3, N5.T, by have := N5.tl; omega, fun y tv' H6 ny hy hyl K6 => ⟨_, rfl, _, rfl, turn hi hnd N5' K05 hp5 hv5 hy hyl K6 fun v H7 T7 hv7 hp7 hL7 N7 K7 K57 => ?_⟩⟩
        refine ⟨pa, _, _, rfl, rfl, hp7, smallL (by omega), ?_⟩
        have S7 : Seen K H7 sn2 (n + 1) := (S4.tk K45.tk).tk (N5.B.tk K57)
        have N7' := N5.step N7.B K57
        refine ⟨vs ++ [v], _, _, rfl, upd_same, by rw [List.length_append]; show vs.length + 1 = _; omega, fun u hu => ?_, .inr hL7, N7'.lst hp7, S7.tk (TK.lst hp7), K7.then_own hpa0⟩
        rcases List.mem_append.mp hu with hu | hu
        · exact (hv7 u hu).lst hp7
        · rw [List.mem_singleton.mp hu]; exact T7.lst hp7
      · rintro σ H4 ⟨vs, o7, o9, rfl, hp4, hl4, hv4, hL4, N4, S4, K4⟩
        have hl4 : vs.length = s := hl4
        have hL4 : (s : Int).toNat = 0 ∨ 0 ≤ L - 1 - ((s * nodes l : Nat) : Int) := hL4
        obtain ⟨sp, va, vb, as, bs, rfl, e1, e2, e3, e4, e5⟩ := S4
        have hvw : ∃ vw, atI ([.ref va, .ref vb] : List V) (pl - 1) = some vw := by
          rcases hpl with h | h <;> subst h <;> exact ⟨_, rfl⟩
        obtain ⟨vw, hvw⟩ := hvw
        refine ⟨_, rfl, _, rfl, _, rfl, _, _, rfl, rfl, _, _, _, _, rfl, rfl, SqT.of e1, hvw, _, rfl, _, _, rfl, .inl ⟨SqL.of hp4, fun tp ntp => fun p dp np ndp nep => ?_⟩⟩
        refine ⟨p, dp, .int pl, vw, .ref tp, rfl, upd_same, rfl, ?_⟩
        rw [upd_upd]
        have K5 := (Keep.new (W := []) (o := .tup vs) ntp).trans (Keep.made (o := .ins C_Turn dp [("player", .int pl), ("view", vw), ("parts", .ref tp)]) np ndp)
        have N5 := N4.keep0 K5
        have hnp : H4 p = none := (Keep.new (W := []) ntp).free np
        have hLe : ((nodes (Sg.mov pl x s j :: l) : Nat) : Int) ≤ L := by
          rw [hnd]
          rcases hL4 with z | z
          · have z : s = 0 := z
            rw [z, Nat.zero_mul]; omega
          · omega
        refine k1 hLe _ _ (.turn upd_same (N4.B.ne hnp) (made_at np ndp upd_same) hl4 fun v hv => (hv4 v hv).keep (K5.mono (by simp)) N4.B.notup) ?_ (K4.trans (K5.mono (by simp)))
        have e : L - (nodes (Sg.mov pl x s j :: l) : Int) = L - 1 - ((s * nodes l : Nat) : Int) := by rw [hnd]; omega
        rw [e]
        exact N5.B
end

theorem catEv {K : PySem.W.Frag} {H1 : Hp} {a : Addr} {as : List V} {ev : V} {n : Nat} {R : VK} (ha : H1 a = some (.tup as)) (hl : as.length ≤ n) (hn : n ≤ 1000) (g : ∀ a' as' H', H' a' = some (.tup as') → as'.length ≤ n + 1 → Keep [] H1 H' → R (.ref a') H') :
    1 ≤ sizeLine ∧ ∀ t, H1 t = none → rCatA K (.ref a) (.ref t) (upd H1 t (.tup [ev])) R := by
  refine ⟨by decide, fun t nt => ?_⟩
  have ha' : upd H1 t (.tup [ev]) a = some (.tup as) := by rw [upd_ne (ne_of_none ha nt)]; exact ha
  refine ⟨a, t, as, [ev], rfl, rfl, SqT.of ha', SqT.of upd_same, smallM (by show as.length + 1 ≤ _; omega), fun e => ?_, (fun _ e => nomatch e), fun _ _ q nq => ?_⟩
  · exact g t [ev] _ upd_same (by show 1 ≤ _; omega) (Keep.new nt)
  · exact g q _ _ upd_same (by rw [List.length_append]; show as.length + 1 ≤ _; omega) ((Keep.new nt).then_new nq)
theorem ne_pair {x y : Str} (h : x ≠ y) : ¬ V.str x = V.str y := fun z => h (V.str.inj z)
section
variable {P : Program} {w : World} {K : PySem.W.Frag} {mg : Str → Option Value} {base : Heap} {C_End : Addr} {C_Lot : Addr} {C_Turn : Addr} {C_Builder : Addr} {C_Game : Addr} {C_Position : Addr} {C_GameError : Addr} {C_BadRatio : Addr} {C_BadText : Addr} {C_BadPlan : Addr} {C_BadMove : Addr} {C_BadEdit : Addr} {C_BadVersion : Addr} {C_BadPaper : Addr} {C_TooLarge : Addr} {f_TooLarge___init : Addr}
theorem ok_node {f : Addr} {fd : FuncData} (me : Meth K C_Builder "node" f) (F : C8.Fun K "node" "Builder.node" s_Builder_node f fd) (b : Binds K fd ["self", "rest", "table", "seen", "paid"] []) (T : Txt K mg C_End C_Lot C_Turn C_Builder C_Game C_Position C_GameError C_BadRatio C_BadText C_BadPlan C_BadMove C_BadEdit C_BadVersion C_BadPaper C_TooLarge) {m k : Nat} (hk : 3 ≤ k) (c_Builder_place : MetX P w K mg base 3 C_Builder "place" (sp_place C_Builder C_TooLarge) [])
    (c_Builder_branch : MetX P w K mg base k C_Builder "branch" (sp_branch K C_Builder C_End C_Lot C_Turn C_TooLarge m) []) (c_End : C8.Mak P w K mg base 1 "End" C_End (sp_ini1 C_End "paid") []) :
    MetX P w K mg base (k + 1) C_Builder "node" (sp_node K C_Builder C_End C_Lot C_Turn C_TooLarge (m + 1)) [] := by
  refine ⟨f, fd, ["self", "rest", "table", "seen", "paid"], [], T.cl_Builder, me, ?_, b, .nil⟩
  refine fnx F sc_Builder_node (fun vs H Q E h => ?_) (fun cdv A outer s H vs Q E hr h => ?_)
  · obtain ⟨b, sd, t, od, rv, sn, kvs, tv, L, l, n, rfl, _⟩ := h
    rfl
  · obtain ⟨b, sd, t, od, rv, sn, kvs, tv, L, l, n, rfl, N, hlm, k1, k2⟩ := h
    refine ⟨_, (pss_cons (ps_while (passes_of rfl) (pt_cmpR op_notN (pv 1) pe_non (nomark _))
  (pss_cons (ps_asg (pv 1) (pg_tup (by rfl) (pgs_cons (pg_name (i := 5) sc_Builder_node.nd rfl (by first | exact Or.inl rfl | exact Or.inr rfl)) (pgs_cons (pg_name (i := 1) sc_Builder_node.nd rfl (by first | exact Or.inl rfl | exact Or.inr rfl)) pgs_nil))))
  (pss_cons (ps_set (i := 6) sc_Builder_node.nd rfl (by first | exact Or.inl rfl | exact Or.inr rfl) (pe_ix ix_tup (pv 5) pe_int (fun _ _ => rfl)))
  (pss_cons (ps_if (PW.pt (pw_or (pt_cmpR op_eq (pv 6) pe_str (nomark _)) (pw_or1 (pt_cmpR op_eq (pv 6) pe_str (nomark _)))))
    (pss_one (ps_ret (pe_mX c_Builder_branch hr (by first | exact Nat.le_refl _ | decide | omega) (passes_call (takes_of rfl rfl rfl rfl) (fun _ _ _ _ h => h)) (pv 0) (pa_cons (pv 5) (pa_cons (pv 1) (pa_cons (pv 2) (pa_cons (pv 3) (pa_cons (pv 4) pa_nil))))))))
    pss_nil)
  (pss_one (ps_if (pt_cmpR op_eq (pv 6) pe_str (nomark _))
    (pss_one (ps_set (i := 3) sc_Builder_node.nd rfl (by first | exact Or.inl rfl | exact Or.inr rfl) (pe_tup (pa_cons (pe_op op_catA (pe_ix ix_tup (pv 3) pe_int (fun _ _ => rfl)) (pe_tup (pa_cons (pv 5) pa_nil))) (pa_cons (pe_op op_catA (pe_ix ix_tup (pv 3) pe_int (fun _ _ => rfl)) (pe_tup (pa_cons (pv 5) pa_nil))) pa_nil)))))
    (pss_one (ps_if (pt_cmpR op_eq (pv 6) pe_str (nomark _))
      (pss_one ps_never)
      (pss_one (ps_if (pt_cmpR op_eq (pv 6) pe_str (nomark _))
        (pss_one ps_never)
        (pss_one (ps_if (pt_cmpR op_eq (pv 6) pe_str (nomark _))
          (pss_one ps_never)
          (pss_one (ps_if (pt_cmpR op_eq (pv 6) pe_str (nomark _))
            (pss_one ps_never)
            (pss_one ps_never)))))))))))))))
(pss_cons (ps_expr (pe_mX0 c_Builder_place hr (by first | exact Nat.le_refl _ | decide | omega) (passes_call (takes_of rfl rfl rfl rfl) (fun _ _ _ _ h => h)) (pv 0)))
(pss_one (ps_ret (pe_mk c_End hr (by first | exact Nat.le_refl _ | decide | omega) rfl (pa_cons (pv 4) pa_nil)))))), ?_⟩
    refine ⟨fun m' σ H' => ∃ (rv' sn' : V) (l' : List Sg) (n' : Nat) (o5 o6 : Option V), m' = l'.length ∧ σ = [some (.ref b), some rv', some (.ref t), some sn', some (.int 0), o5, o6] ∧ NE K C_Builder H' b sd od kvs L rv' l' t tv sn' n' ∧ Keep [] H H' ∧ l'.length ≤ l.length ∧ nodes l' = nodes l ∧ (∀ v H, Tr C_End C_Lot C_Turn b H v l' → Tr C_End C_Lot C_Turn b H v l),
      ⟨_, rv, sn, l, n, none, none, rfl, rfl, N, Keep.refl _ _, Nat.le_refl _, rfl, fun _ _ h => h⟩, ?_⟩
    rintro m' σ H' ⟨rv', sn', l', n', o5, o6, rfl, rfl, N', K', hll, hnn, htr⟩
    obtain ⟨dx, o⟩ := N'.B.o
    have R' := N'.R
    cases R' with
    | nil =>
      refine ⟨_, rfl, rfl, _, rfl, iteNF rfl ?_⟩
      have hn1 : nodes l = 1 := hnn.symm
      refine ⟨_, rfl, b, dx, _, rfl, o, rfl, b, sd, od, kvs, L, rfl, N'.B, fun hL H1 B1 K1 => ?_, fun hL d H1 nd hd K1 => k2 (by omega) d H1 (K'.free nd) hd ((K'.mono (by simp)).trans K1)⟩
      refine ⟨_, rfl, fun p dp np ndp nep => ⟨p, dp, .int 0, rfl, upd_same, rfl, ?_⟩⟩
      rw [upd_upd]
      have K2 := Keep.made (o := .ins C_End dp [("paid", .int 0)]) np ndp
      refine k1 (by omega) _ _ (htr _ _ (.fin upd_same (B1.ne np))) ?_ (((K'.mono (by simp)).trans K1).trans (K2.mono (by simp)))
      rw [hn1]; exact B1.keep0 K2
    | @cons p s v st r hp hs hr' =>
      refine ⟨_, rfl, rfl, _, rfl, iteNT (by intro z; cases z) ⟨fun σ2 H2 => ∃ (rv' sn' : V) (l' : List Sg) (n' : Nat) (o5 o6 : Option V), l'.length < (st :: r).length ∧ σ2 = [some (.ref b), some rv', some (.ref t), some sn', some (.int 0), o5, o6] ∧ NE K C_Builder H2 b sd od kvs L rv' l' t tv sn' n' ∧ Keep [] H H2 ∧ l'.length ≤ l.length ∧ nodes l' = nodes l ∧ (∀ v H, Tr C_End C_Lot C_Turn b H v l' → Tr C_End C_Lot C_Turn b H v l), ?_, ?_⟩⟩
      · rintro σ2 H2 ⟨rv2, sn2, l2, n2, o5, o6, h1, h2, h3, h4, h5, h6, h7⟩
        exact ⟨_, h1, rv2, sn2, l2, n2, o5, o6, rfl, h2, h3, h4, h5, h6, h7⟩
      have hlr : (st :: r).length = r.length + 1 := rfl
      have okst := N'.ok st (List.mem_cons_self ..)
      have okr : ∀ q ∈ r, q.ok kvs := fun q hq => N'.ok q (List.mem_cons_of_mem _ hq)
      have tl := N'.tl
      have sl := N'.sl
      refine ⟨_, rfl, p, _, rfl, SqT.of hp, rfl, _, _, rfl, _, _, rfl, rfl, ?_⟩
      have br : (∀ i, st ≠ .rnd i) → sp_branch K C_Builder C_End C_Lot C_Turn C_TooLarge m [.ref b, .ref s, v, .ref t, sn', .int 0] H' Q E := fun hn =>
        ⟨b, sd, t, s, od, v, sn', kvs, tv, L, st, r, n', rfl, ⟨N'.B, hr', okr, N'.T, by omega, N'.S, by omega⟩, by omega, by omega, hs, okst, hn, by omega,
          fun hL v H2 T2 B2 K2 => k1 (by omega) v H2 (htr _ _ T2) (by rw [← hnn]; exact B2) ((K'.mono (by simp)).trans K2), fun hL d H2 nd hd K2 => k2 (by omega) d H2 (K'.free nd) hd ((K'.mono (by simp)).trans K2)⟩
      cases st with
      | drw x c =>
        refine ⟨_, rfl, _, _, _, _, rfl, rfl, SqT.of hs, rfl, ?_⟩
        refine ⟨_, rfl, rfl, _, rfl, iteDT rfl ?_⟩
        refine ⟨_, rfl, b, dx, _, rfl, o, rfl, _, rfl, _, rfl, _, rfl, _, rfl, _, rfl, br (fun i => by intro z; cases z)⟩
      | mov pl x c j =>
        refine ⟨_, rfl, _, _, _, _, rfl, rfl, SqT.of hs, rfl, ?_⟩
        refine ⟨_, rfl, rfl, _, rfl, iteDF (ne_pair (by decide)) ⟨_, rfl, rfl, _, rfl, iteDT rfl ?_⟩⟩
        refine ⟨_, rfl, b, dx, _, rfl, o, rfl, _, rfl, _, rfl, _, rfl, _, rfl, _, rfl, br (fun i => by intro z; cases z)⟩
      | rnd i =>
        refine ⟨_, rfl, _, _, _, _, rfl, rfl, SqT.of hs, rfl, ?_⟩
        refine ⟨_, rfl, rfl, _, rfl, iteDF (ne_pair (by decide)) ⟨_, rfl, rfl, _, rfl, iteDF (ne_pair (by decide)) ?_⟩⟩
        refine ⟨_, rfl, rfl, _, rfl, iteDT rfl ?_⟩
        obtain ⟨sp, va, vb, as, bs, rfl, e1, e2, e3, e4, e5⟩ := N'.S
        refine ⟨_, rfl, _, _, _, _, rfl, rfl, SqT.of e1, rfl, _, rfl, catEv e2 e4 (by omega) fun a' as' H2 g1 g2 K2 => ?_⟩
        have e1' := K2 _ _ e1 (by simp)
        refine ⟨_, rfl, _, _, _, _, rfl, rfl, SqT.of e1', rfl, _, rfl, catEv (K2 _ _ e3 (by simp)) e5 (by omega) fun b' bs' H3 g3 g4 K3 => ?_⟩
        refine ⟨by show 2 ≤ sizeLine; decide, fun q nq => ?_⟩
        have K4 := Keep.new (W := []) (o := .tup [.ref a', .ref b']) nq
        have K24 := (K2.trans K3).trans K4
        have N4 := N'.keep0 K24
        refine ⟨v, .ref q, r, n' + 1, _, _, by omega, rfl, ⟨N4.B, hr'.tk K24.tk, okr, N4.T, by omega, ⟨q, a', b', as', bs', rfl, upd_same, K4 _ _ (K3 _ _ g1 (by simp)) (by simp), K4 _ _ g3 (by simp), g2, g4⟩, by omega⟩, K'.trans K24, by omega, by rw [← hnn]; rfl, fun v H h => htr v H (.rnd h)⟩
theorem node_all {f g : Addr} {fd gd : FuncData} (me : Meth K C_Builder "node" f) (F : C8.Fun K "node" "Builder.node" s_Builder_node f fd) (b : Binds K fd ["self", "rest", "table", "seen", "paid"] []) (me2 : Meth K C_Builder "branch" g) (F2 : C8.Fun K "branch" "Builder.branch" s_Builder_branch g gd) (b2 : Binds K gd ["self", "statement", "rest", "table", "seen", "paid"] []) (T : Txt K mg C_End C_Lot C_Turn C_Builder C_Game C_Position C_GameError C_BadRatio C_BadText C_BadPlan C_BadMove C_BadEdit C_BadVersion C_BadPaper C_TooLarge)
    (c_Builder_place : MetX P w K mg base 3 C_Builder "place" (sp_place C_Builder C_TooLarge) []) (c_Builder_stored : C8.Met P w K mg base 1 C_Builder "stored" (sp_stored C_Builder) []) (c_shown : C8.Cal P w K mg base 1 "shown" (sp_shown K) [])
    (c_Lot : C8.Mak P w K mg base 1 "Lot" C_Lot (sp_ini1 C_Lot "parts") []) (c_Turn : C8.Mak P w K mg base 1 "Turn" C_Turn (sp_ini3 C_Turn "player" "view" "parts") []) (c_End : C8.Mak P w K mg base 1 "End" C_End (sp_ini1 C_End "paid") []) :
    ∀ m, MetX P w K mg base (2 * m + 3) C_Builder "node" (sp_node K C_Builder C_End C_Lot C_Turn C_TooLarge m) []
  | 0 => ⟨f, fd, ["self", "rest", "table", "seen", "paid"], [], T.cl_Builder, me, ⟨fun vs H Q E h => (by obtain ⟨b, sd, t, od, rv, sn, kvs, tv, L, l, n, rfl, _⟩ := h; rfl), fun A outer s H args us vs Q E _ _ _ _ h => (by obtain ⟨b, sd, t, od, rv, sn, kvs, tv, L, l, n, _, _, z, _⟩ := h; exact absurd z (Nat.not_lt_zero _))⟩, b, .nil⟩
  | m + 1 => by
    have ih := node_all me F b me2 F2 b2 T c_Builder_place c_Builder_stored c_shown c_Lot c_Turn c_End m
    have b1 := ok_branch (m := m) (k := 2 * m + 3) me2 F2 b2 T (by omega) c_Builder_place ih c_Builder_stored c_shown c_Lot c_Turn
    exact ok_node (m := m) (k := 2 * m + 4) me F b T (by omega) c_Builder_place b1 c_End
end

def sp_tree (K : PySem.W.Frag) (CG CE CL CT CB : Addr) (m : Nat) : Sp := fun vs H Q E => ∃ (g : Addr) (xs : List Str) (rows : List Sg), vs = [.ref g] ∧ GameAt CG K H g xs rows ∧ rows.length < m ∧ rows.length ≤ 400 ∧ xs.length ≤ 400 ∧ (∀ st ∈ rows, ∀ kvs, (∀ y ∈ xs, valV kvs (.inr y) = some (.int 3)) → st.ok kvs) ∧
  (nodes rows ≤ 400 → ∀ b v H', H b = none → Tr CE CL CT b H' v rows → (∀ xs, H' b ≠ some (.tup xs)) → H' b ≠ none → Keep [] H H' → Q v H') ∧ (400 < nodes rows → ∀ d H', H d = none → H' d = some (.xd [(("what" : Str), .str "places")]) → Keep [] H H' → E (.ref CB) (some d) H')
section
variable {P : Program} {w : World} {K : PySem.W.Frag} {mg : Str → Option Value} {base : Heap} {C_End : Addr} {C_Lot : Addr} {C_Turn : Addr} {C_Builder : Addr} {C_Game : Addr} {C_Position : Addr} {C_GameError : Addr} {C_BadRatio : Addr} {C_BadText : Addr} {C_BadPlan : Addr} {C_BadMove : Addr} {C_BadEdit : Addr} {C_BadVersion : Addr} {C_BadPaper : Addr} {C_TooLarge : Addr} {f_TooLarge___init : Addr}
theorem ok_tree {f : Addr} {fd : FuncData} (D : C8.Def K mg "tree_of" s_tree_of f fd) (b : Binds K fd ["game"] []) (T : Txt K mg C_End C_Lot C_Turn C_Builder C_Game C_Position C_GameError C_BadRatio C_BadText C_BadPlan C_BadMove C_BadEdit C_BadVersion C_BadPaper C_TooLarge) {m k : Nat} (hk : 2 ≤ k) (c_Builder : C8.Mak P w K mg base 1 "Builder" C_Builder (sp_binit C_Builder C_Game K) []) (c_chained : C8.Cal P w K mg base 1 "chained" sp_chained [])
    (c_Builder_node : MetX P w K mg base k C_Builder "node" (sp_node K C_Builder C_End C_Lot C_Turn C_TooLarge (m + 1)) []) : CalX P w K mg base (k + 1) "tree_of" (sp_tree K C_Game C_End C_Lot C_Turn C_TooLarge m) [] := by
  refine CalX.of D (fnx D.fn sc_tree_of (fun vs H Q E h => ?_) (fun cdv A outer s H vs Q E hr h => ?_)) b .nil
  · obtain ⟨g, xs, rows, rfl, _⟩ := h
    rfl
  · obtain ⟨g, xs, rows, rfl, hG, hrm, hr4, hx4, hok, k1, k2⟩ := h
    have hu := hu_of hr
    refine ⟨_, (pss_cons (ps_set (i := 1) sc_tree_of.nd rfl (by first | exact Or.inl rfl | exact Or.inr rfl) (pe_mk c_Builder hr (by first | exact Nat.le_refl _ | decide | omega) rfl (pa_cons (pv 0) pa_nil)))
(pss_cons (ps_set (i := 2) sc_tree_of.nd rfl (by first | exact Or.inl rfl | exact Or.inr rfl) pe_non)
(pss_cons (ps_for (passes_of rfl) rfl (pi_range3 (by rfl) T.n_range (pa_cons (pe_op op_sub (pe_callB call_len_seq (by rfl) T.n_len bo_len (pa_cons (pe_fld (pv 0) rfl) pa_nil)) pe_int) (pa_cons (pe_un un_neg pe_int) (pa_cons (pe_un un_neg pe_int) pa_nil)))) (pg_name (i := 3) sc_tree_of.nd rfl (by first | exact Or.inl rfl | exact Or.inr rfl))
  (pss_one (ps_set (i := 2) sc_tree_of.nd rfl (by first | exact Or.inl rfl | exact Or.inr rfl) (pe_tup (pa_cons (pe_tup (pa_cons pe_str (pa_cons (pv 3) pa_nil))) (pa_cons (pe_c c_chained hr (by first | exact Nat.le_refl _ | decide | omega) rfl (pa_cons (pe_ix ix_tup (pe_ix ix_tup (pe_fld (pv 0) rfl) (pv 3) (fun _ _ => rfl)) pe_int (fun _ _ => rfl)) (pa_cons (pv 2) pa_nil))) pa_nil))))))
(pss_cons (ps_set (i := 4) sc_tree_of.nd rfl (by first | exact Or.inl rfl | exact Or.inr rfl) pe_dnewK)
(pss_cons (ps_for (passes_of rfl) rfl (pi_tup (pe_fld (pv 0) rfl)) (pg_tup (by rfl) (pgs_cons (pg_name (i := 5) sc_tree_of.nd rfl (by first | exact Or.inl rfl | exact Or.inr rfl)) (pgs_cons (pg_name (i := 6) sc_tree_of.nd rfl (by first | exact Or.inl rfl | exact Or.inr rfl)) pgs_nil)))
  (pss_one (ps_dput hu (pv 4) (pv 5) pe_int (by rfl))))
(pss_one (ps_ret (pe_mX c_Builder_node hr (by first | exact Nat.le_refl _ | decide | omega) (passes_call (takes_of rfl rfl rfl rfl) (fun _ _ _ _ h => h)) (pv 1) (pa_cons (pv 2) (pa_cons (pv 4) (pa_cons (pe_tup (pa_cons (pe_tup pa_nil) (pa_cons (pe_tup pa_nil) pa_nil))) (pa_cons pe_int pa_nil)))))))))))), ?_⟩
    refine ⟨_, rfl, fun b db nb ndb neb => ?_⟩
    have G1 := hG.keep0 (Keep.made (o := .ins C_Builder db []) nb ndb)
    refine ⟨b, db, g, xs, rows, rfl, upd_same, G1, fun sd od kvs H1 hkv nsd B1 K1 => ⟨rfl, ?_⟩⟩
    have K01 : Keep [] H H1 := keep_made nb ndb K1
    have G := hG.keep0 K01
    obtain ⟨dg, ga, gv, gc, o, ta, ⟨ps, tv, hp⟩, gr, bl, hc, hrr, qs, hb, hq⟩ := G.o
    refine ⟨_, rfl, g, C_Game, dg, _, _, rfl, o, T.cl_Game, T.a_Game_rounds, rfl, _, _, rfl, .inr (SqT.of hc), _, _, rfl, rfl, _, rfl, _, rfl, ?_⟩
    have hRg : RgC ((([.ref gr] : List V).length : Int) - 1) (-1) (-1) 1 := by
      show RgC 0 (-1) (-1) 1
      exact RgC.neg (i := 0) (j := -1) (by decide) (by decide) (by decide) (by decide)
    refine ⟨_, _, _, 1, rfl, hRg, for_rangeC (n := 1) (fun (i : Nat) (σ : List (Option V)) (H' : Hp) => ∃ (rv : V) (o3 : Option V), σ = [some (.ref g), some (.ref b), some rv, o3, none, none, none] ∧ ((i = 0 ∧ rv = .non) ∨ (i = 1 ∧ Rst H' rv (.rnd 0 :: rows))) ∧ Keep [] H1 H')
      ⟨.non, none, rfl, .inl ⟨rfl, rfl⟩, Keep.refl _ _⟩ ?_ ?_⟩
    · rintro i σ H' hi ⟨rv, o3, rfl, hR, K'⟩
      obtain ⟨rfl, rfl⟩ : i = 0 ∧ rv = .non := hR.elim id (fun z => by omega)
      refine ⟨_, rfl, by show 2 ≤ sizeLine; decide, fun t0 nt0 => ?_⟩
      have K2 := K'.trans (Keep.new (W := []) (o := .tup [.str "round", .int 0]) nt0)
      have up : ∀ {a : Addr} {o : HO}, H1 a = some o → upd H' t0 (.tup [.str "round", .int 0]) a = some o := fun h => K2 _ _ h (by simp)
      refine ⟨_, rfl, g, C_Game, dg, _, _, rfl, up o, T.cl_Game, T.a_Game_rounds, rfl, _, rfl, _, _, _, _, rfl, rfl, SqT.of (up hc), rfl, _, _, _, _, rfl, rfl, SqT.of (up hrr), rfl, _, rfl, ?_⟩
      refine ⟨bl, .non, rows, qs, [], rfl, up hb, L2.Paired.mapP hq fun _ _ h => up h, .nil, fun v H3 R3 K3 => ?_⟩
      rw [List.append_nil] at R3
      refine ⟨by show 2 ≤ sizeLine; decide, fun t1 nt1 => ⟨_, _, rfl, .inr ⟨rfl, ?_⟩, (K2.trans K3).then_new nt1⟩⟩
      have K4 := Keep.new (W := []) (o := .tup [.ref t0, v]) nt1
      exact .cons upd_same (K4 _ _ (K3 _ _ upd_same (by simp)) (by simp)) (R3.tk K4.tk)
    rintro σ H2 ⟨rv, o3, rfl, hR, K2⟩
    have hR : Rst H2 rv (.rnd 0 :: rows) := hR.elim (fun z => by omega) (fun z => z.2)
    refine fun td ntd => ?_
    have K3 := K2.trans (Keep.new (W := []) (o := .dK []) ntd)
    have K02 := K01.trans K3
    have hdn : H td = none := (K01.trans K2).free ntd
    have up : ∀ {a : Addr} {o : HO}, H1 a = some o → upd H2 td (.dK []) a = some o := fun h => K3 _ _ h (by simp)
    have hpl : (ps.map V.ref).length = xs.length := by rw [List.length_map]; exact paired_len hp
    refine ⟨_, rfl, g, C_Game, dg, _, _, rfl, up o, T.cl_Game, T.a_Game_variables, rfl, gv, rfl, ⟨_, (tv.keep0 K3).sq⟩, for_tup (K := K) (a := gv) (xs := ps.map V.ref) (fun (i : Nat) (σ : List (Option V)) (H' : Hp) => ∃ (o5 o6 : Option V) (tvs : List (Key × V)), σ = [some (.ref g), some (.ref b), some rv, o3, some (.ref td), o5, o6] ∧ H' td = some (.dK tvs) ∧ tvs.length ≤ i ∧ Keep [] H2 H')
      ⟨none, none, [], rfl, upd_same, Nat.zero_le _, Keep.new ntd⟩ ?_ ?_ ?_⟩
    · rintro i σ H' _ ⟨o5, o6, tvs, rfl, h1, h2, h3⟩
      exact ((tv.keep0 K2).keep0 h3).sq
    · rintro i x σ H' hx ⟨o5, o6, tvs, rfl, h1, h2, h3⟩
      rw [List.getElem?_map] at hx
      obtain ⟨p, hpx, rfl⟩ := Option.map_eq_some_iff.mp hx
      obtain ⟨y, hy, hrow⟩ := paired_at hp hpx
      have hi : i < xs.length := by
        rcases Nat.lt_or_ge i xs.length with z | z
        · exact z
        · rw [List.getElem?_eq_none z] at hy; cases hy
      have hrow' := h3 _ _ (K2 _ _ hrow (by simp)) (by simp)
      refine ⟨p, _, rfl, SqT.of hrow', rfl, _, _, rfl, _, _, rfl, rfl, ?_⟩
      refine ⟨_, rfl, _, rfl, td, _, rfl, DPut.k (k := Sum.inr y) h1 (smallL (by omega)), ?_⟩
      exact ⟨_, _, _, rfl, upd_same, by have := length_putK tvs (Sum.inr y) (V.int 0); omega, h3.then_own ntd⟩
    · rintro σ H4 ⟨o5, o6, tvs, rfl, h1, h2, h3⟩
      rw [hpl] at h2
      have K4 := K2.trans h3
      have B4 := B1.keep0 K4
      obtain ⟨dx, ob⟩ := B4.o
      refine ⟨_, rfl, b, dx, _, rfl, ob, rfl, _, rfl, _, rfl, Nat.zero_le _, fun e1 n1 => ⟨Nat.zero_le _, fun e2 n2 => ⟨by show 2 ≤ sizeLine; decide, fun sq nsq => ?_⟩⟩⟩
      have L1 := Keep.new (W := []) (o := .tup []) n1
      have L2 := Keep.new (W := []) (o := .tup []) n2
      have L3 := Keep.new (W := []) (o := .tup [.ref e1, .ref e2]) nsq
      have L := (L1.trans L2).trans L3
      have KK := K01.trans (K4.trans L)
      have bn : ∀ {t : Addr}, Keep [b] H H4 → True := fun _ => trivial
      refine ⟨b, sd, td, od, rv, .ref sq, kvs, tvs, 400, .rnd 0 :: rows, 0, rfl, ⟨B4.keep0 L, (hR.tk h3.tk).tk L.tk, fun st hst => ?_, L _ _ h1 (by simp), by show tvs.length + (rows.length + 1) ≤ 1000; omega, ⟨sq, e1, e2, [], [], rfl, upd_same, L3 _ _ (L2 _ _ upd_same (by simp)) (by simp), L3 _ _ upd_same (by simp), Nat.le_refl _, Nat.le_refl _⟩, by show 0 + 2 * (rows.length + 1) ≤ 1000; omega⟩, by show rows.length + 1 < m + 1; omega, fun hle v H5 T5 B5 K5 => ?_, fun hlt d H5 nd hd K5 => ?_⟩
      · rcases List.mem_cons.mp hst with rfl | h
        · trivial
        · exact hok st h kvs hkv
      · have hle : nodes rows ≤ 400 := by have : nodes (.rnd 0 :: rows) = nodes rows := rfl; omega
        cases T5 with
        | rnd h => exact k1 hle b v H5 nb h B5.notup B5.some (fun a o ha _ => K5 _ _ (KK _ _ ha (by simp)) (by simpa using ne_of_none ha nb))
      · have hlt : 400 < nodes rows := by have : nodes (.rnd 0 :: rows) = nodes rows := rfl; omega
        exact k2 hlt d H5 (KK.free nd) hd (fun a o ha _ => K5 _ _ (KK _ _ ha (by simp)) (by simpa using ne_of_none ha nb))
end

def sp_places (CE CL CT : Addr) (m : Nat) : Sp := fun vs H Q _ => ∃ (b : Addr) (v : V) (l : List Sg), vs = [v] ∧ Tr CE CL CT b H v l ∧ (∀ xs, H b ≠ some (.tup xs)) ∧ H b ≠ none ∧ l.length < m ∧ nodes l ≤ 400 ∧ ∀ H', Keep [] H H' → Q (.int (nodes l)) H'
def sp_ends (CE CL CT : Addr) (m : Nat) : Sp := fun vs H Q _ => ∃ (b : Addr) (v : V) (l : List Sg), vs = [v] ∧ Tr CE CL CT b H v l ∧ (∀ xs, H b ≠ some (.tup xs)) ∧ H b ≠ none ∧ l.length < m ∧ nodes l ≤ 400 ∧ ∀ r H', H r = none → H' r = some (.lst (List.replicate (leaves l) (.int 0))) → Keep [] H H' → Q (.ref r) H'
/-- what the first statement of a tree waits for -/
def waits : List Sg → Str
  | [] => "end"
  | .rnd _ :: r => waits r
  | .drw _ _ :: _ => "lot"
  | .mov pl _ _ _ :: _ => if pl = 1 then "first" else "second"
def sp_position (CE CL CT CP : Addr) : Sp := fun vs H Q _ => ∃ (b : Addr) (v : V) (l : List Sg), vs = [v] ∧ Tr CE CL CT b H v l ∧ (∀ st ∈ l, ∀ pl x s i, st = .mov pl x s i → pl = 1 ∨ pl = 2) ∧ ∀ p dp c d e H', H p = none → H' p = some (.ins CP dp [("waiting", .str (waits l)), ("count", c), ("paid", d), ("view", e)]) → Keep [] H H' → Q (.ref p) H'
def sp_follow : Sp := fun vs H Q _ => ∃ v a, vs = [v, .ref a] ∧ H a = some (.lst []) ∧ Q v H
theorem Tr.form {CE CL CT b : Addr} {H : Hp} {v : V} {l : List Sg} (h : Tr CE CL CT b H v l) : (∃ p dx, v = .ref p ∧ H p = some (.ins CE dx [("paid", .int 0)]) ∧ nodes l = 1 ∧ leaves l = 1 ∧ waits l = "end") ∨
    (∃ p C dx fs t vs r, v = .ref p ∧ H p = some (.ins C dx fs) ∧ fs.lookup ("parts" : Str) = some (.ref t) ∧ H t = some (.tup vs) ∧ (∀ v ∈ vs, Tr CE CL CT b H v r) ∧ nodes l = 1 + vs.length * nodes r ∧ leaves l = vs.length * leaves r ∧ r.length < l.length ∧
      ((C = CL ∧ waits l = "lot") ∨ (C = CT ∧ ∃ pl w x s i, fs.lookup ("player" : Str) = some (.int pl) ∧ fs.lookup ("view" : Str) = some w ∧ Sg.mov pl x s i ∈ l ∧ waits l = (if pl = 1 then ("first" : Str) else "second")))) := by
  induction h with
  | @fin p dx hp n => exact .inl ⟨p, dx, rfl, hp, rfl, rfl, rfl⟩
  | rnd _ ih =>
    rcases ih with ⟨p, dx, h1, h2, h3, h4, h5⟩ | ⟨p, C, dx, fs, t, vs, r, h1, h2, h3, h4, h5, h6, h7, h8, h9⟩
    · exact .inl ⟨p, dx, h1, h2, h3, h4, h5⟩
    · exact .inr ⟨p, C, dx, fs, t, vs, r, h1, h2, h3, h4, h5, h6, h7, Nat.lt_succ_of_lt h8, h9.imp id fun ⟨e, pl, w, x, s, i, a1, a2, a3, a4⟩ => ⟨e, pl, w, x, s, i, a1, a2, List.mem_cons_of_mem _ a3, a4⟩⟩
  | @lot p dx t vs x s r hp n ht hs hv _ => exact .inr ⟨p, CL, dx, _, t, vs, r, rfl, hp, rfl, ht, hv, by rw [hs]; rfl, by rw [hs]; rfl, Nat.lt_succ_self _, .inl ⟨rfl, rfl⟩⟩
  | @turn p dx t pl i w vs x s r hp n ht hs hv _ => exact .inr ⟨p, CT, dx, _, t, vs, r, rfl, hp, rfl, ht, hv, by rw [hs]; rfl, by rw [hs]; rfl, Nat.lt_succ_self _, .inr ⟨rfl, pl, w, x, s, i, rfl, rfl, List.mem_cons_self .., rfl⟩⟩
theorem leaves_le : ∀ l : List Sg, leaves l ≤ nodes l
  | [] => Nat.le_refl _
  | .rnd _ :: r => leaves_le r
  | .drw _ s :: r => by show s * leaves r ≤ 1 + s * nodes r; have := Nat.mul_le_mul_left s (leaves_le r); omega
  | .mov _ _ s _ :: r => by show s * leaves r ≤ 1 + s * nodes r; have := Nat.mul_le_mul_left s (leaves_le r); omega
theorem keepTup {H H' : Hp} {b : Addr} (k : Keep [] H H') (h1 : ∀ xs, H b ≠ some (.tup xs)) (h2 : H b ≠ none) : (∀ xs, H' b ≠ some (.tup xs)) ∧ H' b ≠ none := by
  cases e : H b with
  | none => exact absurd e h2
  | some o =>
    have e' := k _ _ e (by simp)
    exact ⟨fun xs z => h1 xs (by rw [e'] at z; rw [e, z]), fun z => by rw [e'] at z; cases z⟩
section
variable {P : Program} {w : World} {K : PySem.W.Frag} {mg : Str → Option Value} {base : Heap} {C_End : Addr} {C_Lot : Addr} {C_Turn : Addr} {C_Builder : Addr} {C_Game : Addr} {C_Position : Addr} {C_GameError : Addr} {C_BadRatio : Addr} {C_BadText : Addr} {C_BadPlan : Addr} {C_BadMove : Addr} {C_BadEdit : Addr} {C_BadVersion : Addr} {C_BadPaper : Addr} {C_TooLarge : Addr} {f_TooLarge___init : Addr}
theorem tyI {C : Addr} (i : InsC K C) {H : Hp} {p dx : Addr} {fs : List (Str × V)} (h : H p = some (.ins C dx fs)) : TyX K H (.ref p) (.ref C) := .base (.ins h i.cl i.ha i.hn i.htk i.hm)
theorem ok_places0 {f : Addr} {fd : FuncData} (D : C8.Def K mg "places" s_places f fd) (b : Binds K fd ["tree"] []) : C8.Cal P w K mg base 1 "places" (sp_places C_End C_Lot C_Turn 0) [] :=
  ⟨f, fd, ["tree"], [], ⟨fun vs H Q E h => (by obtain ⟨b, v, l, rfl, _⟩ := h; rfl), fun A outer s H args us vs Q E _ _ _ _ h => (by obtain ⟨b, v, l, _, _, _, _, z, _⟩ := h; exact absurd z (Nat.not_lt_zero _))⟩, D.mgf, D.kp, b, .nil⟩
theorem ok_places {f : Addr} {fd : FuncData} (D : C8.Def K mg "places" s_places f fd) (b : Binds K fd ["tree"] []) (T : Txt K mg C_End C_Lot C_Turn C_Builder C_Game C_Position C_GameError C_BadRatio C_BadText C_BadPlan C_BadMove C_BadEdit C_BadVersion C_BadPaper C_TooLarge) {m k : Nat} (c_places : C8.Cal P w K mg base k "places" (sp_places C_End C_Lot C_Turn m) []) : C8.Cal P w K mg base (k + 1) "places" (sp_places C_End C_Lot C_Turn (m + 1)) [] := by
  refine cal0 D b .nil sc_places (fun vs H Q E h => ?_) (fun cdv A outer s H vs Q E hr h => ?_)
  · obtain ⟨b, v, l, rfl, _⟩ := h
    rfl
  · obtain ⟨b, v, l, rfl, hT, hb1, hb2, hl, hn, k⟩ := h
    refine ⟨_, (pss_cons (ps_if (pt_val (pe_callB call_isi (by rfl) T.n_isinstance bo_isinstance (pa_cons (pv 0) (pa_cons (pe_glob (v := .ref _) rfl T.m_End rfl) pa_nil))))
  (pss_one (ps_ret pe_int))
  pss_nil)
(pss_one (ps_ret (pe_op op_add pe_int (pe_callB (cr_sum rfl) (by rfl) T.n_sum bo_sum (pa_cons (pe_lc (own := [("part", 1)]) (g := gName 1) (tt := tYes) rfl sc_places.nd (pi_tup (pe_fld (pv 0) rfl)) (blkOk_by (N := ["tree", "part"]) (sc := fnScope s_places) (by decide +kernel)) (fun _ _ _ _ _ => pg_name (i := 1) sc_places.nd rfl (Or.inl rfl)) (fun _ _ _ _ _ => pts_nil) (fun _ _ _ _ _ => (pe_c c_places hr (by first | exact Nat.le_refl _ | decide | omega) rfl (pa_cons (pv 1) pa_nil)))) pa_nil)))))), ?_⟩
    rcases hT.form with ⟨p, dx, rfl, hp, e1, _⟩ | ⟨p, C, dx, fs, t, vs, r, rfl, hp, hpa, ht, hv, e1, e2, hlr, hC⟩
    · rw [e1] at k
      exact ⟨_, rfl, _, _, _, _, _, rfl, .own _, tyI T.i_End hp, T.i_End.me, _, rfl, iteT (k _ (Keep.refl _ _))⟩
    obtain ⟨cl, na, ki, ty⟩ : Cls K C ∧ NoAttr K C "parts" ∧ PySem.W.kitOne K (.ref C) (.ref C_End) = some false ∧ TyX K H (.ref p) (.ref C) := by
      rcases hC with ⟨rfl, _⟩ | ⟨rfl, _⟩
      · exact ⟨T.cl_Lot, T.a_Lot_parts, T.kLE, tyI T.i_Lot hp⟩
      · exact ⟨T.cl_Turn, T.a_Turn_parts, T.kTE, tyI T.i_Turn hp⟩
    have hrn : vs.length * nodes r ≤ 400 := by omega
    have hvl : vs.length ≤ 400 := Nat.le_trans (Nat.le_mul_of_pos_right _ (nodes_pos r)) hrn
    refine ⟨_, rfl, _, _, _, _, _, rfl, .own _, ty, ki, _, rfl, iteF ?_⟩
    refine ⟨_, rfl, p, C, dx, _, _, rfl, hp, cl, na, hpa, t, rfl, ⟨_, SqT.of ht⟩, fun D nD => ?_⟩
    refine lc_tup (K := K) (a := t) (xs := vs) (fun i H' => H' D = some (.lst ((List.replicate i ((nodes r : Nat) : Int)).map V.int)) ∧ Keep [] H H') ⟨upd_same, Keep.new nD⟩ ?_ ?_ ?_
    · rintro i H' _ ⟨_, K1⟩
      exact SqT.of (K1 _ _ ht (by simp))
    · rintro i x H' hx ⟨hD, K1⟩
      have hi : i < vs.length := by
        rcases Nat.lt_or_ge i vs.length with z | z
        · exact z
        · rw [List.getElem?_eq_none z] at hx; cases hx
      have hnr : nodes r ≤ 400 := Nat.le_trans (Nat.le_mul_of_pos_left _ (by omega : 0 < vs.length)) hrn
      have hb := keepTup K1 hb1 hb2
      refine ⟨rfl, yes_then ⟨_, rfl, b, x, r, rfl, (hv x (List.mem_of_getElem? hx)).keep (K1.mono (by simp)) hb1, hb.1, hb.2, by omega, hnr, fun H2 K2 => ⟨_, K2 _ _ hD (by simp), by rw [List.length_map, List.length_replicate]; exact smallL (by omega), ?_, (K1.trans K2).then_own nD⟩⟩⟩
      rw [List.replicate_succ', List.map_append]; exact upd_same
    · rintro H' ⟨hD, K1⟩
      refine ⟨D, _, rfl, SqL.of hD, _, _, rfl, rfl, ?_⟩
      have es : (List.replicate vs.length ((nodes r : Nat) : Int)).sum = ((vs.length * nodes r : Nat) : Int) := by
        rw [List.sum_replicate_int]; push_cast; rfl
      rw [es]
      have e3 : (1 : Int) + ((vs.length * nodes r : Nat) : Int) = ((nodes l : Nat) : Int) := by rw [e1]; omega
      show Q (.int ((1 : Int) + ((vs.length * nodes r : Nat) : Int))) H'
      rw [e3]
      exact k _ K1
theorem places_all {f : Addr} {fd : FuncData} (D : C8.Def K mg "places" s_places f fd) (b : Binds K fd ["tree"] []) (T : Txt K mg C_End C_Lot C_Turn C_Builder C_Game C_Position C_GameError C_BadRatio C_BadText C_BadPlan C_BadMove C_BadEdit C_BadVersion C_BadPaper C_TooLarge) : ∀ m, C8.Cal P w K mg base (m + 1) "places" (sp_places C_End C_Lot C_Turn m) []
  | 0 => ok_places0 D b
  | m + 1 => ok_places D b T (places_all D b T m)
theorem ok_ends0 {f : Addr} {fd : FuncData} (D : C8.Def K mg "ends" s_ends f fd) (b : Binds K fd ["tree"] []) : C8.Cal P w K mg base 1 "ends" (sp_ends C_End C_Lot C_Turn 0) [] :=
  ⟨f, fd, ["tree"], [], ⟨fun vs H Q E h => (by obtain ⟨b, v, l, rfl, _⟩ := h; rfl), fun A outer s H args us vs Q E _ _ _ _ h => (by obtain ⟨b, v, l, _, _, _, _, z, _⟩ := h; exact absurd z (Nat.not_lt_zero _))⟩, D.mgf, D.kp, b, .nil⟩
theorem ok_ends {f : Addr} {fd : FuncData} (D : C8.Def K mg "ends" s_ends f fd) (b : Binds K fd ["tree"] []) (T : Txt K mg C_End C_Lot C_Turn C_Builder C_Game C_Position C_GameError C_BadRatio C_BadText C_BadPlan C_BadMove C_BadEdit C_BadVersion C_BadPaper C_TooLarge) {m k : Nat} (c_ends : C8.Cal P w K mg base k "ends" (sp_ends C_End C_Lot C_Turn m) []) : C8.Cal P w K mg base (k + 1) "ends" (sp_ends C_End C_Lot C_Turn (m + 1)) [] := by
  refine cal0 D b .nil sc_ends (fun vs H Q E h => ?_) (fun cdv A outer s H vs Q E hr h => ?_)
  · obtain ⟨b, v, l, rfl, _⟩ := h
    rfl
  · obtain ⟨b, v, l, rfl, hT, hb1, hb2, hl, hn, k⟩ := h
    refine ⟨_, (pss_cons (ps_if (pt_val (pe_callB call_isi (by rfl) T.n_isinstance bo_isinstance (pa_cons (pv 0) (pa_cons (pe_glob (v := .ref _) rfl T.m_End rfl) pa_nil))))
  (pss_one (ps_ret (pe_lst (pa_cons (pe_fld (pv 0) rfl) pa_nil))))
  pss_nil)
(pss_cons (ps_set (i := 1) sc_ends.nd rfl (by first | exact Or.inl rfl | exact Or.inr rfl) (pe_lst pa_nil))
(pss_cons (ps_for PassesOwn.never rfl (pi_tup (pe_fld (pv 0) rfl)) (pg_name (i := 2) sc_ends.nd rfl (by first | exact Or.inl rfl | exact Or.inr rfl))
  (pss_one (ps_expr (pe_bm PySem.F.plainAttrs_list PySem.F.slot_list_extend PySem.F.type_list_extend mt_extend (pv 1) (pa_cons (pe_c c_ends hr (by first | exact Nat.le_refl _ | decide | omega) rfl (pa_cons (pv 2) pa_nil)) pa_nil)))))
(pss_one (ps_ret (pv 1)))))), ?_⟩
    rcases hT.form with ⟨p, dx, rfl, hp, _, e1, _⟩ | ⟨p, C, dx, fs, t, vs, r, rfl, hp, hpa, ht, hv, e1, e2, hlr, hC⟩
    · rw [e1] at k
      refine ⟨_, rfl, _, _, _, _, _, rfl, .own _, tyI T.i_End hp, T.i_End.me, _, rfl, iteT ?_⟩
      exact ⟨_, rfl, p, C_End, dx, _, _, rfl, hp, T.cl_End, T.a_End_paid, rfl, by show 1 ≤ sizeLine; decide, fun q nq => k q _ nq upd_same (Keep.new nq)⟩
    obtain ⟨cl, na, ki, ty⟩ : Cls K C ∧ NoAttr K C "parts" ∧ PySem.W.kitOne K (.ref C) (.ref C_End) = some false ∧ TyX K H (.ref p) (.ref C) := by
      rcases hC with ⟨rfl, _⟩ | ⟨rfl, _⟩
      · exact ⟨T.cl_Lot, T.a_Lot_parts, T.kLE, tyI T.i_Lot hp⟩
      · exact ⟨T.cl_Turn, T.a_Turn_parts, T.kTE, tyI T.i_Turn hp⟩
    have hrn : vs.length * nodes r ≤ 400 := by omega
    have hll := leaves_le r
    have hvl : vs.length ≤ 400 := Nat.le_trans (Nat.le_mul_of_pos_right _ (nodes_pos r)) hrn
    refine ⟨_, rfl, _, _, _, _, _, rfl, .own _, ty, ki, _, rfl, iteF ?_⟩
    refine ⟨Nat.zero_le _, fun D nD => ?_⟩
    have K0 := Keep.new (W := []) (o := .lst []) nD
    refine ⟨_, rfl, p, C, dx, _, _, rfl, K0 _ _ hp (by simp), cl, na, hpa, t, rfl, ⟨_, SqT.of (K0 _ _ ht (by simp))⟩, for_tup (K := K) (a := t) (xs := vs) (fun (i : Nat) (σ : List (Option V)) (H' : Hp) => ∃ o2 : Option V, σ = [some (.ref p), some (.ref D), o2] ∧ H' D = some (.lst (List.replicate (i * leaves r) (.int 0))) ∧ Keep [] H H')
      ⟨none, rfl, by rw [Nat.zero_mul]; exact upd_same, K0⟩ ?_ ?_ ?_⟩
    · rintro i σ H' _ ⟨o2, rfl, _, K1⟩
      exact SqT.of (K1 _ _ ht (by simp))
    · rintro i x σ H' hx ⟨o2, rfl, hD, K1⟩
      have hi : i < vs.length := by
        rcases Nat.lt_or_ge i vs.length with z | z
        · exact z
        · rw [List.getElem?_eq_none z] at hx; cases hx
      have hnr : nodes r ≤ 400 := Nat.le_trans (Nat.le_mul_of_pos_left _ (by omega : 0 < vs.length)) hrn
      have hb := keepTup K1 hb1 hb2
      have hz : i * leaves r ≤ 400 * 400 := Nat.mul_le_mul (by omega) (by omega)
      refine ⟨_, rfl, .inl ⟨rfl, _, SqL.of hD⟩, _, rfl, b, x, r, rfl, (hv x (List.mem_of_getElem? hx)).keep (K1.mono (by simp)) hb1, hb.1, hb.2, by omega, hnr, fun q H2 nq hq K2 => ?_⟩
      refine ⟨D, q, _, _, rfl, rfl, K2 _ _ hD (by simp), hq, by rw [List.length_replicate, List.length_replicate]; exact smallM (by omega), ?_⟩
      refine ⟨_, rfl, ?_, (K1.trans K2).then_own nD⟩
      rw [List.replicate_append_replicate, ← Nat.succ_mul]; exact upd_same
    · rintro σ H' ⟨o2, rfl, hD, K1⟩
      rw [← e2] at hD
      exact ⟨_, rfl, k D _ nD hD K1⟩
theorem ends_all {f : Addr} {fd : FuncData} (D : C8.Def K mg "ends" s_ends f fd) (b : Binds K fd ["tree"] []) (T : Txt K mg C_End C_Lot C_Turn C_Builder C_Game C_Position C_GameError C_BadRatio C_BadText C_BadPlan C_BadMove C_BadEdit C_BadVersion C_BadPaper C_TooLarge) : ∀ m, C8.Cal P w K mg base (m + 1) "ends" (sp_ends C_End C_Lot C_Turn m) []
  | 0 => ok_ends0 D b
  | m + 1 => ok_ends D b T (ends_all D b T m)
theorem ok_position_of {f : Addr} {fd : FuncData} (D : C8.Def K mg "position_of" s_position_of f fd) (b : Binds K fd ["node"] []) (T : Txt K mg C_End C_Lot C_Turn C_Builder C_Game C_Position C_GameError C_BadRatio C_BadText C_BadPlan C_BadMove C_BadEdit C_BadVersion C_BadPaper C_TooLarge) (c_Position : C8.Mak P w K mg base 1 "Position" C_Position (sp_ini4 C_Position "waiting" "count" "paid" "view") []) : C8.Cal P w K mg base 3 "position_of" (sp_position C_End C_Lot C_Turn C_Position) [] := by
  refine cal0 D b .nil sc_position_of (fun vs H Q E h => ?_) (fun cdv A outer s H vs Q E hr h => ?_)
  · obtain ⟨b, v, l, rfl, _⟩ := h
    rfl
  · obtain ⟨b, v, l, rfl, hT, hpl, k⟩ := h
    refine ⟨_, (pss_cons (ps_if (pt_val (pe_callB call_isi (by rfl) T.n_isinstance bo_isinstance (pa_cons (pv 0) (pa_cons (pe_glob (v := .ref _) rfl T.m_End rfl) pa_nil))))
  (pss_one (ps_ret (pe_mk c_Position hr (by first | exact Nat.le_refl _ | decide | omega) rfl (pa_cons pe_str (pa_cons pe_int (pa_cons (pe_fld (pv 0) rfl) (pa_cons pe_non pa_nil)))))))
  pss_nil)
(pss_cons (ps_if (pt_val (pe_callB call_isi (by rfl) T.n_isinstance bo_isinstance (pa_cons (pv 0) (pa_cons (pe_glob (v := .ref _) rfl T.m_Lot rfl) pa_nil))))
  (pss_one (ps_ret (pe_mk c_Position hr (by first | exact Nat.le_refl _ | decide | omega) rfl (pa_cons pe_str (pa_cons (pe_callB call_len_seq (by rfl) T.n_len bo_len (pa_cons (pe_fld (pv 0) rfl) pa_nil)) (pa_cons pe_non (pa_cons pe_non pa_nil)))))))
  pss_nil)
(pss_one (ps_ret (pe_mk c_Position hr (by first | exact Nat.le_refl _ | decide | omega) rfl (pa_cons (pe_ix ix_tup (pe_tup (pa_cons pe_str (pa_cons pe_str pa_nil))) (pe_op op_sub (pe_fld (pv 0) rfl) pe_int) (fun _ _ => rfl)) (pa_cons (pe_callB call_len_seq (by rfl) T.n_len bo_len (pa_cons (pe_fld (pv 0) rfl) pa_nil)) (pa_cons pe_non (pa_cons (pe_fld (pv 0) rfl) pa_nil))))))))), ?_⟩
    have fin : ∀ {H1 : Hp} {q dq : Addr} {ws : V} {c d e : V}, Keep [] H H1 → H1 q = none → H1 dq = none → ws = .str (waits l) → Q (.ref q) (upd (upd (upd H1 dq (.own q)) q (.ins C_Position dq [])) q (.ins C_Position dq [("waiting", ws), ("count", c), ("paid", d), ("view", e)])) := fun K1 nq ndq ew => by
      rw [upd_upd, ew]
      exact k _ _ _ _ _ _ (K1.free nq) upd_same (K1.trans (Keep.made nq ndq))
    rcases hT.form with ⟨p, dx, rfl, hp, _, _, ew⟩ | ⟨p, C, dx, fs, t, vs, r, rfl, hp, hpa, ht, hv, e1, e2, hlr, hC⟩
    · refine ⟨_, rfl, _, _, _, _, _, rfl, .own _, tyI T.i_End hp, T.i_End.me, _, rfl, iteT ?_⟩
      exact ⟨_, rfl, p, C_End, dx, _, _, rfl, hp, T.cl_End, T.a_End_paid, rfl, fun q dq nq ndq neq => ⟨q, dq, _, _, _, _, rfl, upd_same, rfl, fin (Keep.refl _ _) nq ndq (by rw [ew])⟩⟩
    · rcases hC with ⟨rfl, ew⟩ | ⟨rfl, pl, vw, x, s', i, hpl1, hvw, hm, ew⟩
      · refine ⟨_, rfl, _, _, _, _, _, rfl, .own _, tyI T.i_Lot hp, T.kLE, _, rfl, iteF ?_⟩
        refine ⟨_, rfl, _, _, _, _, _, rfl, .own _, tyI T.i_Lot hp, T.i_Lot.me, _, rfl, iteT ?_⟩
        exact ⟨_, rfl, p, C, dx, _, _, rfl, hp, T.cl_Lot, T.a_Lot_parts, hpa, _, _, rfl, .inr (SqT.of ht), fun q dq nq ndq neq => ⟨q, dq, _, _, _, _, rfl, upd_same, rfl, fin (Keep.refl _ _) nq ndq (by rw [ew])⟩⟩
      · refine ⟨_, rfl, _, _, _, _, _, rfl, .own _, tyI T.i_Turn hp, T.kTE, _, rfl, iteF ?_⟩
        refine ⟨_, rfl, _, _, _, _, _, rfl, .own _, tyI T.i_Turn hp, T.kTL, _, rfl, iteF ?_⟩
        have h12 := hpl _ hm pl x s' i rfl
        refine ⟨by show 2 ≤ sizeLine; decide, fun tt ntt => ?_⟩
        have K1 := Keep.new (W := []) (o := .tup [.str "first", .str "second"]) ntt
        have hp1 := K1 _ _ hp (by simp)
        have hw : atI ([.str "first", .str "second"] : List V) (pl - 1) = some (.str (waits l)) := by
          rw [ew]
          rcases h12 with h | h <;> subst h <;> rfl
        refine ⟨_, rfl, p, C, dx, _, _, rfl, hp1, T.cl_Turn, T.a_Turn_player, hpl1, _, _, rfl, rfl, _, _, _, _, rfl, rfl, SqT.of upd_same, hw, ?_⟩
        refine ⟨_, rfl, p, C, dx, _, _, rfl, hp1, T.cl_Turn, T.a_Turn_parts, hpa, _, _, rfl, .inr (SqT.of (K1 _ _ ht (by simp))), ?_⟩
        exact ⟨_, rfl, p, C, dx, _, _, rfl, hp1, T.cl_Turn, T.a_Turn_view, hvw, fun q dq nq ndq neq => ⟨q, dq, _, _, _, _, rfl, upd_same, rfl, fin K1 nq ndq rfl⟩⟩
theorem ok_follow {f : Addr} {fd : FuncData} (D : C8.Def K mg "follow" s_follow f fd) (b : Binds K fd ["tree", "choices"] []) (T : Txt K mg C_End C_Lot C_Turn C_Builder C_Game C_Position C_GameError C_BadRatio C_BadText C_BadPlan C_BadMove C_BadEdit C_BadVersion C_BadPaper C_TooLarge) : C8.Cal P w K mg base 1 "follow" sp_follow [] := by
  refine cal0 D b .nil sc_follow (fun vs H Q E h => ?_) (fun cdv A outer s H vs Q E hr h => ?_)
  · obtain ⟨v, a, rfl, _⟩ := h
    rfl
  · obtain ⟨v, a, rfl, ha, k⟩ := h
    refine ⟨_, (pss_cons (ps_set (i := 2) sc_follow.nd rfl (by first | exact Or.inl rfl | exact Or.inr rfl) (pv 0))
(pss_cons (ps_for PassesOwn.never rfl (pi_enum (by rfl) T.n_enumerate (pa_cons (pv 1) pa_nil)) (pg_tup (by rfl) (pgs_cons (pg_name (i := 3) sc_follow.nd rfl (by first | exact Or.inl rfl | exact Or.inr rfl)) (pgs_cons (pg_name (i := 4) sc_follow.nd rfl (by first | exact Or.inl rfl | exact Or.inr rfl)) pgs_nil)))
  (pss_cons (ps_if (PW.pt (pw_or (pt_val (pe_callB call_isi (by rfl) T.n_isinstance bo_isinstance (pa_cons (pv 2) (pa_cons (pe_glob (v := .ref _) rfl T.m_End rfl) pa_nil)))) (pw_or1 (pt_not (pt_chain op_le op_lt pe_int (pv 4) (pe_callB call_len_seq (by rfl) T.n_len bo_len (pa_cons (pe_fld (pv 2) rfl) pa_nil)))))))
    (pss_one ps_never)
    pss_nil)
  (pss_one (ps_set (i := 2) sc_follow.nd rfl (by first | exact Or.inl rfl | exact Or.inr rfl) (pe_ix ix_tup (pe_fld (pv 2) rfl) (pv 4) (fun _ _ => rfl))))))
(pss_one (ps_ret (pv 2))))), ?_⟩
    refine ⟨_, rfl, _, rfl, a, [], rfl, SqL.of ha, ?_⟩
    refine ⟨fun i m σ H' => i = 0 ∧ H' = H ∧ σ = [some v, some (.ref a), some v, none, none], ⟨0, rfl, rfl, rfl⟩, ?_⟩
    rintro i m σ H' ⟨rfl, rfl, rfl⟩
    exact .inl ⟨⟨[], SqL.of ha, Nat.le_refl _⟩, _, rfl, k⟩
def sp_run (K : PySem.W.Frag) (CG CP CB : Addr) (m : Nat) : Sp := fun vs H Q E => ∃ (g : Addr) (xs : List Str) (rows : List Sg) (ch : Addr) (cs : List V), vs = [.ref g, .ref ch] ∧ GameAt CG K H g xs rows ∧ H ch = some (.lst cs) ∧ rows.length < m ∧ rows.length ≤ 400 ∧ xs.length ≤ 400 ∧ (∀ st ∈ rows, ∀ kvs, (∀ y ∈ xs, valV kvs (.inr y) = some (.int 3)) → st.ok kvs) ∧
  (nodes rows ≤ 400 → cs = []) ∧ (∀ st ∈ rows, ∀ pl x s i, st = Sg.mov pl x s i → pl = 1 ∨ pl = 2) ∧
  (nodes rows ≤ 400 → ∀ p dp c d e H', H p = none → H' p = some (.ins CP dp [("waiting", .str (waits rows)), ("count", c), ("paid", d), ("view", e)]) → Keep [] H H' → Q (.ref p) H') ∧ (400 < nodes rows → ∀ d H', H d = none → H' d = some (.xd [(("what" : Str), .str "places")]) → Keep [] H H' → E (.ref CB) (some d) H')
theorem ok_run {f : Addr} {fd : FuncData} (D : C8.Def K mg "run" s_run f fd) (b : Binds K fd ["game", "choices"] []) (T : Txt K mg C_End C_Lot C_Turn C_Builder C_Game C_Position C_GameError C_BadRatio C_BadText C_BadPlan C_BadMove C_BadEdit C_BadVersion C_BadPaper C_TooLarge) {m k : Nat} (hk : 3 ≤ k) (c_tree_of : CalX P w K mg base k "tree_of" (sp_tree K C_Game C_End C_Lot C_Turn C_TooLarge m) []) (c_position_of : C8.Cal P w K mg base 3 "position_of" (sp_position C_End C_Lot C_Turn C_Position) [])
    (c_follow : C8.Cal P w K mg base 1 "follow" sp_follow []) : CalX P w K mg base (k + 1) "run" (sp_run K C_Game C_Position C_TooLarge m) [] := by
  refine CalX.of D (fnx D.fn sc_run (fun vs H Q E h => ?_) (fun cdv A outer s H vs Q E hr h => ?_)) b .nil
  · obtain ⟨g, xs, rows, ch, cs, rfl, _⟩ := h
    rfl
  · obtain ⟨g, xs, rows, ch, cs, rfl, hG, hch, h1, h2, h3, h4, h5, h6, k1, k2⟩ := h
    refine ⟨_, (pss_one (ps_ret (pe_c c_position_of hr (by first | exact Nat.le_refl _ | decide | omega) rfl (pa_cons (pe_c c_follow hr (by first | exact Nat.le_refl _ | decide | omega) rfl (pa_cons (pe_cX c_tree_of hr (by first | exact Nat.le_refl _ | decide | omega) rfl (passes_call (takes_of rfl rfl rfl rfl) (fun _ _ _ _ h => h)) (pa_cons (pv 0) pa_nil)) (pa_cons (pv 1) pa_nil))) pa_nil)))), ?_⟩
    refine ⟨_, rfl, g, xs, rows, rfl, hG, h1, h2, h3, h4, fun hn b v H1 nb T1 hb1 hb2 K1 => ?_, k2⟩
    refine ⟨_, rfl, v, ch, rfl, by rw [← h5 hn]; exact K1 _ _ hch (by simp), ?_⟩
    exact ⟨b, v, rows, rfl, T1, h6, fun p dp c d e H2 np hp K2 => k1 hn p dp c d e H2 (K1.free np) hp (K1.trans K2)⟩
end

def sp_cell (K : PySem.W.Frag) : Sp := fun vs H Q _ => ∃ (a : Addr) (ns : List Int) (k : Nat), vs = [.ref a, .int k] ∧ SqL K H a (ns.map V.int) ∧ Q (.int (ns.getD k 0)) H
def sp_isint : Sp := fun vs H Q _ => ∃ z : Int, vs = [.int z] ∧ Q (.bl true) H
/-- the sizes: a few, none of them great -/
def sp_sizes (K : PySem.W.Frag) : Sp := fun vs H Q _ => ∃ (a : Addr) (ns : List Int), vs = [.ref a] ∧ SqL K H a (ns.map V.int) ∧ ∀ l (zs : List Nat) H', (SqL K H' l (zs.map fun (z : Nat) => V.int (z : Int)) ∨ SqT K H' l (zs.map fun (z : Nat) => V.int (z : Int))) → zs.length ≤ 6 → (∀ z ∈ zs, 1 ≤ z ∧ z ≤ 64) → Keep [] H H' → Q (.ref l) H'
def sp_first : Sp := fun vs H Q _ => ∃ (a : Addr) (ps : List Addr) (rows : List Sg), vs = [.ref a] ∧ H a = some (.lst (ps.map V.ref)) ∧ Paired (fun p st => H p = some (.tup (Sg.row st))) ps rows ∧ (∀ st ∈ rows, ∀ i, st ≠ .rnd i) ∧ (∀ st ∈ rows, ∀ pl x s i, st = Sg.mov pl x s i → pl = 1 ∨ pl = 2) ∧ ∀ H', Keep [] H H' → Q (.str (waits rows)) H'
def sp_waiting (K : PySem.W.Frag) (CG : Addr) (m : Nat) : Sp := fun vs H Q _ => ∃ (g : Addr) (xs : List Str) (rows : List Sg) (ch : Addr) (cs : List V), vs = [.ref g, .ref ch] ∧ GameAt CG K H g xs rows ∧ H ch = some (.lst cs) ∧ rows.length < m ∧ rows.length ≤ 400 ∧ xs.length ≤ 400 ∧ (∀ st ∈ rows, ∀ kvs, (∀ y ∈ xs, valV kvs (.inr y) = some (.int 3)) → st.ok kvs) ∧
  (nodes rows ≤ 400 → cs = []) ∧ (∀ st ∈ rows, ∀ pl x s i, st = Sg.mov pl x s i → pl = 1 ∨ pl = 2) ∧
  (nodes rows ≤ 400 → ∀ t H', H' t = some (.tup [.str "waiting", .str (waits rows)]) → Keep [] H H' → Q (.ref t) H') ∧ (400 < nodes rows → ∀ t H', H' t = some (.tup [.str "large", .str "places"]) → Keep [] H H' → Q (.ref t) H')
theorem cut17 (ns : List Int) : ∃ ms : List Int, cutV (ns.map V.int) (some 1) (some 7) = ms.map V.int ∧ ms.length ≤ 6 := by
  refine ⟨(ns.drop (min 1 ns.length)).take (min 7 ns.length - min 1 ns.length), ?_, ?_⟩
  · unfold cutV
    rw [show (1 : Int) = ((1 : Nat) : Int) from rfl, show (7 : Int) = ((7 : Nat) : Int) from rfl, HT.sIx_nat, HT.sIx_nat, List.length_map, List.map_take, List.map_drop]
  · rw [List.length_take]; omega
section
variable {P : Program} {w : World} {K : PySem.W.Frag} {mg : Str → Option Value} {base : Heap} {C_End : Addr} {C_Lot : Addr} {C_Turn : Addr} {C_Builder : Addr} {C_Game : Addr} {C_Position : Addr} {C_GameError : Addr} {C_BadRatio : Addr} {C_BadText : Addr} {C_BadPlan : Addr} {C_BadMove : Addr} {C_BadEdit : Addr} {C_BadVersion : Addr} {C_BadPaper : Addr} {C_TooLarge : Addr} {f_TooLarge___init : Addr}
theorem ok_cell {f : Addr} {fd : FuncData} (D : C8.Def K mg "_law_cell" s_law_cell f fd) (b : Binds K fd ["script", "k"] []) (T : Txt K mg C_End C_Lot C_Turn C_Builder C_Game C_Position C_GameError C_BadRatio C_BadText C_BadPlan C_BadMove C_BadEdit C_BadVersion C_BadPaper C_TooLarge) : C8.Cal P w K mg base 1 "_law_cell" (sp_cell K) [] := by
  refine cal0 D b .nil sc_law_cell (fun vs H Q E h => ?_) (fun cdv A outer s H vs Q E hr h => ?_)
  · obtain ⟨a, ns, k, rfl, _⟩ := h
    rfl
  · obtain ⟨a, ns, k, rfl, hS, g⟩ := h
    refine ⟨_, (pss_cons (ps_if (pt_cmpR op_lt (pv 1) (pe_callB call_len_seq (by rfl) T.n_len bo_len (pa_cons (pv 0) pa_nil)) (nomark _))
  (pss_one (ps_ret (pe_ix ix_list (pv 0) (pv 1) (fun _ _ => rfl))))
  pss_nil)
(pss_one (ps_ret pe_int))), ?_⟩
    refine ⟨_, rfl, _, rfl, _, _, rfl, .inl hS, _, _, rfl, rfl, _, rfl, iteD (fun h => ?_) (fun h => ?_)⟩
    all_goals rw [List.length_map] at h
    rotate_left
    · have e : ns.getD k 0 = 0 := by rw [List.getD_eq_getElem?_getD, List.getElem?_eq_none (by omega)]; rfl
      rw [e] at g; exact g
    have hk : k < ns.length := by omega
    have e : ns.getD k 0 = ns[k] := by rw [List.getD_eq_getElem?_getD, List.getElem?_eq_getElem hk]; rfl
    rw [e] at g
    exact ⟨_, rfl, _, rfl, _, _, _, _, rfl, rfl, hS, atI_nat (by rw [List.getElem?_map, List.getElem?_eq_getElem hk]; rfl), g⟩
theorem ok_isint {f : Addr} {fd : FuncData} (D : C8.Def K mg "_law_is_integer" s_law_is_integer f fd) (b : Binds K fd ["actual"] []) (T : Txt K mg C_End C_Lot C_Turn C_Builder C_Game C_Position C_GameError C_BadRatio C_BadText C_BadPlan C_BadMove C_BadEdit C_BadVersion C_BadPaper C_TooLarge) : C8.Cal P w K mg base 1 "_law_is_integer" sp_isint [] := by
  refine cal0 D b .nil sc_law_is_integer (fun vs H Q E h => ?_) (fun cdv A outer s H vs Q E hr h => ?_)
  · obtain ⟨z, rfl, _⟩ := h
    rfl
  · obtain ⟨z, rfl, k⟩ := h
    refine ⟨_, (pss_one (ps_ret (pe_and (pe_callB call_isi (by rfl) T.n_isinstance bo_isinstance (pa_cons (pv 0) (pa_cons (pe_bltn (v := .ty "int") (by rfl) T.n_int bo_int rfl) pa_nil))) (pe_one (pe_not (pe_callB call_isi (by rfl) T.n_isinstance bo_isinstance (pa_cons (pv 0) (pa_cons (pe_bltn (v := .ty "bool") (by rfl) T.n_bool bo_bool rfl) pa_nil)))))))), ?_⟩
    have kII : PySem.W.kitOne K (.type "int") (.type "int") = some true := kit_ty (by decide +kernel)
    have kIB : PySem.W.kitOne K (.type "int") (.type "bool") = some false := kit_ty (by decide +kernel)
    exact ⟨_, rfl, _, _, _, _, _, rfl, .ty _, .base (.int z), kII, _, rfl, iteT ⟨_, rfl, _, _, _, _, _, rfl, .ty _, .base (.int z), kIB, _, rfl, k⟩⟩
theorem ok_first {f : Addr} {fd : FuncData} (D : C8.Def K mg "_law_first" s_law_first f fd) (b : Binds K fd ["block"] []) (T : Txt K mg C_End C_Lot C_Turn C_Builder C_Game C_Position C_GameError C_BadRatio C_BadText C_BadPlan C_BadMove C_BadEdit C_BadVersion C_BadPaper C_TooLarge) : C8.Cal P w K mg base 1 "_law_first" sp_first [] := by
  refine cal0 D b .nil sc_law_first (fun vs H Q E h => ?_) (fun cdv A outer s H vs Q E hr h => ?_)
  · obtain ⟨a, ps, rows, rfl, _⟩ := h
    rfl
  · obtain ⟨a, ps, rows, rfl, ha, hp, hn, hpl, k⟩ := h
    refine ⟨_, (pss_cons (ps_if (pt_cmpR op_eq (pe_callB call_len_seq (by rfl) T.n_len bo_len (pa_cons (pv 0) pa_nil)) pe_int (nomark _))
  (pss_one (ps_ret pe_str))
  pss_nil)
(pss_cons (ps_if (pt_cmpR op_eq (pe_ix ix_tup (pe_ix ix_list (pv 0) pe_int (fun _ _ => rfl)) pe_int (fun _ _ => rfl)) pe_str (nomark _))
  (pss_one (ps_ret pe_str))
  pss_nil)
(pss_one (ps_ret (pe_ix ix_tup (pe_tup (pa_cons pe_str (pa_cons pe_str pa_nil))) (pe_op op_sub (pe_ix ix_tup (pe_ix ix_list (pv 0) pe_int (fun _ _ => rfl)) pe_int (fun _ _ => rfl)) pe_int) (fun _ _ => rfl)))))), ?_⟩
    cases hp with
    | nil =>
      exact ⟨_, rfl, _, _, rfl, .inl (SqL.of ha), rfl, _, rfl, iteDT rfl (k _ (Keep.refl _ _))⟩
    | @cons p st ps' rows' h0 ht =>
      have ne : ¬ V.int (((p :: ps').map V.ref).length : Int) = .int 0 := fun z => by
        have := V.int.inj z
        rw [List.length_map, List.length_cons] at this; omega
      refine ⟨_, rfl, _, _, rfl, .inl (SqL.of ha), rfl, _, rfl, iteDF ne ?_⟩
      cases st with
      | rnd i => exact absurd rfl (hn _ (List.mem_cons_self ..) i)
      | drw x s' =>
        exact ⟨_, rfl, _, _, _, _, rfl, rfl, SqL.of ha, atI_nat (j := 0) rfl, _, _, _, _, rfl, rfl, SqT.of h0, rfl, rfl, _, rfl, iteDT rfl (k _ (Keep.refl _ _))⟩
      | mov pl x s' i =>
        refine ⟨_, rfl, _, _, _, _, rfl, rfl, SqL.of ha, atI_nat (j := 0) rfl, _, _, _, _, rfl, rfl, SqT.of h0, rfl, rfl, _, rfl, iteDF (ne_pair (by decide)) ?_⟩
        have h12 := hpl _ (List.mem_cons_self ..) pl x s' i rfl
        refine ⟨by show 2 ≤ sizeLine; decide, fun t nt => ?_⟩
        have K1 := Keep.new (W := []) (o := .tup [.str "first", .str "second"]) nt
        have hw : atI ([.str "first", .str "second"] : List V) (pl - 1) = some (.str (waits (Sg.mov pl x s' i :: rows'))) := by
          show _ = some (V.str (if pl = 1 then ("first" : Str) else "second"))
          rcases h12 with h | h <;> subst h <;> rfl
        exact ⟨_, rfl, _, _, _, _, rfl, rfl, SqL.of (K1 _ _ ha (by simp)), atI_nat (j := 0) rfl, _, _, _, _, rfl, rfl, SqT.of (K1 _ _ h0 (by simp)), rfl, _, _, rfl, rfl, _, _, _, _, rfl, rfl, SqT.of upd_same, hw, k _ K1⟩
theorem ok_sizes {f : Addr} {fd : FuncData} (D : C8.Def K mg "_law_sizes" s_law_sizes f fd) (b : Binds K fd ["script"] []) (T : Txt K mg C_End C_Lot C_Turn C_Builder C_Game C_Position C_GameError C_BadRatio C_BadText C_BadPlan C_BadMove C_BadEdit C_BadVersion C_BadPaper C_TooLarge) (c_law_cell : C8.Cal P w K mg base 1 "_law_cell" (sp_cell K) []) : C8.Cal P w K mg base 2 "_law_sizes" (sp_sizes K) [] := by
  refine cal0 D b .nil sc_law_sizes (fun vs H Q E h => ?_) (fun cdv A outer s H vs Q E hr h => ?_)
  · obtain ⟨a, ns, rfl, _⟩ := h
    rfl
  · obtain ⟨a, ns, rfl, hS, k⟩ := h
    refine ⟨_, (pss_cons (ps_if (pt_cmpR op_eq (pe_op op_mod (pe_callTy call_int1 (by rfl) T.n_int bo_int (pa_cons (pe_c c_law_cell hr (by first | exact Nat.le_refl _ | decide | omega) rfl (pa_cons (pv 0) (pa_cons pe_int pa_nil))) pa_nil)) pe_int) pe_int (nomark _))
  (pss_one (ps_ret (pe_ix ix_list (pe_lst (pa_cons (pe_tup (pa_cons pe_int (pa_cons pe_int (pa_cons pe_int pa_nil)))) (pa_cons (pe_tup (pa_cons pe_int (pa_cons pe_int (pa_cons pe_int (pa_cons pe_int pa_nil))))) (pa_cons (pe_tup (pa_cons pe_int (pa_cons pe_int pa_nil))) (pa_cons (pe_tup (pa_cons pe_int (pa_cons pe_int pa_nil))) (pa_cons (pe_tup (pa_cons pe_int (pa_cons pe_int (pa_cons pe_int pa_nil)))) (pa_cons (pe_tup (pa_cons pe_int (pa_cons pe_int pa_nil))) (pa_cons (pe_tup (pa_cons pe_int (pa_cons pe_int pa_nil))) pa_nil)))))))) (pe_op op_mod (pe_op op_fdiv (pe_c c_law_cell hr (by first | exact Nat.le_refl _ | decide | omega) rfl (pa_cons (pv 0) (pa_cons pe_int pa_nil))) pe_int) pe_int) (fun _ _ => rfl))))
  pss_nil)
(pss_one (ps_ret (pe_lc (own := [("cell", 1)]) (g := gName 1) (tt := tYes) rfl sc_law_sizes.nd (pi_list (pe_slice sl_list (pv 0) (po_some pe_int) (po_some pe_int))) (blkOk_by (N := ["script", "cell"]) (sc := fnScope s_law_sizes) (by decide +kernel)) (fun _ _ _ _ _ => pg_name (i := 1) sc_law_sizes.nd rfl (Or.inl rfl)) (fun _ _ _ _ _ => pts_nil) (fun _ _ _ _ _ => (pe_op op_add pe_int (pe_op op_mod (pe_callTy call_int1 (by rfl) T.n_int bo_int (pa_cons (pv 1) pa_nil)) pe_int))))))), ?_⟩
    refine ⟨_, rfl, a, ns, 0, rfl, hS, .inl ⟨_, rfl, _, _, rfl, rfl, by show (0 : Int) < 2; decide, rfl, _, rfl, iteD (fun _ => ?_) (fun _ => ?_)⟩⟩
    · refine ⟨by show 3 ≤ sizeLine; decide, fun t0 n0 => ⟨by show 4 ≤ sizeLine; decide, fun t1 n1 => ⟨by show 2 ≤ sizeLine; decide, fun t2 n2 => ⟨by show 2 ≤ sizeLine; decide, fun t3 n3 => ⟨by show 3 ≤ sizeLine; decide, fun t4 n4 => ⟨by show 2 ≤ sizeLine; decide, fun t5 n5 => ⟨by show 2 ≤ sizeLine; decide, fun t6 n6 => ⟨by show 7 ≤ sizeLine; decide, fun L nL => ?_⟩⟩⟩⟩⟩⟩⟩⟩
      have K0 := Keep.new (W := []) (o := .tup [.int 7, .int 7, .int 7]) n0
      have K1 := Keep.new (W := []) (o := .tup [.int 7, .int 7, .int 7, .int 1]) n1
      have K2 := Keep.new (W := []) (o := .tup [.int 19, .int 20]) n2
      have K3 := Keep.new (W := []) (o := .tup [.int 20, .int 19]) n3
      have K4 := Keep.new (W := []) (o := .tup [.int 3, .int 3, .int 43]) n4
      have K5 := Keep.new (W := []) (o := .tup [.int 64, .int 5]) n5
      have K6 := Keep.new (W := []) (o := .tup [.int 64, .int 6]) n6
      have KL := Keep.new (W := []) (o := .lst [.ref t0, .ref t1, .ref t2, .ref t3, .ref t4, .ref t5, .ref t6]) nL
      have KK := ((((((K0.trans K1).trans K2).trans K3).trans K4).trans K5).trans K6).trans KL
      refine ⟨_, rfl, a, ns, 0, rfl, KK.seqL hS (by simp), _, _, rfl, rfl, ⟨by decide, by decide⟩, _, _, rfl, rfl, by show (0 : Int) < 7; decide, ?_⟩
      generalize ns.getD 0 0 = z
      have h7 : z / 2 % 7 = 0 ∨ z / 2 % 7 = 1 ∨ z / 2 % 7 = 2 ∨ z / 2 % 7 = 3 ∨ z / 2 % 7 = 4 ∨ z / 2 % 7 = 5 ∨ z / 2 % 7 = 6 := by omega
      have fin : ∀ {u : Addr} {zs : List Nat}, upd (upd (upd (upd (upd (upd (upd (upd H t0 (.tup [.int 7, .int 7, .int 7])) t1 (.tup [.int 7, .int 7, .int 7, .int 1])) t2 (.tup [.int 19, .int 20])) t3 (.tup [.int 20, .int 19])) t4 (.tup [.int 3, .int 3, .int 43])) t5 (.tup [.int 64, .int 5])) t6 (.tup [.int 64, .int 6])) L (.lst [.ref t0, .ref t1, .ref t2, .ref t3, .ref t4, .ref t5, .ref t6]) u = some (.tup (zs.map fun (z : Nat) => V.int (z : Int))) → zs.length ≤ 6 → (∀ z ∈ zs, 1 ≤ z ∧ z ≤ 64) → Q (.ref u) _ := fun h1 h2 h3 => k _ _ _ (.inr (SqT.of h1)) h2 h3 KK
      rcases h7 with h | h | h | h | h | h | h
      · exact ⟨L, _, _, .ref t0, rfl, rfl, SqL.of upd_same, by show atI _ (z / 2 % 7) = _; rw [h]; rfl, fin (zs := [7, 7, 7]) (KL _ _ (K6 _ _ (K5 _ _ (K4 _ _ (K3 _ _ (K2 _ _ (K1 _ _ upd_same (by simp)) (by simp)) (by simp)) (by simp)) (by simp)) (by simp)) (by simp)) (by decide) (by decide)⟩
      · exact ⟨L, _, _, .ref t1, rfl, rfl, SqL.of upd_same, by show atI _ (z / 2 % 7) = _; rw [h]; rfl, fin (zs := [7, 7, 7, 1]) (KL _ _ (K6 _ _ (K5 _ _ (K4 _ _ (K3 _ _ (K2 _ _ upd_same (by simp)) (by simp)) (by simp)) (by simp)) (by simp)) (by simp)) (by decide) (by decide)⟩
      · exact ⟨L, _, _, .ref t2, rfl, rfl, SqL.of upd_same, by show atI _ (z / 2 % 7) = _; rw [h]; rfl, fin (zs := [19, 20]) (KL _ _ (K6 _ _ (K5 _ _ (K4 _ _ (K3 _ _ upd_same (by simp)) (by simp)) (by simp)) (by simp)) (by simp)) (by decide) (by decide)⟩
      · exact ⟨L, _, _, .ref t3, rfl, rfl, SqL.of upd_same, by show atI _ (z / 2 % 7) = _; rw [h]; rfl, fin (zs := [20, 19]) (KL _ _ (K6 _ _ (K5 _ _ (K4 _ _ upd_same (by simp)) (by simp)) (by simp)) (by simp)) (by decide) (by decide)⟩
      · exact ⟨L, _, _, .ref t4, rfl, rfl, SqL.of upd_same, by show atI _ (z / 2 % 7) = _; rw [h]; rfl, fin (zs := [3, 3, 43]) (KL _ _ (K6 _ _ (K5 _ _ upd_same (by simp)) (by simp)) (by simp)) (by decide) (by decide)⟩
      · exact ⟨L, _, _, .ref t5, rfl, rfl, SqL.of upd_same, by show atI _ (z / 2 % 7) = _; rw [h]; rfl, fin (zs := [64, 5]) (KL _ _ (K6 _ _ upd_same (by simp)) (by simp)) (by decide) (by decide)⟩
      · exact ⟨L, _, _, .ref t6, rfl, rfl, SqL.of upd_same, by show atI _ (z / 2 % 7) = _; rw [h]; rfl, fin (zs := [64, 6]) (KL _ _ upd_same (by simp)) (by decide) (by decide)⟩
    · refine ⟨_, rfl, _, rfl, _, rfl, a, _, rfl, hS, fun p np => ?_⟩
      obtain ⟨ms, em, hm⟩ := cut17 ns
      rw [em]
      have K0 := Keep.new (W := []) (o := .lst (ms.map V.int)) np
      refine ⟨p, rfl, ⟨_, SqL.of upd_same⟩, fun D nD => ?_⟩
      refine lc_list (K := K) (a := p) (xs := ms.map V.int) (fun i H' => H' D = some (.lst (((ms.take i).map fun c => (1 + c % 8).toNat).map fun (z : Nat) => V.int (z : Int))) ∧ Keep [] (upd H p (.lst (ms.map V.int))) H') ⟨upd_same, Keep.new nD⟩ ?_ ?_ ?_
      · rintro i H' _ ⟨_, K1⟩
        exact SqL.of (K1 _ _ upd_same (by simp))
      · rintro i x H' hx ⟨hD, K1⟩
        obtain ⟨c, hc, rfl⟩ := ints_get hx
        have hi : i < ms.length := by
          rcases Nat.lt_or_ge i ms.length with z | z
          · exact z
          · rw [List.getElem?_eq_none z] at hc; cases hc
        refine ⟨rfl, yes_then ⟨_, rfl, .inl ⟨_, rfl, _, _, rfl, rfl, by show (0 : Int) < 8; decide, _, _, rfl, rfl, _, hD, by rw [List.length_map, List.length_map, List.length_take]; exact smallL (by omega), ?_, K1.then_own nD⟩⟩⟩
        rw [upd_same, List.take_add_one, hc]
        have e : ((1 + c % 8).toNat : Int) = 1 + c % 8 := by omega
        simp [e]
      · rintro H' ⟨hD, K1⟩
        rw [List.length_map, List.take_length] at hD
        refine k D (ms.map fun c => (1 + c % 8).toNat) _ (.inl (SqL.of hD)) (by rw [List.length_map]; exact hm) (fun z hz => ?_) (K0.trans K1)
        obtain ⟨c, _, rfl⟩ := List.mem_map.mp hz
        omega
theorem ok_waiting {f : Addr} {fd : FuncData} (D : C8.Def K mg "_law_waiting" s_law_waiting f fd) (b : Binds K fd ["game", "way"] []) (T : Txt K mg C_End C_Lot C_Turn C_Builder C_Game C_Position C_GameError C_BadRatio C_BadText C_BadPlan C_BadMove C_BadEdit C_BadVersion C_BadPaper C_TooLarge) {m k : Nat} (c_run : CalX P w K mg base k "run" (sp_run K C_Game C_Position C_TooLarge m) []) : C8.Cal P w K mg base (k + 1) "_law_waiting" (sp_waiting K C_Game m) [] := by
  refine cal0 D b .nil sc_law_waiting (fun vs H Q E h => ?_) (fun cdv A outer s H vs Q E hr h => ?_)
  · obtain ⟨g, xs, rows, ch, cs, rfl, _⟩ := h
    rfl
  · obtain ⟨g, xs, rows, ch, cs, rfl, hG, hch, h1, h2, h3, h4, h5, h6, k1, k2⟩ := h
    refine ⟨_, (pss_cons (ps_try_as (i := 2) rfl rfl sc_law_waiting.nd rfl rfl ⟨rfl, by decide, .inl T.m_GameError⟩ takes0 (fun W pn xe tk ps =>
  (pss_one (ps_ret (pe_tup (pa_cons pe_str (pa_cons (pe_fldK (K := K) (pe_cS c_run hr (by first | exact Nat.le_refl _ | decide | omega) rfl tk (pa_cons (pv 0) (pa_cons (pv 1) pa_nil))) rfl) pa_nil))))))
  (fun a oe cls d pn hz hf =>
  (pss_one (ps_if (PW.pt (pw_and (pt_val (pe_callB (call_isX hz hf) (by rfl) T.n_isinstance bo_isinstance (pa_cons (pv 2) (pa_cons (pe_glob (v := .ref _) rfl T.m_TooLarge rfl) pa_nil)))) (pw_and1 (pt_not (pt_val (pe_callB (call_isXT hz hf) (by rfl) T.n_isinstance bo_isinstance (pa_cons (pv 2) (pa_cons (pe_tup (pa_cons (pe_glob (v := .ref _) rfl T.m_BadEdit rfl) (pa_cons (pe_glob (v := .ref _) rfl T.m_BadMove rfl) (pa_cons (pe_glob (v := .ref _) rfl T.m_BadPaper rfl) (pa_cons (pe_glob (v := .ref _) rfl T.m_BadPlan rfl) (pa_cons (pe_glob (v := .ref _) rfl T.m_BadRatio rfl) (pa_cons (pe_glob (v := .ref _) rfl T.m_BadText rfl) (pa_cons (pe_glob (v := .ref _) rfl T.m_BadVersion rfl) pa_nil)))))))) pa_nil))))))))
    (pss_one (ps_ret (pe_tup (pa_cons pe_str (pa_cons (pe_xf T.f_TooLarge T.no_TooLarge hz hf (pv 2)) pa_nil)))))
    pss_nil))))
(pss_one (ps_ret (pe_tup (pa_cons pe_str (pa_cons pe_str pa_nil)))))), ?_⟩
    refine ⟨_, rfl, _, rfl, g, xs, rows, ch, cs, rfl, hG, hch, h1, h2, h3, h4, h5, h6, fun hn p dp c d e H1 np hp K1 => ?_, fun hn d H1 nd hd K1 => ?_⟩
    · exact ⟨p, C_Position, dp, _, _, rfl, hp, T.cl_Position, T.a_Position_waiting, rfl, by show 2 ≤ sizeLine; decide, fun t nt => k1 hn t _ upd_same (K1.then_new nt)⟩
    · refine ⟨true, PySem.W.exm_ref T.gE T.gH T.gT T.gS, fun _ a ha => ?_, fun q => nomatch q⟩
      refine ⟨_, rfl, _, _, d, _, true, rfl, rfl, rfl, T.e_TooLarge, hd, kitSelf, _, rfl, iteT ?_⟩
      refine ⟨_, rfl, by show 7 ≤ sizeLine; decide, fun tp ntp => ?_⟩
      have K2 := Keep.new (W := []) (o := .tup [.ref C_BadEdit, .ref C_BadMove, .ref C_BadPaper, .ref C_BadPlan, .ref C_BadRatio, .ref C_BadText, .ref C_BadVersion]) ntp
      have hd2 := K2 _ _ hd (by simp)
      refine ⟨_, tp, d, [C_BadEdit, C_BadMove, C_BadPaper, C_BadPlan, C_BadRatio, C_BadText, C_BadVersion], _, false, rfl, rfl, rfl, T.e_TooLarge, hd2, upd_same, T.kX, _, rfl, iteT ?_⟩
      refine ⟨_, rfl, rfl, rfl, d, _, _, rfl, hd2, rfl, by show 2 ≤ sizeLine; decide, fun t nt => k2 hn t _ upd_same ((K1.trans K2).then_new nt)⟩
end

theorem CalX.up {P : Program} {w : World} {K : PySem.W.Frag} {mg : Str → Option Value} {base : Heap} {j k : Nat} {x : Str} {sp : Sp} {dvs : List V} (c : CalX P w K mg base j x sp dvs) (h : j ≤ k) : CalX P w K mg base k x sp dvs := by
  obtain ⟨f, fd, ps, ds, F, r⟩ := c.ex
  exact ⟨f, fd, ps, ds, F.mono h, r⟩

def sp_law (K : PySem.W.Frag) : Sp := fun vs H Q _ => ∃ (a : Addr) (ns : List Int), vs = [.ref a] ∧ SqL K H a (ns.map V.int) ∧ ∀ H', Q (.bl true) H'
def Sg.sz : Sg → Nat
  | .rnd _ => 1
  | .drw _ s => s
  | .mov _ _ s _ => s
theorem leaves_snoc (st : Sg) : ∀ l : List Sg, leaves (l ++ [st]) = leaves l * st.sz
  | [] => by cases st <;> simp [leaves, Sg.sz]
  | .rnd _ :: r => leaves_snoc st r
  | .drw _ s :: r => by show s * leaves (r ++ [st]) = s * leaves r * _; rw [leaves_snoc st r, Nat.mul_assoc]
  | .mov _ _ s _ :: r => by show s * leaves (r ++ [st]) = s * leaves r * _; rw [leaves_snoc st r, Nat.mul_assoc]
theorem nodes_snoc {st : Sg} (hn : ∀ i, st ≠ .rnd i) : ∀ l : List Sg, nodes (l ++ [st]) = nodes l + leaves l * st.sz
  | [] => by
    cases st with
    | rnd i => exact absurd rfl (hn i)
    | drw x s => simp [nodes, leaves, Sg.sz]
    | mov pl x s i => simp [nodes, leaves, Sg.sz]
  | .rnd _ :: r => nodes_snoc hn r
  | .drw _ s :: r => by
    show 1 + s * nodes (r ++ [st]) = 1 + s * nodes r + s * leaves r * _
    rw [nodes_snoc hn r, Nat.mul_add, Nat.mul_assoc]; omega
  | .mov _ _ s _ :: r => by
    show 1 + s * nodes (r ++ [st]) = 1 + s * nodes r + s * leaves r * _
    rw [nodes_snoc hn r, Nat.mul_add, Nat.mul_assoc]; omega
theorem waits_ok : ∀ l : List Sg, PyData.strOk (waits l) = true
  | [] => by decide +kernel
  | .rnd _ :: r => waits_ok r
  | .drw _ _ :: _ => by show PyData.strOk "lot" = true; decide +kernel
  | .mov pl _ _ _ :: _ => by
    show PyData.strOk (if pl = 1 then ("first" : Str) else "second") = true
    by_cases h : pl = 1
    · rw [if_pos h]; decide +kernel
    · rw [if_neg h]; decide +kernel
theorem shp2 {x y : Str} (hx : PyData.strOk x = true) (hy : PyData.strOk y = true) : SeqAt.shaped (.tuple [.str x, .str y]) = true := by
  simp [SeqAt.shaped, PyData.canLay0, PyData.canLayAll0, PyData.depth, PyData.depthAll, hx, hy]
theorem tt_ne {K : PySem.W.Frag} {H : Hp} {t u : Addr} {x y : Str} {Q : VK} (h1 : H t = some (.tup [.str x, .str y])) (h2 : H u = some (.tup [.str x, .str y])) (hx : PyData.strOk x = true) (hy : PyData.strOk y = true) (q : Q (.bl false) H) : rNeD K (.ref t) (.ref u) H Q := by
  have sh := shp2 hx hy
  refine ⟨_, _, .tup (SqT.of h1) (.cons (.str _) (.cons (.str _) .nil)), .tup (SqT.of h2) (.cons (.str _) (.cons (.str _) .nil)), sh, sh, ?_⟩
  rw [SeqAt.eqv_refl _ (SeqAt.canLay_of_shaped sh)]; exact q
theorem canLay_intsL : ∀ l : List Int, PyData.canLayAll0 (l.map PyData.int) = true
  | [] => rfl
  | a :: r => by simp [PyData.canLayAll0, PyData.canLay0, canLay_intsL r]
theorem depth_intsL : ∀ l : List Int, PyData.depthAll (l.map PyData.int) ≤ 1
  | [] => by simp [PyData.depthAll]
  | a :: r => by
    have := depth_intsL r
    simp only [List.map_cons, PyData.depthAll, PyData.depth]
    omega
theorem shaped_ints (ys : List Int) : SeqAt.shaped (.list (ys.map PyData.int)) = true := by
  unfold SeqAt.shaped
  have h := depth_intsL ys
  rw [Bool.and_eq_true]
  refine ⟨by simp only [PyData.canLay0]; exact canLay_intsL ys, decide_eq_true ?_⟩
  simp only [PyData.depth]
  omega
theorem eqv_ints (ys : List Int) : PyData.eqv (.list (ys.map PyData.int)) (.list (ys.map PyData.int)) = true := SeqAt.eqv_refl _ (SeqAt.canLay_of_shaped (shaped_ints ys))
theorem dp_ints {K : PySem.W.Frag} {H : Hp} : ∀ (ys : List Int), DpAll K H (ys.map V.int) (ys.map PyData.int)
  | [] => .nil
  | y :: r => .cons (.int y) (dp_ints r)
theorem cut25 (ns : List Int) : ∃ ms : List Int, cutV (ns.map V.int) (some 2) (some 5) = ms.map V.int ∧ ms.length ≤ 5 := by
  refine ⟨(ns.drop (min 2 ns.length)).take (min 5 ns.length - min 2 ns.length), ?_, ?_⟩
  · unfold cutV
    rw [show (2 : Int) = ((2 : Nat) : Int) from rfl, show (5 : Int) = ((5 : Nat) : Int) from rfl, HT.sIx_nat, HT.sIx_nat, List.length_map, List.map_take, List.map_drop]
  · rw [List.length_take]; omega
/-- what the making of the rows holds -/
structure Rw (zs : List Nat) (i : Nat) (rows : List Sg) (xs : List Str) : Prop where
  len : rows.length = i
  xl : xs.length = i
  ok : ∀ st ∈ rows, ∀ kvs, (∀ y ∈ xs, valV kvs (.inr y) = some (.int 3)) → st.ok kvs
  nr : ∀ st ∈ rows, ∀ i, st ≠ .rnd i
  pl : ∀ st ∈ rows, ∀ pl x s i, st = Sg.mov pl x s i → pl = 1 ∨ pl = 2
  lv : leaves rows ≤ 64 ^ i
theorem Rw.snoc {zs : List Nat} {i : Nat} {rows : List Sg} {xs : List Str} (h : Rw zs i rows xs) {st : Sg} {x : Str} (hs : st.sz ≤ 64) (hn : ∀ i, st ≠ .rnd i) (hp : ∀ pl x s i, st = Sg.mov pl x s i → pl = 1 ∨ pl = 2) (ho : ∀ kvs, valV kvs (.inr x) = some (.int 3) → st.ok kvs) : Rw zs (i + 1) (rows ++ [st]) (xs ++ [x]) where
  len := by rw [List.length_append, h.len]; rfl
  xl := by rw [List.length_append, h.xl]; rfl
  ok := fun q hq kvs hk => by
    rcases List.mem_append.mp hq with hq | hq
    · exact h.ok q hq kvs fun y hy => hk y (List.mem_append_left _ hy)
    · rw [List.mem_singleton.mp hq]; exact ho kvs (hk x (List.mem_append_right _ (List.mem_singleton.mpr rfl)))
  nr := fun q hq => by
    rcases List.mem_append.mp hq with hq | hq
    · exact h.nr q hq
    · rw [List.mem_singleton.mp hq]; exact hn
  pl := fun q hq => by
    rcases List.mem_append.mp hq with hq | hq
    · exact h.pl q hq
    · rw [List.mem_singleton.mp hq]; exact hp
  lv := by
    rw [leaves_snoc, Nat.pow_succ]
    exact Nat.mul_le_mul h.lv hs
theorem paired_snoc {α β : Type} {F : α → β → Prop} {a : α} {b : β} (e : F a b) : ∀ {as : List α} {bs : List β}, Paired F as bs → Paired F (as ++ [a]) (bs ++ [b])
  | _, _, .nil => .cons e .nil
  | _, _, .cons h t => .cons h (paired_snoc e t)
structure LB (H : Hp) (sz bl vl : Addr) (zs : List Nat) (rows : List Sg) (xs : List Str) (ps qs : List Addr) : Prop where
  s : H sz = some (.lst (zs.map fun (z : Nat) => V.int (z : Int)))
  b : H bl = some (.lst (ps.map V.ref))
  p : Paired (fun p st => H p = some (.tup (Sg.row st))) ps rows
  v : H vl = some (.lst (qs.map V.ref))
  q : Paired (fun p x => H p = some (.tup [.str x, .int 3])) qs xs
  n1 : sz ≠ bl
  n2 : sz ≠ vl
  n3 : bl ≠ vl
theorem LB.keep0 {H H' : Hp} {sz bl vl : Addr} {zs : List Nat} {rows : List Sg} {xs : List Str} {ps qs : List Addr} (h : LB H sz bl vl zs rows xs ps qs) (k : Keep [] H H') : LB H' sz bl vl zs rows xs ps qs :=
  have up : ∀ {a : Addr} {o : HO}, H a = some o → H' a = some o := fun h => k _ _ h (by simp)
  ⟨up h.s, up h.b, L2.Paired.mapP h.p fun _ _ h => up h, up h.v, L2.Paired.mapP h.q fun _ _ h => up h, h.n1, h.n2, h.n3⟩
theorem LB.appV {H : Hp} {sz bl vl t : Addr} {zs : List Nat} {rows : List Sg} {xs : List Str} {ps qs : List Addr} {x : Str} (h : LB H sz bl vl zs rows xs ps qs) (ht : H t = some (.tup [.str x, .int 3])) : LB (upd H vl (.lst (qs.map V.ref ++ [.ref t]))) sz bl vl zs rows (xs ++ [x]) ps (qs ++ [t]) :=
  have up : ∀ {a : Addr} {ys : List V}, H a = some (.tup ys) → upd H vl (.lst (qs.map V.ref ++ [.ref t])) a = some (.tup ys) := fun e => by rw [upd_ne (ne_of e h.v (by intro z; cases z))]; exact e
  ⟨by rw [upd_ne h.n2]; exact h.s, by rw [upd_ne h.n3]; exact h.b, L2.Paired.mapP h.p fun _ _ h => up h, by rw [List.map_append]; exact upd_same, paired_snoc (F := fun p x => upd H vl (.lst (qs.map V.ref ++ [.ref t])) p = some (.tup [.str x, .int 3])) (up ht) (L2.Paired.mapP h.q fun _ _ h => up h), h.n1, h.n2, h.n3⟩
theorem LB.appB {H : Hp} {sz bl vl t : Addr} {zs : List Nat} {rows : List Sg} {xs : List Str} {ps qs : List Addr} {st : Sg} (h : LB H sz bl vl zs rows xs ps qs) (ht : H t = some (.tup st.row)) : LB (upd H bl (.lst (ps.map V.ref ++ [.ref t]))) sz bl vl zs (rows ++ [st]) xs (ps ++ [t]) qs :=
  have up : ∀ {a : Addr} {ys : List V}, H a = some (.tup ys) → upd H bl (.lst (ps.map V.ref ++ [.ref t])) a = some (.tup ys) := fun e => by rw [upd_ne (ne_of e h.b (by intro z; cases z))]; exact e
  ⟨by rw [upd_ne h.n1]; exact h.s, by rw [List.map_append]; exact upd_same, paired_snoc (F := fun p st => upd H bl (.lst (ps.map V.ref ++ [.ref t])) p = some (.tup (Sg.row st))) (up ht) (L2.Paired.mapP h.p fun _ _ h => up h), by rw [upd_ne h.n3.symm]; exact h.v, L2.Paired.mapP h.q fun _ _ h => up h, h.n1, h.n2, h.n3⟩
theorem pow64 {i : Nat} (h : i ≤ 6) : 64 ^ i ≤ 68719476736 := Nat.le_trans (Nat.pow_le_pow_right (by decide) h) (by decide)
theorem log_i {i : Nat} (h : i ≤ 6) : ((i : Nat) : Int).natAbs.log2 < 1920 := by
  rw [Int.natAbs_natCast]; exact PySem.Flt.log2_lt_of (by decide) (Nat.lt_trans (show i < 20 by omega) (by decide +kernel))
theorem vlen : ∀ i, i < 20 → (Str.ofString (toString ((i : Nat) : Int))).length ≤ 10 := by decide +kernel
section
variable {P : Program} {w : World} {K : PySem.W.Frag} {mg : Str → Option Value} {base : Heap} {C_End : Addr} {C_Lot : Addr} {C_Turn : Addr} {C_Builder : Addr} {C_Game : Addr} {C_Position : Addr} {C_GameError : Addr} {C_BadRatio : Addr} {C_BadText : Addr} {C_BadPlan : Addr} {C_BadMove : Addr} {C_BadEdit : Addr} {C_BadVersion : Addr} {C_BadPaper : Addr} {C_TooLarge : Addr} {f_TooLarge___init : Addr}
theorem ok_law {f : Addr} {fd : FuncData} (F : C8.Fun K "law" "law" s_law f fd) (T : Txt K mg C_End C_Lot C_Turn C_Builder C_Game C_Position C_GameError C_BadRatio C_BadText C_BadPlan C_BadMove C_BadEdit C_BadVersion C_BadPaper C_TooLarge) {k : Nat} (c_law_sizes : C8.Cal P w K mg base 2 "_law_sizes" (sp_sizes K) []) (c_law_cell : C8.Cal P w K mg base 1 "_law_cell" (sp_cell K) []) (c_Game : C8.Mak P w K mg base 1 "Game" C_Game (sp_game K C_Game) []) (c_law_first : C8.Cal P w K mg base 1 "_law_first" sp_first [])
    (c_law_waiting : C8.Cal P w K mg base (k + 3) "_law_waiting" (sp_waiting K C_Game 7) []) (c_tree_of : CalX P w K mg base (k + 3) "tree_of" (sp_tree K C_Game C_End C_Lot C_Turn C_TooLarge 7) []) (c_law_is_integer : C8.Cal P w K mg base 1 "_law_is_integer" sp_isint []) (c_places : C8.Cal P w K mg base (k + 3) "places" (sp_places C_End C_Lot C_Turn 7) []) (c_ends : C8.Cal P w K mg base (k + 3) "ends" (sp_ends C_End C_Lot C_Turn 7) []) :
    FnOk P w K mg base C8.CX0 (k + 4) f fd ["script"] (sp_law K) := by
  refine C8.fn0 F sc_law (fun vs H Q E h => ?_) (fun cdv A outer s H vs Q E hr h => ?_)
  · obtain ⟨a, ns, rfl, _⟩ := h
    rfl
  · obtain ⟨a, ns, rfl, hS, kq⟩ := h
    refine ⟨_, (pss_cons (ps_set (i := 1) sc_law.nd rfl (by first | exact Or.inl rfl | exact Or.inr rfl) (pe_callTy call_list_of (by rfl) T.n_list bo_list (pa_cons (pe_c c_law_sizes hr (by first | exact Nat.le_refl _ | decide | omega) rfl (pa_cons (pv 0) pa_nil)) pa_nil)))
(pss_cons (ps_set (i := 2) sc_law.nd rfl (by first | exact Or.inl rfl | exact Or.inr rfl) (pe_lst pa_nil))
(pss_cons (ps_set (i := 3) sc_law.nd rfl (by first | exact Or.inl rfl | exact Or.inr rfl) (pe_lst pa_nil))
(pss_cons (ps_set (i := 4) sc_law.nd rfl (by first | exact Or.inl rfl | exact Or.inr rfl) pe_int)
(pss_cons (ps_set (i := 5) sc_law.nd rfl (by first | exact Or.inl rfl | exact Or.inr rfl) pe_int)
(pss_cons (ps_set (i := 6) sc_law.nd rfl (by first | exact Or.inl rfl | exact Or.inr rfl) pe_int)
(pss_cons (ps_for PassesOwn.never rfl (pi_range1 (by rfl) T.n_range (pa_cons (pe_callB call_len_seq (by rfl) T.n_len bo_len (pa_cons (pv 1) pa_nil)) pa_nil)) (pg_name (i := 7) sc_law.nd rfl (by first | exact Or.inl rfl | exact Or.inr rfl))
  (pss_cons (ps_set (i := 8) sc_law.nd rfl (by first | exact Or.inl rfl | exact Or.inr rfl) (pe_op op_add_str pe_str (pe_callTy call_str_int (by rfl) T.n_str bo_str (pa_cons (pv 7) pa_nil))))
  (pss_cons (ps_expr (pe_bm PySem.F.plainAttrs_list PySem.F.slot_list_append PySem.F.type_list_append mt_append (pv 3) (pa_cons (pe_tup (pa_cons (pv 8) (pa_cons pe_int pa_nil))) pa_nil)))
  (pss_cut (ps_if (PW.pt (pw_or (pt_cmpR op_eq (pe_op op_mod (pe_callTy call_int1 (by rfl) T.n_int bo_int (pa_cons (pe_c c_law_cell hr (by first | exact Nat.le_refl _ | decide | omega) rfl (pa_cons (pv 0) (pa_cons (pe_op op_add pe_int (pv 7)) pa_nil))) pa_nil)) pe_int) pe_int (nomark _)) (pw_or1 (pt_cmpR op_gt (pe_ix ix_list (pv 1) (pv 7) (fun _ _ => rfl)) pe_int (nomark _)))))
    (pss_one (ps_expr (pe_bm PySem.F.plainAttrs_list PySem.F.slot_list_append PySem.F.type_list_append mt_append (pv 2) (pa_cons (pe_tup (pa_cons pe_str (pa_cons (pv 8) (pa_cons (pe_ix ix_list (pv 1) (pv 7) (fun _ _ => rfl)) pa_nil)))) pa_nil))))
    (pss_cons (ps_expr (pe_bm PySem.F.plainAttrs_list PySem.F.slot_list_append PySem.F.type_list_append mt_append (pv 2) (pa_cons (pe_tup (pa_cons pe_str (pa_cons (pe_op op_mod (pe_callTy call_int1 (by rfl) T.n_int bo_int (pa_cons (pe_c c_law_cell hr (by first | exact Nat.le_refl _ | decide | omega) rfl (pa_cons (pv 0) (pa_cons (pe_op op_add pe_int (pv 7)) pa_nil))) pa_nil)) pe_int) (pa_cons (pv 8) (pa_cons (pe_ix ix_list (pv 1) (pv 7) (fun _ _ => rfl)) (pa_cons (pv 6) pa_nil)))))) pa_nil)))
    (pss_one (ps_set (i := 6) sc_law.nd rfl (by first | exact Or.inl rfl | exact Or.inr rfl) (pe_op op_add (pv 6) pe_int)))))
  (pss_cons (ps_set (i := 5) sc_law.nd rfl (by first | exact Or.inl rfl | exact Or.inr rfl) (pe_op op_mul (pv 5) (pe_ix ix_list (pv 1) (pv 7) (fun _ _ => rfl))))
  (pss_one (ps_set (i := 4) sc_law.nd rfl (by first | exact Or.inl rfl | exact Or.inr rfl) (pe_op op_add (pv 4) (pv 5)))))))))
(pss_cons (ps_set (i := 9) sc_law.nd rfl (by first | exact Or.inl rfl | exact Or.inr rfl) (pe_mk c_Game hr (by first | exact Nat.le_refl _ | decide | omega) rfl (pa_cons (pe_tupZ pa_nil) (pa_cons (pe_callTy call_tuple_ofZ (by rfl) T.n_tuple bo_tuple (pa_cons (pv 3) pa_nil)) (pa_cons (pe_tup (pa_cons (pe_tup (pa_cons pe_str (pa_cons (pe_callTy call_tuple_of (by rfl) T.n_tuple bo_tuple (pa_cons (pv 2) pa_nil)) pa_nil))) pa_nil)) pa_nil)))))
(pss_cons (ps_set (i := 10) sc_law.nd rfl (by first | exact Or.inl rfl | exact Or.inr rfl) (pe_tup (pa_cons pe_str (pa_cons (pe_c c_law_first hr (by first | exact Nat.le_refl _ | decide | omega) rfl (pa_cons (pv 2) pa_nil)) pa_nil))))
(pss_cut (ps_if (pt_cmpR op_gt (pv 4) pe_int (nomark _))
  (pss_cons (ps_set (i := 10) sc_law.nd rfl (by first | exact Or.inl rfl | exact Or.inr rfl) (pe_tup (pa_cons pe_str (pa_cons pe_str pa_nil))))
  (pss_one (ps_if (pt_cmpR (op_neD hr.units) (pe_c c_law_waiting hr (by first | exact Nat.le_refl _ | decide | omega) rfl (pa_cons (pv 9) (pa_cons (pe_lc (own := [("cell", 14)]) (g := gName 14) (tt := tYes) rfl sc_law.nd (pi_list (pe_slice sl_list (pv 0) (po_some pe_int) (po_some pe_int))) (blkOk_by (N := ["script", "sizes", "block", "variables", "nodes", "last", "number", "k", "name", "game", "due", "tree", "e", "paid", "cell"]) (sc := fnScope s_law) (by decide +kernel)) (fun _ _ _ _ _ => pg_name (i := 14) sc_law.nd rfl (Or.inl rfl)) (fun _ _ _ _ _ => pts_nil) (fun _ _ _ _ _ => (pe_op op_mod (pe_callTy call_int1 (by rfl) T.n_int bo_int (pa_cons (pv 14) pa_nil)) pe_int))) pa_nil))) (pv 10) (nomark _))
    (pss_one (ps_ret pe_bl))
    pss_nil)))
  pss_nil)
(pss_cons (ps_if (pt_cmpR (op_neD hr.units) (pe_c c_law_waiting hr (by first | exact Nat.le_refl _ | decide | omega) rfl (pa_cons (pv 9) (pa_cons (pe_lst pa_nil) pa_nil))) (pv 10) (nomark _))
  (pss_one (ps_ret pe_bl))
  pss_nil)
(pss_cons (ps_try_as (i := 12) rfl rfl sc_law.nd rfl rfl ⟨rfl, by decide, .inl T.m_GameError⟩ takes0 (fun W pn xe tk ps =>
  (pss_one (ps_set (i := 11) sc_law.nd rfl (by first | exact Or.inl rfl | exact Or.inr rfl) (pe_cS c_tree_of hr (by first | exact Nat.le_refl _ | decide | omega) rfl tk (pa_cons (pv 9) pa_nil)))))
  (fun a oe cls d pn hz hf =>
  (pss_cons (ps_if (pt_val (pe_callB (call_isXT hz hf) (by rfl) T.n_isinstance bo_isinstance (pa_cons (pv 12) (pa_cons (pe_tup (pa_cons (pe_glob (v := .ref _) rfl T.m_BadEdit rfl) (pa_cons (pe_glob (v := .ref _) rfl T.m_BadMove rfl) (pa_cons (pe_glob (v := .ref _) rfl T.m_BadPaper rfl) (pa_cons (pe_glob (v := .ref _) rfl T.m_BadPlan rfl) (pa_cons (pe_glob (v := .ref _) rfl T.m_BadRatio rfl) (pa_cons (pe_glob (v := .ref _) rfl T.m_BadText rfl) (pa_cons (pe_glob (v := .ref _) rfl T.m_BadVersion rfl) pa_nil)))))))) pa_nil))))
    (pss_one (ps_ret pe_bl))
    pss_nil)
  (pss_one (ps_ret (pe_and (pe_cmpR op_gt (pv 4) pe_int (nomark _)) (pe_and (pe_callB (call_isX hz hf) (by rfl) T.n_isinstance bo_isinstance (pa_cons (pv 12) (pa_cons (pe_glob (v := .ref _) rfl T.m_TooLarge rfl) pa_nil))) (pe_one (pe_cmpR op_eq (pe_xf T.f_TooLarge T.no_TooLarge hz hf (pv 12)) pe_str (nomark _))))))))))
(pss_cons (ps_if (PW.pt (pw_or (pt_cmpR op_gt (pv 4) pe_int (nomark _)) (pw_or (pt_not (pt_val (pe_c c_law_is_integer hr (by first | exact Nat.le_refl _ | decide | omega) rfl (pa_cons (pe_c c_places hr (by first | exact Nat.le_refl _ | decide | omega) rfl (pa_cons (pv 11) pa_nil)) pa_nil)))) (pw_or1 (pt_cmpR op_ne (pe_c c_places hr (by first | exact Nat.le_refl _ | decide | omega) rfl (pa_cons (pv 11) pa_nil)) (pv 4) (nomark _))))))
  (pss_one (ps_ret pe_bl))
  pss_nil)
(pss_cons (ps_set (i := 13) sc_law.nd rfl (by first | exact Or.inl rfl | exact Or.inr rfl) (pe_c c_ends hr (by first | exact Nat.le_refl _ | decide | omega) rfl (pa_cons (pv 11) pa_nil)))
(pss_one (ps_ret (pe_and (pe_callB call_isi (by rfl) T.n_isinstance bo_isinstance (pa_cons (pv 13) (pa_cons (pe_bltn (v := .ty "list") (by rfl) T.n_list bo_list rfl) pa_nil))) (pe_one (pe_cmpR (op_eqD hr.units) (pv 13) (pe_lc (own := [("k", 7)]) (g := gName 7) (tt := tYes) rfl sc_law.nd (pi_range1 (by rfl) T.n_range (pa_cons (pv 5) pa_nil)) (blkOk_by (N := ["script", "sizes", "block", "variables", "nodes", "last", "number", "k", "name", "game", "due", "tree", "e", "paid", "cell"]) (sc := fnScope s_law) (by decide +kernel)) (fun _ _ _ _ _ => pg_name (i := 7) sc_law.nd rfl (Or.inl rfl)) (fun _ _ _ _ _ => pts_nil) (fun _ _ _ _ _ => pe_int)) (nomark _)))))))))))))))))))), ?_⟩
    refine ⟨_, rfl, a, ns, rfl, hS, fun l zs H1 hl hzl hz K1 => ?_⟩
    refine ⟨l, _, rfl, hl, fun sz nsz => ?_⟩
    refine ⟨Nat.zero_le _, fun bl nbl => ?_⟩
    refine ⟨Nat.zero_le _, fun vl nvl => ?_⟩
    have L1 := Keep.new (W := []) (o := .lst (zs.map fun (z : Nat) => V.int (z : Int))) nsz
    have L2 := Keep.new (W := []) (o := .lst []) nbl
    have L3 := Keep.new (W := []) (o := .lst []) nvl
    have hbv : bl ≠ vl := ne_of_none (H := upd (upd H1 sz (.lst (zs.map fun (z : Nat) => V.int (z : Int)))) bl (.lst [])) upd_same nvl
    have hsb : sz ≠ bl := ne_of_none (H := upd H1 sz (.lst (zs.map fun (z : Nat) => V.int (z : Int)))) upd_same nbl
    have hsv : sz ≠ vl := ne_of_none (L2 _ _ upd_same (by simp)) nvl
    have nb0 : H bl = none := (K1.trans L1).free nbl
    have nv0 : H vl = none := ((K1.trans L1).trans L2).free nvl
    have KK := ((K1.trans L1).trans L2).trans L3
    have szL : ((zs.map fun (z : Nat) => V.int (z : Int)).length : Int) = zs.length := by rw [List.length_map]
    have zat : ∀ {i : Nat}, i < zs.length → ∃ z : Nat, (zs.map fun (z : Nat) => V.int (z : Int))[i]? = some (.int (z : Int)) ∧ 1 ≤ z ∧ z ≤ 64 := fun {i} hi => ⟨zs[i], by rw [List.getElem?_map, List.getElem?_eq_getElem hi]; rfl, hz _ (List.getElem_mem hi)⟩
    refine ⟨_, rfl, _, _, rfl, .inl (SqL.of (L3 _ _ (L2 _ _ upd_same (by simp)) (by simp))), _, rfl, by omega, by omega, for_range (lo := 0) (n := (((zs.map fun (z : Nat) => V.int (z : Int)).length : Nat) : Int).toNat) (fun (i : Nat) (σ : List (Option V)) (H' : Hp) => ∃ (rows : List Sg) (xs : List Str) (ps qs : List Addr) (nu : Int) (o7 o8 : Option V), σ = [some (.ref a), some (.ref sz), some (.ref bl), some (.ref vl), some (.int (nodes rows : Nat)), some (.int (leaves rows : Nat)), some (.int nu), o7, o8, none, none, none, none, none, none] ∧ Rw zs i rows xs ∧
      LB H' sz bl vl zs rows xs ps qs ∧ Keep [] H H')
      ⟨[], [], [], [], 0, none, none, rfl, ⟨rfl, rfl, (fun _ h => by cases h), (fun _ h => by cases h), (fun _ h => by cases h), Nat.le_refl _⟩, ⟨L3 _ _ (L2 _ _ upd_same (by simp)) (by simp), L3 _ _ upd_same (by simp), .nil, upd_same, .nil, hsb, hsv, hbv⟩, KK⟩ ?_ ?_⟩
    · rintro i σ H2 hi ⟨rows, xs, ps, qs, nu, o7, o8, rfl, R, B2, K2⟩
      rw [Int.toNat_natCast, List.length_map] at hi
      have e0 : (0 : Int) + (i : Int) = (i : Int) := by omega
      rw [e0]
      have hi6 : i ≤ 6 := by omega
      have hvlen := vlen i (by omega)
      obtain ⟨z, hzi, hz1, hz2⟩ := zat hi
      refine ⟨_, rfl, _, rfl, log_i hi6, _, _, rfl, rfl, by show 1 + _ ≤ _; exact smallM (by omega), ?_⟩
      generalize ("v" : Str) ++ Str.ofString (toString ((i : Nat) : Int)) = nm
      have hql : qs.length = i := by rw [paired_len B2.q]; exact R.xl
      have hpl : ps.length = i := by rw [paired_len B2.p]; exact R.len
      refine ⟨_, rfl, .inl ⟨rfl, _, SqL.of B2.v⟩, _, rfl, by show 2 ≤ sizeLine; decide, fun t nt => ?_⟩
      have M1 := Keep.new (W := []) (o := .tup [.str nm, .int 3]) nt
      refine ⟨vl, _, _, rfl, rfl, M1 _ _ B2.v (by simp), by rw [List.length_map]; exact smallL (by omega), ?_⟩
      have B3 := (B2.keep0 M1).appV upd_same
      have K3 : Keep [] H (upd (upd H2 t (.tup [.str nm, .int 3])) vl (.lst (qs.map V.ref ++ [.ref t]))) := (K2.trans M1).then_own nv0
      revert B3 K3
      generalize upd (upd H2 t (.tup [.str nm, .int 3])) vl (.lst (qs.map V.ref ++ [.ref t])) = H3
      intro B3 K3
      have hS3 := K3.seqL hS (by simp)
      refine ⟨fun σ H' => ∃ (st : Sg) (ps' : List Addr) (nu' : Int), σ = [some (.ref a), some (.ref sz), some (.ref bl), some (.ref vl), some (.int (nodes rows : Nat)), some (.int (leaves rows : Nat)), some (.int nu'), some (.int (i : Int)), some (.str nm), none, none, none, none, none, none] ∧ st.sz = z ∧ (∀ i, st ≠ .rnd i) ∧ (∀ pl x s i, st = Sg.mov pl x s i → pl = 1 ∨ pl = 2) ∧ (∀ kvs, valV kvs (.inr nm) = some (.int 3) → st.ok kvs) ∧
        LB H' sz bl vl zs (rows ++ [st]) (xs ++ [nm]) ps' (qs ++ [t]) ∧ Keep [] H H', ?_, ?_⟩
      · refine ⟨_, rfl, _, rfl, _, _, rfl, rfl, a, ns, 7 + i, rfl, hS3, .inl ⟨_, rfl, _, _, rfl, rfl, by show (0 : Int) < 3; decide, rfl, _, rfl, iteD (fun _ => ?_) (fun hc => ⟨_, rfl, _, rfl, _, _, _, _, rfl, rfl, SqL.of B3.s, atI_nat hzi, _, _, rfl, rfl, _, rfl, iteD (fun _ => ?_) (fun _ => ?_)⟩)⟩⟩
        · refine ⟨_, rfl, .inl ⟨rfl, _, SqL.of B3.b⟩, _, rfl, _, rfl, _, rfl, _, _, _, _, rfl, rfl, SqL.of B3.s, atI_nat hzi, by show 3 ≤ sizeLine; decide, fun t2 n2 => ?_⟩
          have M2 := Keep.new (W := []) (o := .tup (Sg.drw nm z).row) n2
          refine ⟨bl, _, _, rfl, rfl, M2 _ _ B3.b (by simp), by rw [List.length_map]; exact smallL (by omega), ?_⟩
          exact ⟨.drw nm z, _, nu, rfl, rfl, (fun i q => by cases q), (fun _ _ _ _ q => by cases q), fun kvs h => ⟨h, by omega⟩, (B3.keep0 M2).appB upd_same, (K3.trans M2).then_own nb0⟩
        · refine ⟨_, rfl, .inl ⟨rfl, _, SqL.of B3.b⟩, _, rfl, _, rfl, _, rfl, _, _, _, _, rfl, rfl, SqL.of B3.s, atI_nat hzi, by show 3 ≤ sizeLine; decide, fun t2 n2 => ?_⟩
          have M2 := Keep.new (W := []) (o := .tup (Sg.drw nm z).row) n2
          refine ⟨bl, _, _, rfl, rfl, M2 _ _ B3.b (by simp), by rw [List.length_map]; exact smallL (by omega), ?_⟩
          exact ⟨.drw nm z, _, nu, rfl, rfl, (fun i q => by cases q), (fun _ _ _ _ q => by cases q), fun kvs h => ⟨h, by omega⟩, (B3.keep0 M2).appB upd_same, (K3.trans M2).then_own nb0⟩
        · refine ⟨_, rfl, .inl ⟨rfl, _, SqL.of B3.b⟩, _, rfl, _, rfl, _, _, rfl, rfl, a, ns, 7 + i, rfl, hS3, .inl ⟨_, rfl, _, _, rfl, rfl, by show (0 : Int) < 3; decide, ?_⟩⟩
          have hc3 : ns.getD (7 + i) 0 % 3 = 1 ∨ ns.getD (7 + i) 0 % 3 = 2 := by
            have h1 : ¬ ns.getD (7 + i) 0 % 3 = 0 := fun q => hc (congrArg V.int q)
            omega
          refine ⟨_, rfl, _, rfl, _, rfl, _, _, _, _, rfl, rfl, SqL.of B3.s, atI_nat hzi, _, rfl, by show 5 ≤ sizeLine; decide, fun t2 n2 => ?_⟩
          have M2 := Keep.new (W := []) (o := .tup (Sg.mov (ns.getD (7 + i) 0 % 3) nm z nu).row) n2
          refine ⟨bl, _, _, rfl, rfl, M2 _ _ B3.b (by simp), by rw [List.length_map]; exact smallL (by omega), ?_⟩
          refine ⟨_, rfl, _, _, rfl, rfl, ?_⟩
          exact ⟨.mov (ns.getD (7 + i) 0 % 3) nm z nu, _, nu + 1, rfl, rfl, (fun i q => by cases q), (fun _ _ _ _ q => by cases q; exact hc3), fun kvs h => ⟨h, by omega, hc3⟩, (B3.keep0 M2).appB upd_same, (K3.trans M2).then_own nb0⟩
      rintro σ H4 ⟨st, ps', nu', rfl, hsz, hnr, hpl1, hok1, B4, K4⟩
      have hlv := R.lv
      have h64 := pow64 hi6
      refine ⟨_, rfl, _, rfl, _, rfl, _, _, _, _, rfl, rfl, SqL.of B4.s, atI_nat hzi, _, _, rfl, rfl, .inl ⟨by omega, by omega⟩, ?_⟩
      refine ⟨_, rfl, _, rfl, _, _, rfl, rfl, ?_⟩
      have e1 : ((leaves rows : Nat) : Int) * (z : Int) = ((leaves (rows ++ [st]) : Nat) : Int) := by rw [leaves_snoc, hsz]; push_cast; rfl
      have e2 : ((nodes rows : Nat) : Int) + ((leaves rows : Nat) : Int) * (z : Int) = ((nodes (rows ++ [st]) : Nat) : Int) := by rw [nodes_snoc hnr, hsz]; push_cast; rfl
      exact ⟨rows ++ [st], xs ++ [nm], ps', qs ++ [t], nu', _, _, by rw [← e2, ← e1]; rfl, R.snoc (by omega) hnr hpl1 hok1, B4, K4⟩
    · rintro σ H2 ⟨rows, xs, ps, qs, nu, o7, o8, rfl, R, B2, K2⟩
      rw [Int.toNat_natCast, List.length_map] at R
      have hn6 : rows.length ≤ 6 := by have := R.len; omega
      have hx6 : xs.length ≤ 6 := by have := R.xl; omega
      refine ⟨Nat.zero_le _, fun ga oa nga hca hda => ⟨_, rfl, vl, _, rfl, SqL.of ((Keep.new (W := []) nga) _ _ B2.v (by simp)), fun gv ov ngv hcv hdv => ?_⟩⟩
      have A1 := Keep.new (W := []) (o := .frz oa (.tup [])) nga
      have A2 := Keep.new (W := []) (o := .frz ov (.tup (qs.map V.ref))) ngv
      have A12 := A1.trans A2
      refine ⟨_, rfl, bl, _, rfl, .inl ⟨SqL.of (A12 _ _ B2.b (by simp)), fun tb ntb => ⟨by show 2 ≤ sizeLine; decide, fun rr nrr => ⟨by show 1 ≤ sizeLine; decide, fun gc ngc => fun g dg ng ndg neg => ?_⟩⟩⟩⟩
      have A3 := Keep.new (W := []) (o := .tup (ps.map V.ref)) ntb
      have A4 := Keep.new (W := []) (o := .tup [.str "r", .ref tb]) nrr
      have A5 := Keep.new (W := []) (o := .tup [.ref rr]) ngc
      have A45 := A4.trans A5
      have A35 := A3.trans A45
      have A25 := A2.trans A35
      have A15 := A1.trans A25
      have a1 := A25 _ _ (upd_same (H := H2) (a := ga) (o := .frz oa (.tup []))) (by simp)
      have a2 := A35 _ _ (upd_same (a := gv) (o := .frz ov (.tup (qs.map V.ref)))) (by simp)
      have a3 := A45 _ _ (upd_same (a := tb) (o := .tup (ps.map V.ref))) (by simp)
      have a4 := A5 _ _ (upd_same (a := rr) (o := .tup [.str "r", .ref tb])) (by simp)
      refine ⟨g, dg, ga, gv, gc, [], qs.map V.ref, [.ref rr], rfl, upd_same, .inl (.inr ⟨oa, made_at ng ndg a1⟩), .inl (.inr ⟨ov, made_at ng ndg a2⟩), SqT.of (made_at ng ndg upd_same), rfl, ?_⟩
      rw [upd_upd]
      have M := Keep.made (o := .ins C_Game dg [("options", .ref ga), ("variables", .ref gv), ("rounds", .ref gc)]) ng ndg
      have AM := A15.trans M
      have B6 := B2.keep0 AM
      have G6 : GameAt C_Game K _ g xs rows := ⟨dg, ga, gv, gc, upd_same, ⟨oa, M _ _ a1 (by simp), hca, hda⟩, ⟨qs, ⟨ov, M _ _ a2 (by simp), hcv, hdv⟩, B6.q⟩, rr, tb, M _ _ upd_same (by simp), M _ _ a4 (by simp), ps, M _ _ a3 (by simp), B6.p⟩
      have K6 := K2.trans AM
      revert B6 G6 K6
      generalize upd (upd _ dg (.own g)) g _ = H6
      intro B6 G6 K6
      refine ⟨_, rfl, bl, ps, rows, rfl, B6.b, B6.p, R.nr, R.pl, fun H7 K7 => ⟨by show 2 ≤ sizeLine; decide, fun du ndu => ?_⟩⟩
      have K8 := Keep.new (W := []) (o := .tup [.str "waiting", .str (waits rows)]) ndu
      have K08 := (K6.trans K7).trans K8
      have G8 := (G6.keep0 K7).keep0 K8
      refine ⟨fun σ H' => ∃ (du : Addr) (o14 : Option V), σ = [some (.ref a), some (.ref sz), some (.ref bl), some (.ref vl), some (.int (nodes rows : Nat)), some (.int (leaves rows : Nat)), some (.int nu), o7, o8, some (.ref g), some (.ref du), none, none, none, o14] ∧ Keep [] H H' ∧ GameAt C_Game K H' g xs rows ∧ (nodes rows ≤ 400 → H' du = some (.tup [.str "waiting", .str (waits rows)])) ∧ (400 < nodes rows → H' du = some (.tup [.str "large", .str "places"])), ?_, ?_⟩
      · refine ⟨_, rfl, _, _, rfl, rfl, _, rfl, iteD (fun hbig => ?_) (fun hsm => ⟨du, _, rfl, K08, G8, fun _ => upd_same, fun z => absurd z (by omega)⟩)⟩
        have hbig : 400 < nodes rows := by omega
        refine ⟨by show 2 ≤ sizeLine; decide, fun dv ndv => ?_⟩
        have K9 := Keep.new (W := []) (o := .tup [.str "large", .str "places"]) ndv
        have K09 := K08.trans K9
        refine ⟨_, rfl, _, rfl, _, rfl, _, rfl, a, _, rfl, K09.seqL hS (by simp), fun p np => ?_⟩
        obtain ⟨ms, em, hm⟩ := cut25 ns
        rw [em]
        have K10 := Keep.new (W := []) (o := .lst (ms.map V.int)) np
        refine ⟨p, rfl, ⟨_, SqL.of upd_same⟩, fun D nD => ?_⟩
        refine lc_list (K := K) (a := p) (xs := ms.map V.int) (fun i H' => ∃ vs : List V, H' D = some (.lst vs) ∧ vs.length = i ∧ Keep [] _ H') ⟨[], upd_same, rfl, Keep.new nD⟩ ?_ ?_ ?_
        · rintro i H' _ ⟨vs, _, _, K1⟩
          exact SqL.of (K1 _ _ upd_same (by simp))
        · rintro i x H' hx ⟨vs, hD, hvl, K1⟩
          obtain ⟨c, hc, rfl⟩ := ints_get hx
          have hi : i < ms.length := by
            rcases Nat.lt_or_ge i ms.length with z | z
            · exact z
            · rw [List.getElem?_eq_none z] at hc; cases hc
          exact ⟨rfl, yes_then ⟨_, rfl, .inl ⟨_, rfl, _, _, rfl, rfl, by show (0 : Int) < 9; decide, vs, hD, smallL (by omega), vs ++ [_], upd_same, by rw [List.length_append, hvl]; rfl, K1.then_own nD⟩⟩⟩
        · rintro H' ⟨vs, hD, hvl, K1⟩
          have K11 := K10.trans K1
          refine ⟨g, xs, rows, D, _, rfl, (G8.keep0 K9).keep0 K11, hD, by omega, by omega, by omega, R.ok, (fun z => absurd z (by omega)), R.pl, (fun z => absurd z (by omega)), fun _ t H12 ht K12 => ?_⟩
          refine ⟨_, rfl, tt_ne ht (K12 _ _ (K11 _ _ upd_same (by simp)) (by simp)) (by decide +kernel) (by decide +kernel) ⟨_, rfl, iteF ?_⟩⟩
          exact ⟨dv, _, rfl, (K09.trans K11).trans K12, ((G8.keep0 K9).keep0 K11).keep0 K12, fun z => absurd z (by omega), fun _ => K12 _ _ (K11 _ _ upd_same (by simp)) (by simp)⟩
      rintro σ H9 ⟨du, o14, rfl, K9, G9, d1, d2⟩
      refine ⟨_, rfl, Nat.zero_le _, fun e0 ne0 => ?_⟩
      have E1 := Keep.new (W := []) (o := .lst []) ne0
      have G10 := G9.keep0 E1
      have K10 := K9.trans E1
      -- behind the question what the game waits for
      have fin : ∀ {H10 : Hp}, Keep [] H H10 → GameAt C_Game K H10 g xs rows → True := fun _ _ => trivial
      clear fin
      refine ⟨g, xs, rows, e0, [], rfl, G10, upd_same, by omega, by omega, by omega, R.ok, fun _ => rfl, R.pl, fun hle t H11 ht K11 => ?_, fun hbig t H11 ht K11 => ?_⟩
      · refine ⟨_, rfl, tt_ne ht (K11 _ _ (E1 _ _ (d1 hle) (by simp)) (by simp)) (by decide +kernel) (waits_ok rows) ⟨_, rfl, iteF ?_⟩⟩
        have G11 := G10.keep0 K11
        have K011 := K10.trans K11
        refine ⟨_, rfl, g, xs, rows, rfl, G11, by omega, by omega, by omega, R.ok, fun _ tb' v H12 nb' T12 hb1 hb2 K12 => ?_, fun z => absurd z (by omega)⟩
        have hlast : leaves rows ≤ 68719476736 := Nat.le_trans R.lv (pow64 (by omega))
        have hle4 : leaves rows ≤ 400 := Nat.le_trans (leaves_le rows) hle
        refine ⟨_, rfl, _, _, rfl, rfl, _, rfl, iteDF (by omega) ⟨_, rfl, tb', v, rows, rfl, T12, hb1, hb2, by omega, hle, fun H13 K13 => ⟨_, rfl, _, rfl, iteF ?_⟩⟩⟩
        have kb := keepTup K13 hb1 hb2
        have T13 := T12.keep (K13.mono (by simp)) hb1
        refine ⟨_, rfl, tb', v, rows, rfl, T13, kb.1, kb.2, by omega, hle, fun H14 K14 => ⟨_, rfl, rfl, _, rfl, iteNF rfl ?_⟩⟩
        have kb2 := keepTup K14 kb.1 kb.2
        have T14 := T13.keep (K14.mono (by simp)) kb.1
        refine ⟨_, rfl, tb', v, rows, rfl, T14, kb2.1, kb2.2, by omega, hle, fun r H15 nr hr K15 => ?_⟩
        have kLL : PySem.W.kitOne K (.type "list") (.type "list") = some true := kit_ty (by decide +kernel)
        refine ⟨_, rfl, _, _, _, _, _, rfl, .ty _, .base (.lst hr), kLL, _, rfl, iteT ?_⟩
        refine ⟨_, rfl, _, rfl, _, rfl, by omega, by omega, fun D nD => ?_⟩
        refine lc_range (lo := 0) (n := ((leaves rows : Nat) : Int).toNat) (fun i H' => H' D = some (.lst (List.replicate i (.int 0))) ∧ Keep [] H15 H') ⟨upd_same, Keep.new nD⟩ ?_ ?_
        · rintro i H' hi ⟨hD, K1⟩
          have hi : i < leaves rows := hi
          refine ⟨rfl, yes_then ⟨_, hD, by rw [List.length_replicate]; exact smallL (by omega), ?_, K1.then_own nD⟩⟩
          rw [List.replicate_succ']; exact upd_same
        · rintro H' ⟨hD, K1⟩
          have hD : H' D = some (.lst (List.replicate (leaves rows) (.int 0))) := hD
          have er : List.replicate (leaves rows) (V.int 0) = (List.replicate (leaves rows) (0 : Int)).map V.int := by rw [List.map_replicate]
          have hr2 := K1 _ _ hr (by simp)
          rw [er] at hD hr2
          have sh := shaped_ints (List.replicate (leaves rows) (0 : Int))
          refine ⟨_, _, .lst (SqL.of hr2) (dp_ints _), .lst (SqL.of hD) (dp_ints _), sh, sh, ?_⟩
          rw [eqv_ints]; exact kq _
      · refine ⟨_, rfl, tt_ne ht (K11 _ _ (E1 _ _ (d2 hbig) (by simp)) (by simp)) (by decide +kernel) (by decide +kernel) ⟨_, rfl, iteF ?_⟩⟩
        have G11 := G10.keep0 K11
        refine ⟨_, rfl, g, xs, rows, rfl, G11, by omega, by omega, by omega, R.ok, fun z => absurd z (by omega), fun _ d H12 nd hd K12 => ?_⟩
        refine ⟨true, PySem.W.exm_ref T.gE T.gH T.gT T.gS, fun _ a' ha => ?_, fun q => nomatch q⟩
        refine ⟨_, rfl, by show 7 ≤ sizeLine; decide, fun tp ntp => ?_⟩
        have K2' := Keep.new (W := []) (o := .tup [.ref C_BadEdit, .ref C_BadMove, .ref C_BadPaper, .ref C_BadPlan, .ref C_BadRatio, .ref C_BadText, .ref C_BadVersion]) ntp
        have hd2 := K2' _ _ hd (by simp)
        refine ⟨_, tp, d, [C_BadEdit, C_BadMove, C_BadPaper, C_BadPlan, C_BadRatio, C_BadText, C_BadVersion], _, false, rfl, rfl, rfl, T.e_TooLarge, hd2, upd_same, T.kX, _, rfl, iteF ?_⟩
        refine ⟨_, rfl, _, _, rfl, rfl, _, rfl, iteDT (by omega) ⟨_, rfl, _, _, d, _, true, rfl, rfl, rfl, T.e_TooLarge, hd2, kitSelf, _, rfl, iteT ⟨_, rfl, rfl, rfl, d, _, _, rfl, hd2, rfl, rfl, ?_⟩⟩⟩
        rw [decide_eq_true rfl]; exact kq _
end

theorem all_mk {l : PySem.W.OpenLaw} {w : World} {K : PySem.W.Frag} {h : Heap} {mg : Str → Option Value} {fa : Addr} (X : K.In h) (G : h.Ns mainGlobals mg) (hfa : mg "law" = some (.ref fa))
    {f_shown : Addr} {od_shown an_shown : Option Addr} {sl_shown : Array (Option Value)} {oc_shown kV_shown dc_shown pm_shown cd_shown ct_shown : Value}
    {f_chained : Addr} {od_chained an_chained : Option Addr} {sl_chained : Array (Option Value)} {oc_chained kV_chained dc_chained pm_chained cd_chained ct_chained : Value}
    {f_tree_of : Addr} {od_tree_of an_tree_of : Option Addr} {sl_tree_of : Array (Option Value)} {oc_tree_of kV_tree_of dc_tree_of pm_tree_of cd_tree_of ct_tree_of : Value}
    {f_places : Addr} {od_places an_places : Option Addr} {sl_places : Array (Option Value)} {oc_places kV_places dc_places pm_places cd_places ct_places : Value}
    {f_position_of : Addr} {od_position_of an_position_of : Option Addr} {sl_position_of : Array (Option Value)} {oc_position_of kV_position_of dc_position_of pm_position_of cd_position_of ct_position_of : Value}
    {f_follow : Addr} {od_follow an_follow : Option Addr} {sl_follow : Array (Option Value)} {oc_follow kV_follow dc_follow pm_follow cd_follow ct_follow : Value}
    {f_run : Addr} {od_run an_run : Option Addr} {sl_run : Array (Option Value)} {oc_run kV_run dc_run pm_run cd_run ct_run : Value}
    {f_ends : Addr} {od_ends an_ends : Option Addr} {sl_ends : Array (Option Value)} {oc_ends kV_ends dc_ends pm_ends cd_ends ct_ends : Value}
    {f_law_cell : Addr} {od_law_cell an_law_cell : Option Addr} {sl_law_cell : Array (Option Value)} {oc_law_cell kV_law_cell dc_law_cell pm_law_cell cd_law_cell ct_law_cell : Value}
    {f_law_is_integer : Addr} {od_law_is_integer an_law_is_integer : Option Addr} {sl_law_is_integer : Array (Option Value)} {oc_law_is_integer kV_law_is_integer dc_law_is_integer pm_law_is_integer cd_law_is_integer ct_law_is_integer : Value}
    {f_law_sizes : Addr} {od_law_sizes an_law_sizes : Option Addr} {sl_law_sizes : Array (Option Value)} {oc_law_sizes kV_law_sizes dc_law_sizes pm_law_sizes cd_law_sizes ct_law_sizes : Value}
    {f_law_first : Addr} {od_law_first an_law_first : Option Addr} {sl_law_first : Array (Option Value)} {oc_law_first kV_law_first dc_law_first pm_law_first cd_law_first ct_law_first : Value}
    {f_law_waiting : Addr} {od_law_waiting an_law_waiting : Option Addr} {sl_law_waiting : Array (Option Value)} {oc_law_waiting kV_law_waiting dc_law_waiting pm_law_waiting cd_law_waiting ct_law_waiting : Value}
    {f_law : Addr} {od_law an_law : Option Addr} {sl_law : Array (Option Value)} {oc_law kV_law dc_law pm_law cd_law ct_law : Value}
    {C_End : Addr}
    {C_Lot : Addr}
    {C_Turn : Addr}
    {C_Builder : Addr}
    {C_Game : Addr}
    {C_Position : Addr}
    {f_End___init : Addr} {od_End___init an_End___init : Option Addr} {sl_End___init : Array (Option Value)} {oc_End___init kV_End___init dc_End___init pm_End___init cd_End___init ct_End___init : Value}
    {f_Lot___init : Addr} {od_Lot___init an_Lot___init : Option Addr} {sl_Lot___init : Array (Option Value)} {oc_Lot___init kV_Lot___init dc_Lot___init pm_Lot___init cd_Lot___init ct_Lot___init : Value}
    {f_Turn___init : Addr} {od_Turn___init an_Turn___init : Option Addr} {sl_Turn___init : Array (Option Value)} {oc_Turn___init kV_Turn___init dc_Turn___init pm_Turn___init cd_Turn___init ct_Turn___init : Value}
    {f_Builder___init : Addr} {od_Builder___init an_Builder___init : Option Addr} {sl_Builder___init : Array (Option Value)} {oc_Builder___init kV_Builder___init dc_Builder___init pm_Builder___init cd_Builder___init ct_Builder___init : Value}
    {f_Builder_place : Addr} {od_Builder_place an_Builder_place : Option Addr} {sl_Builder_place : Array (Option Value)} {oc_Builder_place kV_Builder_place dc_Builder_place pm_Builder_place cd_Builder_place ct_Builder_place : Value}
    {f_Builder_node : Addr} {od_Builder_node an_Builder_node : Option Addr} {sl_Builder_node : Array (Option Value)} {oc_Builder_node kV_Builder_node dc_Builder_node pm_Builder_node cd_Builder_node ct_Builder_node : Value}
    {f_Builder_stored : Addr} {od_Builder_stored an_Builder_stored : Option Addr} {sl_Builder_stored : Array (Option Value)} {oc_Builder_stored kV_Builder_stored dc_Builder_stored pm_Builder_stored cd_Builder_stored ct_Builder_stored : Value}
    {f_Builder_branch : Addr} {od_Builder_branch an_Builder_branch : Option Addr} {sl_Builder_branch : Array (Option Value)} {oc_Builder_branch kV_Builder_branch dc_Builder_branch pm_Builder_branch cd_Builder_branch ct_Builder_branch : Value}
    {f_Game___init : Addr} {od_Game___init an_Game___init : Option Addr} {sl_Game___init : Array (Option Value)} {oc_Game___init kV_Game___init dc_Game___init pm_Game___init cd_Game___init ct_Game___init : Value}
    {f_Position___init : Addr} {od_Position___init an_Position___init : Option Addr} {sl_Position___init : Array (Option Value)} {oc_Position___init kV_Position___init dc_Position___init pm_Position___init cd_Position___init ct_Position___init : Value}
    {C_GameError : Addr}
    {C_BadRatio : Addr}
    {C_BadText : Addr}
    {C_BadPlan : Addr}
    {C_BadMove : Addr}
    {C_BadEdit : Addr}
    {C_BadVersion : Addr}
    {C_BadPaper : Addr}
    {C_TooLarge : Addr}
    {nm_TooLarge q_TooLarge : Str} {N_TooLarge : Addr} {bs_TooLarge : List Value} {sn_TooLarge : List Str} {sub_TooLarge : List Value} {ab_TooLarge : Bool} {col_TooLarge : Option Bool} {dd_TooLarge : Option Addr} {m0_TooLarge m1_TooLarge m2_TooLarge m3_TooLarge m5_TooLarge : Option Value}
    {f_TooLarge___init cda_TooLarge___init cc_TooLarge___init : Addr} {od_TooLarge___init an_TooLarge___init cld_TooLarge___init cdd_TooLarge___init : Option Addr} {sl_TooLarge___init csl_TooLarge___init ccs_TooLarge___init : Array (Option Value)} {vs_TooLarge___init : Array Value} {oc_TooLarge___init dc_TooLarge___init pm_TooLarge___init ct_TooLarge___init cl_TooLarge___init ccl_TooLarge___init : Value} {file_TooLarge___init : Str} {tf_TooLarge___init : Tok}
    {t_MOST_PLACES : Tok}
    (a_shown : PySem.W.nsIn K mainGlobals "shown" = some (some (.ref f_shown))) (l_shown : K.lookup f_shown = some ⟨oc_shown, od_shown, .func (PySem.W.fnOf "shown" "shown" (fnArgs s_shown) (fnBody s_shown) (fnScope s_shown) .none kV_shown dc_shown pm_shown an_shown cd_shown ct_shown), sl_shown⟩) (c_shown : PySem.W.codeIn K cd_shown "shown" = true) (k_shown : PySem.W.keepIn K (.ref f_shown) = true)
    (a_chained : PySem.W.nsIn K mainGlobals "chained" = some (some (.ref f_chained))) (l_chained : K.lookup f_chained = some ⟨oc_chained, od_chained, .func (PySem.W.fnOf "chained" "chained" (fnArgs s_chained) (fnBody s_chained) (fnScope s_chained) .none kV_chained dc_chained pm_chained an_chained cd_chained ct_chained), sl_chained⟩) (c_chained : PySem.W.codeIn K cd_chained "chained" = true) (k_chained : PySem.W.keepIn K (.ref f_chained) = true)
    (a_tree_of : PySem.W.nsIn K mainGlobals "tree_of" = some (some (.ref f_tree_of))) (l_tree_of : K.lookup f_tree_of = some ⟨oc_tree_of, od_tree_of, .func (PySem.W.fnOf "tree_of" "tree_of" (fnArgs s_tree_of) (fnBody s_tree_of) (fnScope s_tree_of) .none kV_tree_of dc_tree_of pm_tree_of an_tree_of cd_tree_of ct_tree_of), sl_tree_of⟩) (c_tree_of : PySem.W.codeIn K cd_tree_of "tree_of" = true) (k_tree_of : PySem.W.keepIn K (.ref f_tree_of) = true)
    (a_places : PySem.W.nsIn K mainGlobals "places" = some (some (.ref f_places))) (l_places : K.lookup f_places = some ⟨oc_places, od_places, .func (PySem.W.fnOf "places" "places" (fnArgs s_places) (fnBody s_places) (fnScope s_places) .none kV_places dc_places pm_places an_places cd_places ct_places), sl_places⟩) (c_places : PySem.W.codeIn K cd_places "places" = true) (k_places : PySem.W.keepIn K (.ref f_places) = true)
    (a_position_of : PySem.W.nsIn K mainGlobals "position_of" = some (some (.ref f_position_of))) (l_position_of : K.lookup f_position_of = some ⟨oc_position_of, od_position_of, .func (PySem.W.fnOf "position_of" "position_of" (fnArgs s_position_of) (fnBody s_position_of) (fnScope s_position_of) .none kV_position_of dc_position_of pm_position_of an_position_of cd_position_of ct_position_of), sl_position_of⟩) (c_position_of : PySem.W.codeIn K cd_position_of "position_of" = true) (k_position_of : PySem.W.keepIn K (.ref f_position_of) = true)
    (a_follow : PySem.W.nsIn K mainGlobals "follow" = some (some (.ref f_follow))) (l_follow : K.lookup f_follow = some ⟨oc_follow, od_follow, .func (PySem.W.fnOf "follow" "follow" (fnArgs s_follow) (fnBody s_follow) (fnScope s_follow) .none kV_follow dc_follow pm_follow an_follow cd_follow ct_follow), sl_follow⟩) (c_follow : PySem.W.codeIn K cd_follow "follow" = true) (k_follow : PySem.W.keepIn K (.ref f_follow) = true)
    (a_run : PySem.W.nsIn K mainGlobals "run" = some (some (.ref f_run))) (l_run : K.lookup f_run = some ⟨oc_run, od_run, .func (PySem.W.fnOf "run" "run" (fnArgs s_run) (fnBody s_run) (fnScope s_run) .none kV_run dc_run pm_run an_run cd_run ct_run), sl_run⟩) (c_run : PySem.W.codeIn K cd_run "run" = true) (k_run : PySem.W.keepIn K (.ref f_run) = true)
    (a_ends : PySem.W.nsIn K mainGlobals "ends" = some (some (.ref f_ends))) (l_ends : K.lookup f_ends = some ⟨oc_ends, od_ends, .func (PySem.W.fnOf "ends" "ends" (fnArgs s_ends) (fnBody s_ends) (fnScope s_ends) .none kV_ends dc_ends pm_ends an_ends cd_ends ct_ends), sl_ends⟩) (c_ends : PySem.W.codeIn K cd_ends "ends" = true) (k_ends : PySem.W.keepIn K (.ref f_ends) = true)
    (a_law_cell : PySem.W.nsIn K mainGlobals "_law_cell" = some (some (.ref f_law_cell))) (l_law_cell : K.lookup f_law_cell = some ⟨oc_law_cell, od_law_cell, .func (PySem.W.fnOf "_law_cell" "_law_cell" (fnArgs s_law_cell) (fnBody s_law_cell) (fnScope s_law_cell) .none kV_law_cell dc_law_cell pm_law_cell an_law_cell cd_law_cell ct_law_cell), sl_law_cell⟩) (c_law_cell : PySem.W.codeIn K cd_law_cell "_law_cell" = true) (k_law_cell : PySem.W.keepIn K (.ref f_law_cell) = true)
    (a_law_is_integer : PySem.W.nsIn K mainGlobals "_law_is_integer" = some (some (.ref f_law_is_integer))) (l_law_is_integer : K.lookup f_law_is_integer = some ⟨oc_law_is_integer, od_law_is_integer, .func (PySem.W.fnOf "_law_is_integer" "_law_is_integer" (fnArgs s_law_is_integer) (fnBody s_law_is_integer) (fnScope s_law_is_integer) .none kV_law_is_integer dc_law_is_integer pm_law_is_integer an_law_is_integer cd_law_is_integer ct_law_is_integer), sl_law_is_integer⟩) (c_law_is_integer : PySem.W.codeIn K cd_law_is_integer "_law_is_integer" = true) (k_law_is_integer : PySem.W.keepIn K (.ref f_law_is_integer) = true)
    (a_law_sizes : PySem.W.nsIn K mainGlobals "_law_sizes" = some (some (.ref f_law_sizes))) (l_law_sizes : K.lookup f_law_sizes = some ⟨oc_law_sizes, od_law_sizes, .func (PySem.W.fnOf "_law_sizes" "_law_sizes" (fnArgs s_law_sizes) (fnBody s_law_sizes) (fnScope s_law_sizes) .none kV_law_sizes dc_law_sizes pm_law_sizes an_law_sizes cd_law_sizes ct_law_sizes), sl_law_sizes⟩) (c_law_sizes : PySem.W.codeIn K cd_law_sizes "_law_sizes" = true) (k_law_sizes : PySem.W.keepIn K (.ref f_law_sizes) = true)
    (a_law_first : PySem.W.nsIn K mainGlobals "_law_first" = some (some (.ref f_law_first))) (l_law_first : K.lookup f_law_first = some ⟨oc_law_first, od_law_first, .func (PySem.W.fnOf "_law_first" "_law_first" (fnArgs s_law_first) (fnBody s_law_first) (fnScope s_law_first) .none kV_law_first dc_law_first pm_law_first an_law_first cd_law_first ct_law_first), sl_law_first⟩) (c_law_first : PySem.W.codeIn K cd_law_first "_law_first" = true) (k_law_first : PySem.W.keepIn K (.ref f_law_first) = true)
    (a_law_waiting : PySem.W.nsIn K mainGlobals "_law_waiting" = some (some (.ref f_law_waiting))) (l_law_waiting : K.lookup f_law_waiting = some ⟨oc_law_waiting, od_law_waiting, .func (PySem.W.fnOf "_law_waiting" "_law_waiting" (fnArgs s_law_waiting) (fnBody s_law_waiting) (fnScope s_law_waiting) .none kV_law_waiting dc_law_waiting pm_law_waiting an_law_waiting cd_law_waiting ct_law_waiting), sl_law_waiting⟩) (c_law_waiting : PySem.W.codeIn K cd_law_waiting "_law_waiting" = true) (k_law_waiting : PySem.W.keepIn K (.ref f_law_waiting) = true)
    (a_law : PySem.W.nsIn K mainGlobals "law" = some (some (.ref f_law))) (l_law : K.lookup f_law = some ⟨oc_law, od_law, .func (PySem.W.fnOf "law" "law" (fnArgs s_law) (fnBody s_law) (fnScope s_law) .none kV_law dc_law pm_law an_law cd_law ct_law), sl_law⟩) (c_law : PySem.W.codeIn K cd_law "law" = true) (k_law : PySem.W.keepIn K (.ref f_law) = true)
    (mc_End : PySem.W.nsIn K mainGlobals "End" = some (some (.ref C_End)))
    (pg_End : PySem.W.plainGet K C_End Str.empty = true)
    (hd_End : PySem.W.hasDictIn K C_End = true)
    (po_End : PySem.W.plainOver K C_End = true)
    (sa_End : PySem.W.findIn K (.ref C_End) "__setattr__" = some (some (.builtin "object.__setattr__")))
    (mk_End : PySem.W.makesIn K C_End = true)
    (kc_End : PySem.W.keepIn K (.ref C_End) = true)
    (ha_End : PySem.W.findIn K (.ref C_End) "__class__" = some (some (.builtin "object.__class__")))
    (hn_End : PySem.W.specialIn K (.builtin "object.__class__") "__get__" = some (some (.builtin "getset_descriptor.__get__")))
    (ht_End : PySem.W.takesIn K (.builtin "object.__class__") = some true)
    (hm_End : PySem.W.mroIn K C_End (.type "object") = some true)
    (npaid_End : PySem.W.findIn K (.ref C_End) "paid" = some none)
    (mc_Lot : PySem.W.nsIn K mainGlobals "Lot" = some (some (.ref C_Lot)))
    (pg_Lot : PySem.W.plainGet K C_Lot Str.empty = true)
    (hd_Lot : PySem.W.hasDictIn K C_Lot = true)
    (po_Lot : PySem.W.plainOver K C_Lot = true)
    (sa_Lot : PySem.W.findIn K (.ref C_Lot) "__setattr__" = some (some (.builtin "object.__setattr__")))
    (mk_Lot : PySem.W.makesIn K C_Lot = true)
    (kc_Lot : PySem.W.keepIn K (.ref C_Lot) = true)
    (ha_Lot : PySem.W.findIn K (.ref C_Lot) "__class__" = some (some (.builtin "object.__class__")))
    (hn_Lot : PySem.W.specialIn K (.builtin "object.__class__") "__get__" = some (some (.builtin "getset_descriptor.__get__")))
    (ht_Lot : PySem.W.takesIn K (.builtin "object.__class__") = some true)
    (hm_Lot : PySem.W.mroIn K C_Lot (.type "object") = some true)
    (nparts_Lot : PySem.W.findIn K (.ref C_Lot) "parts" = some none)
    (mc_Turn : PySem.W.nsIn K mainGlobals "Turn" = some (some (.ref C_Turn)))
    (pg_Turn : PySem.W.plainGet K C_Turn Str.empty = true)
    (hd_Turn : PySem.W.hasDictIn K C_Turn = true)
    (po_Turn : PySem.W.plainOver K C_Turn = true)
    (sa_Turn : PySem.W.findIn K (.ref C_Turn) "__setattr__" = some (some (.builtin "object.__setattr__")))
    (mk_Turn : PySem.W.makesIn K C_Turn = true)
    (kc_Turn : PySem.W.keepIn K (.ref C_Turn) = true)
    (ha_Turn : PySem.W.findIn K (.ref C_Turn) "__class__" = some (some (.builtin "object.__class__")))
    (hn_Turn : PySem.W.specialIn K (.builtin "object.__class__") "__get__" = some (some (.builtin "getset_descriptor.__get__")))
    (ht_Turn : PySem.W.takesIn K (.builtin "object.__class__") = some true)
    (hm_Turn : PySem.W.mroIn K C_Turn (.type "object") = some true)
    (nplayer_Turn : PySem.W.findIn K (.ref C_Turn) "player" = some none)
    (nview_Turn : PySem.W.findIn K (.ref C_Turn) "view" = some none)
    (nparts_Turn : PySem.W.findIn K (.ref C_Turn) "parts" = some none)
    (mc_Builder : PySem.W.nsIn K mainGlobals "Builder" = some (some (.ref C_Builder)))
    (pg_Builder : PySem.W.plainGet K C_Builder Str.empty = true)
    (hd_Builder : PySem.W.hasDictIn K C_Builder = true)
    (po_Builder : PySem.W.plainOver K C_Builder = true)
    (sa_Builder : PySem.W.findIn K (.ref C_Builder) "__setattr__" = some (some (.builtin "object.__setattr__")))
    (mk_Builder : PySem.W.makesIn K C_Builder = true)
    (kc_Builder : PySem.W.keepIn K (.ref C_Builder) = true)
    (ha_Builder : PySem.W.findIn K (.ref C_Builder) "__class__" = some (some (.builtin "object.__class__")))
    (hn_Builder : PySem.W.specialIn K (.builtin "object.__class__") "__get__" = some (some (.builtin "getset_descriptor.__get__")))
    (ht_Builder : PySem.W.takesIn K (.builtin "object.__class__") = some true)
    (hm_Builder : PySem.W.mroIn K C_Builder (.type "object") = some true)
    (nsizes_Builder : PySem.W.findIn K (.ref C_Builder) "sizes" = some none)
    (non_Builder : PySem.W.findIn K (.ref C_Builder) "on" = some none)
    (nleft_Builder : PySem.W.findIn K (.ref C_Builder) "left" = some none)
    (mc_Game : PySem.W.nsIn K mainGlobals "Game" = some (some (.ref C_Game)))
    (pg_Game : PySem.W.plainGet K C_Game Str.empty = true)
    (hd_Game : PySem.W.hasDictIn K C_Game = true)
    (po_Game : PySem.W.plainOver K C_Game = true)
    (sa_Game : PySem.W.findIn K (.ref C_Game) "__setattr__" = some (some (.builtin "object.__setattr__")))
    (mk_Game : PySem.W.makesIn K C_Game = true)
    (kc_Game : PySem.W.keepIn K (.ref C_Game) = true)
    (ha_Game : PySem.W.findIn K (.ref C_Game) "__class__" = some (some (.builtin "object.__class__")))
    (hn_Game : PySem.W.specialIn K (.builtin "object.__class__") "__get__" = some (some (.builtin "getset_descriptor.__get__")))
    (ht_Game : PySem.W.takesIn K (.builtin "object.__class__") = some true)
    (hm_Game : PySem.W.mroIn K C_Game (.type "object") = some true)
    (noptions_Game : PySem.W.findIn K (.ref C_Game) "options" = some none)
    (nvariables_Game : PySem.W.findIn K (.ref C_Game) "variables" = some none)
    (nrounds_Game : PySem.W.findIn K (.ref C_Game) "rounds" = some none)
    (mc_Position : PySem.W.nsIn K mainGlobals "Position" = some (some (.ref C_Position)))
    (pg_Position : PySem.W.plainGet K C_Position Str.empty = true)
    (hd_Position : PySem.W.hasDictIn K C_Position = true)
    (po_Position : PySem.W.plainOver K C_Position = true)
    (sa_Position : PySem.W.findIn K (.ref C_Position) "__setattr__" = some (some (.builtin "object.__setattr__")))
    (mk_Position : PySem.W.makesIn K C_Position = true)
    (kc_Position : PySem.W.keepIn K (.ref C_Position) = true)
    (ha_Position : PySem.W.findIn K (.ref C_Position) "__class__" = some (some (.builtin "object.__class__")))
    (hn_Position : PySem.W.specialIn K (.builtin "object.__class__") "__get__" = some (some (.builtin "getset_descriptor.__get__")))
    (ht_Position : PySem.W.takesIn K (.builtin "object.__class__") = some true)
    (hm_Position : PySem.W.mroIn K C_Position (.type "object") = some true)
    (nwaiting_Position : PySem.W.findIn K (.ref C_Position) "waiting" = some none)
    (ncount_Position : PySem.W.findIn K (.ref C_Position) "count" = some none)
    (npaid_Position : PySem.W.findIn K (.ref C_Position) "paid" = some none)
    (nview_Position : PySem.W.findIn K (.ref C_Position) "view" = some none)
    (a_End___init : PySem.W.findIn K (.ref C_End) "__init__" = some (some (.ref f_End___init))) (i_End___init : PySem.W.isFn K (.ref f_End___init) = true) (l_End___init : K.lookup f_End___init = some ⟨oc_End___init, od_End___init, .func (PySem.W.fnOf "__init__" "End.__init__" (fnArgs s_End___init) (fnBody s_End___init) (fnScope s_End___init) .none kV_End___init dc_End___init pm_End___init an_End___init cd_End___init ct_End___init), sl_End___init⟩) (c_End___init : PySem.W.codeIn K cd_End___init "End.__init__" = true) (k_End___init : PySem.W.keepIn K (.ref f_End___init) = true)
    (a_Lot___init : PySem.W.findIn K (.ref C_Lot) "__init__" = some (some (.ref f_Lot___init))) (i_Lot___init : PySem.W.isFn K (.ref f_Lot___init) = true) (l_Lot___init : K.lookup f_Lot___init = some ⟨oc_Lot___init, od_Lot___init, .func (PySem.W.fnOf "__init__" "Lot.__init__" (fnArgs s_Lot___init) (fnBody s_Lot___init) (fnScope s_Lot___init) .none kV_Lot___init dc_Lot___init pm_Lot___init an_Lot___init cd_Lot___init ct_Lot___init), sl_Lot___init⟩) (c_Lot___init : PySem.W.codeIn K cd_Lot___init "Lot.__init__" = true) (k_Lot___init : PySem.W.keepIn K (.ref f_Lot___init) = true)
    (a_Turn___init : PySem.W.findIn K (.ref C_Turn) "__init__" = some (some (.ref f_Turn___init))) (i_Turn___init : PySem.W.isFn K (.ref f_Turn___init) = true) (l_Turn___init : K.lookup f_Turn___init = some ⟨oc_Turn___init, od_Turn___init, .func (PySem.W.fnOf "__init__" "Turn.__init__" (fnArgs s_Turn___init) (fnBody s_Turn___init) (fnScope s_Turn___init) .none kV_Turn___init dc_Turn___init pm_Turn___init an_Turn___init cd_Turn___init ct_Turn___init), sl_Turn___init⟩) (c_Turn___init : PySem.W.codeIn K cd_Turn___init "Turn.__init__" = true) (k_Turn___init : PySem.W.keepIn K (.ref f_Turn___init) = true)
    (a_Builder___init : PySem.W.findIn K (.ref C_Builder) "__init__" = some (some (.ref f_Builder___init))) (i_Builder___init : PySem.W.isFn K (.ref f_Builder___init) = true) (l_Builder___init : K.lookup f_Builder___init = some ⟨oc_Builder___init, od_Builder___init, .func (PySem.W.fnOf "__init__" "Builder.__init__" (fnArgs s_Builder___init) (fnBody s_Builder___init) (fnScope s_Builder___init) .none kV_Builder___init dc_Builder___init pm_Builder___init an_Builder___init cd_Builder___init ct_Builder___init), sl_Builder___init⟩) (c_Builder___init : PySem.W.codeIn K cd_Builder___init "Builder.__init__" = true) (k_Builder___init : PySem.W.keepIn K (.ref f_Builder___init) = true)
    (a_Builder_place : PySem.W.findIn K (.ref C_Builder) "place" = some (some (.ref f_Builder_place))) (i_Builder_place : PySem.W.isFn K (.ref f_Builder_place) = true) (l_Builder_place : K.lookup f_Builder_place = some ⟨oc_Builder_place, od_Builder_place, .func (PySem.W.fnOf "place" "Builder.place" (fnArgs s_Builder_place) (fnBody s_Builder_place) (fnScope s_Builder_place) .none kV_Builder_place dc_Builder_place pm_Builder_place an_Builder_place cd_Builder_place ct_Builder_place), sl_Builder_place⟩) (c_Builder_place : PySem.W.codeIn K cd_Builder_place "Builder.place" = true) (k_Builder_place : PySem.W.keepIn K (.ref f_Builder_place) = true)
    (a_Builder_node : PySem.W.findIn K (.ref C_Builder) "node" = some (some (.ref f_Builder_node))) (i_Builder_node : PySem.W.isFn K (.ref f_Builder_node) = true) (l_Builder_node : K.lookup f_Builder_node = some ⟨oc_Builder_node, od_Builder_node, .func (PySem.W.fnOf "node" "Builder.node" (fnArgs s_Builder_node) (fnBody s_Builder_node) (fnScope s_Builder_node) .none kV_Builder_node dc_Builder_node pm_Builder_node an_Builder_node cd_Builder_node ct_Builder_node), sl_Builder_node⟩) (c_Builder_node : PySem.W.codeIn K cd_Builder_node "Builder.node" = true) (k_Builder_node : PySem.W.keepIn K (.ref f_Builder_node) = true)
    (a_Builder_stored : PySem.W.findIn K (.ref C_Builder) "stored" = some (some (.ref f_Builder_stored))) (i_Builder_stored : PySem.W.isFn K (.ref f_Builder_stored) = true) (l_Builder_stored : K.lookup f_Builder_stored = some ⟨oc_Builder_stored, od_Builder_stored, .func (PySem.W.fnOf "stored" "Builder.stored" (fnArgs s_Builder_stored) (fnBody s_Builder_stored) (fnScope s_Builder_stored) .none kV_Builder_stored dc_Builder_stored pm_Builder_stored an_Builder_stored cd_Builder_stored ct_Builder_stored), sl_Builder_stored⟩) (c_Builder_stored : PySem.W.codeIn K cd_Builder_stored "Builder.stored" = true) (k_Builder_stored : PySem.W.keepIn K (.ref f_Builder_stored) = true)
    (a_Builder_branch : PySem.W.findIn K (.ref C_Builder) "branch" = some (some (.ref f_Builder_branch))) (i_Builder_branch : PySem.W.isFn K (.ref f_Builder_branch) = true) (l_Builder_branch : K.lookup f_Builder_branch = some ⟨oc_Builder_branch, od_Builder_branch, .func (PySem.W.fnOf "branch" "Builder.branch" (fnArgs s_Builder_branch) (fnBody s_Builder_branch) (fnScope s_Builder_branch) .none kV_Builder_branch dc_Builder_branch pm_Builder_branch an_Builder_branch cd_Builder_branch ct_Builder_branch), sl_Builder_branch⟩) (c_Builder_branch : PySem.W.codeIn K cd_Builder_branch "Builder.branch" = true) (k_Builder_branch : PySem.W.keepIn K (.ref f_Builder_branch) = true)
    (a_Game___init : PySem.W.findIn K (.ref C_Game) "__init__" = some (some (.ref f_Game___init))) (i_Game___init : PySem.W.isFn K (.ref f_Game___init) = true) (l_Game___init : K.lookup f_Game___init = some ⟨oc_Game___init, od_Game___init, .func (PySem.W.fnOf "__init__" "Game.__init__" (fnArgs s_Game___init) (fnBody s_Game___init) (fnScope s_Game___init) .none kV_Game___init dc_Game___init pm_Game___init an_Game___init cd_Game___init ct_Game___init), sl_Game___init⟩) (c_Game___init : PySem.W.codeIn K cd_Game___init "Game.__init__" = true) (k_Game___init : PySem.W.keepIn K (.ref f_Game___init) = true)
    (a_Position___init : PySem.W.findIn K (.ref C_Position) "__init__" = some (some (.ref f_Position___init))) (i_Position___init : PySem.W.isFn K (.ref f_Position___init) = true) (l_Position___init : K.lookup f_Position___init = some ⟨oc_Position___init, od_Position___init, .func (PySem.W.fnOf "__init__" "Position.__init__" (fnArgs s_Position___init) (fnBody s_Position___init) (fnScope s_Position___init) .none kV_Position___init dc_Position___init pm_Position___init an_Position___init cd_Position___init ct_Position___init), sl_Position___init⟩) (c_Position___init : PySem.W.codeIn K cd_Position___init "Position.__init__" = true) (k_Position___init : PySem.W.keepIn K (.ref f_Position___init) = true)
    (mc_GameError : PySem.W.nsIn K mainGlobals "GameError" = some (some (.ref C_GameError)))
    (mc_BadRatio : PySem.W.nsIn K mainGlobals "BadRatio" = some (some (.ref C_BadRatio)))
    (mc_BadText : PySem.W.nsIn K mainGlobals "BadText" = some (some (.ref C_BadText)))
    (mc_BadPlan : PySem.W.nsIn K mainGlobals "BadPlan" = some (some (.ref C_BadPlan)))
    (mc_BadMove : PySem.W.nsIn K mainGlobals "BadMove" = some (some (.ref C_BadMove)))
    (mc_BadEdit : PySem.W.nsIn K mainGlobals "BadEdit" = some (some (.ref C_BadEdit)))
    (mc_BadVersion : PySem.W.nsIn K mainGlobals "BadVersion" = some (some (.ref C_BadVersion)))
    (mc_BadPaper : PySem.W.nsIn K mainGlobals "BadPaper" = some (some (.ref C_BadPaper)))
    (mc_TooLarge : PySem.W.nsIn K mainGlobals "TooLarge" = some (some (.ref C_TooLarge)))
    (opq : PySem.W.nsIn K PySem.cStatics "thirdparty.any" = some none)
    (zsup : PySem.W.nsIn K mainGlobals "super" = some none)
    (ptop : (l.prog.main.scope.names.lookup ("super" : Str)).isSome = false)
    (xsp : PySem.W.specialIn K (.builtin "object.__class__") "__get__" = some (some (.builtin "getset_descriptor.__get__")))
    (xtk : PySem.W.takesIn K (.builtin "object.__class__") = some true)
    (xL_TooLarge : K.lookup C_TooLarge = some (excClassObj nm_TooLarge q_TooLarge C_TooLarge N_TooLarge bs_TooLarge [.ref C_GameError, .type "ValueError", .type "Exception", .type "BaseException", .type "object"] true sn_TooLarge sub_TooLarge ab_TooLarge col_TooLarge dd_TooLarge m0_TooLarge m1_TooLarge m2_TooLarge m3_TooLarge m5_TooLarge "ValueError.__new__"))
    (al_TooLarge : PySem.W.ks_superIn K C_TooLarge C_TooLarge "__init__" = some (some (.builtin "ValueError.__init__")))
    (ve_TooLarge : PySem.W.subIn K (.ref C_TooLarge) (.type "ValueError") = some true)
    (sa_TooLarge : PySem.W.findIn K (.ref C_TooLarge) "__setattr__" = some (some (.builtin "object.__setattr__")))
    (ga_TooLarge : PySem.W.findIn K (.ref C_TooLarge) "__getattribute__" = some (some (.builtin "BaseException.__getattribute__")))
    (gg_TooLarge : PySem.W.findIn K (.ref C_TooLarge) "__getattr__" = some none)
    (nb_TooLarge : PySem.W.findIn K (.ref C_TooLarge) "what" = some none)
    (iC_TooLarge : PySem.W.findIn K (.ref C_TooLarge) "__init__" = some (some (.ref f_TooLarge___init)))
    (tf_TooLarge : PySem.W.typeIn K (.ref f_TooLarge___init) = some (.type "function"))
    (kC_TooLarge : PySem.W.keepIn K (.ref C_TooLarge) = true)
    (eC_TooLarge : PySem.W.subIn K (.ref C_TooLarge) (.type "BaseException") = some true)
    (tC_TooLarge : PySem.W.typeIn K (.ref C_TooLarge) = some (.type "type"))
    (hC_TooLarge : PySem.W.hasDictIn K C_TooLarge = true)
    (mo_TooLarge : PySem.W.mroIn K C_TooLarge (.ref C_TooLarge) = some true)
    (ma_TooLarge : PySem.W.mroIn K C_TooLarge (.type "object") = some true)
    (ca_TooLarge : PySem.W.findIn K (.ref C_TooLarge) "__class__" = some (some (.builtin "object.__class__")))
    (ss_TooLarge : PySem.W.subIn K (.ref C_TooLarge) (.ref C_TooLarge) = some true)
    (lf_TooLarge : K.lookup f_TooLarge___init = some ⟨oc_TooLarge___init, od_TooLarge___init, .func (PySem.W.fnX "__init__" "TooLarge.__init__" (fnArgs s_TooLarge___init) (fnBody s_TooLarge___init) (fnScope s_TooLarge___init) [("__class__", cc_TooLarge___init)] .none .none dc_TooLarge___init pm_TooLarge___init an_TooLarge___init (.ref cda_TooLarge___init) ct_TooLarge___init), sl_TooLarge___init⟩)
    (cf_TooLarge : PySem.W.codeIn K (.ref cda_TooLarge___init) "TooLarge.__init__" = true)
    (lc_TooLarge : K.lookup cc_TooLarge___init = some ⟨cl_TooLarge___init, cld_TooLarge___init, .cell (some (.ref C_TooLarge)), csl_TooLarge___init⟩)
    (ld_TooLarge : K.lookup cda_TooLarge___init = some ⟨ccl_TooLarge___init, cdd_TooLarge___init, .fields vs_TooLarge___init, ccs_TooLarge___init⟩)
    (vf_TooLarge : vs_TooLarge___init[2]? = some (.str file_TooLarge___init tf_TooLarge___init))
    (fe_TooLarge : ((l.prog.main.file : Str) == file_TooLarge___init) = true)
    (hkLE : PySem.W.kitOne K (.ref C_Lot) (.ref C_End) = some false)
    (hkTE : PySem.W.kitOne K (.ref C_Turn) (.ref C_End) = some false)
    (hkTL : PySem.W.kitOne K (.ref C_Turn) (.ref C_Lot) = some false)
    (hkX : PySem.W.kitAny K (.ref C_TooLarge) [.ref C_BadEdit, .ref C_BadMove, .ref C_BadPaper, .ref C_BadPlan, .ref C_BadRatio, .ref C_BadText, .ref C_BadVersion] = some false)
    (hgE : PySem.W.subIn K (.ref C_GameError) (.type "BaseException") = some true)
    (hgH : PySem.W.hasDictIn K C_GameError = true)
    (hgT : PySem.W.typeIn K (.ref C_GameError) = some (.type "type"))
    (hgS : PySem.W.subIn K (.ref C_TooLarge) (.ref C_GameError) = some true)
    (z_MOST_PLACES : PySem.W.nsIn K mainGlobals "MOST_PLACES" = some (some (.int 400 t_MOST_PLACES)))
    (z_bool : PySem.W.nsIn K mainGlobals "bool" = some none)
    (z_dict : PySem.W.nsIn K mainGlobals "dict" = some none)
    (z_enumerate : PySem.W.nsIn K mainGlobals "enumerate" = some none)
    (z_int : PySem.W.nsIn K mainGlobals "int" = some none)
    (z_isinstance : PySem.W.nsIn K mainGlobals "isinstance" = some none)
    (z_len : PySem.W.nsIn K mainGlobals "len" = some none)
    (z_list : PySem.W.nsIn K mainGlobals "list" = some none)
    (z_range : PySem.W.nsIn K mainGlobals "range" = some none)
    (z_reversed : PySem.W.nsIn K mainGlobals "reversed" = some none)
    (z_str : PySem.W.nsIn K mainGlobals "str" = some none)
    (z_sum : PySem.W.nsIn K mainGlobals "sum" = some none)
    (z_tuple : PySem.W.nsIn K mainGlobals "tuple" = some none)
    : ∃ fd : FuncData, (∀ (s : Shared) (v : Value), BindsTo s fd ⟨[v], []⟩ [("script", v)]) ∧ ∀ base : Heap, K.In base → base.Ns mainGlobals mg → FnOk l.prog w K mg base C8.CX0 23 fa fd ["script"] (sp_law K) := by
  have e := hfa.symm.trans (PySem.W.mg_of X G a_law)
  cases e
  have T : Txt K mg C_End C_Lot C_Turn C_Builder C_Game C_Position C_GameError C_BadRatio C_BadText C_BadPlan C_BadMove C_BadEdit C_BadVersion C_BadPaper C_TooLarge := ⟨PySem.W.mg_none_of X G z_bool, PySem.W.mg_none_of X G z_dict, PySem.W.mg_none_of X G z_enumerate, PySem.W.mg_none_of X G z_int, PySem.W.mg_none_of X G z_isinstance, PySem.W.mg_none_of X G z_len, PySem.W.mg_none_of X G z_list, PySem.W.mg_none_of X G z_range, PySem.W.mg_none_of X G z_reversed, PySem.W.mg_none_of X G z_str, PySem.W.mg_none_of X G z_sum, PySem.W.mg_none_of X G z_tuple, ⟨pg_End, hd_End, po_End, sa_End⟩, PySem.W.mg_of X G mc_End, ⟨⟨pg_End, hd_End, po_End, sa_End⟩, ha_End, hn_End, ht_End, hm_End, kitSelf⟩, npaid_End, ⟨pg_Lot, hd_Lot, po_Lot, sa_Lot⟩, PySem.W.mg_of X G mc_Lot, ⟨⟨pg_Lot, hd_Lot, po_Lot, sa_Lot⟩, ha_Lot, hn_Lot, ht_Lot, hm_Lot, kitSelf⟩, nparts_Lot, ⟨pg_Turn, hd_Turn, po_Turn, sa_Turn⟩, PySem.W.mg_of X G mc_Turn, ⟨⟨pg_Turn, hd_Turn, po_Turn, sa_Turn⟩, ha_Turn, hn_Turn, ht_Turn, hm_Turn, kitSelf⟩, nplayer_Turn, nview_Turn, nparts_Turn, ⟨pg_Builder, hd_Builder, po_Builder, sa_Builder⟩, PySem.W.mg_of X G mc_Builder, ⟨⟨pg_Builder, hd_Builder, po_Builder, sa_Builder⟩, ha_Builder, hn_Builder, ht_Builder, hm_Builder, kitSelf⟩, nsizes_Builder, non_Builder, nleft_Builder, ⟨pg_Game, hd_Game, po_Game, sa_Game⟩, PySem.W.mg_of X G mc_Game, ⟨⟨pg_Game, hd_Game, po_Game, sa_Game⟩, ha_Game, hn_Game, ht_Game, hm_Game, kitSelf⟩, noptions_Game, nvariables_Game, nrounds_Game, ⟨pg_Position, hd_Position, po_Position, sa_Position⟩, PySem.W.mg_of X G mc_Position, ⟨⟨pg_Position, hd_Position, po_Position, sa_Position⟩, ha_Position, hn_Position, ht_Position, hm_Position, kitSelf⟩, nwaiting_Position, ncount_Position, npaid_Position, nview_Position, ⟨_, PySem.W.mg_of X G z_MOST_PLACES, ⟨_, rfl⟩⟩, PySem.W.mg_of X G mc_GameError, PySem.W.mg_of X G mc_BadRatio, PySem.W.mg_of X G mc_BadText, PySem.W.mg_of X G mc_BadPlan, PySem.W.mg_of X G mc_BadMove, PySem.W.mg_of X G mc_BadEdit, PySem.W.mg_of X G mc_BadVersion, PySem.W.mg_of X G mc_BadPaper, PySem.W.mg_of X G mc_TooLarge, ⟨ga_TooLarge, gg_TooLarge, eC_TooLarge, hC_TooLarge, ca_TooLarge, xsp, xtk, ma_TooLarge⟩, ⟨ga_TooLarge, gg_TooLarge, eC_TooLarge, hC_TooLarge⟩, nb_TooLarge, PySem.W.exm_ref eC_TooLarge hC_TooLarge tC_TooLarge ss_TooLarge, hkLE, hkTE, hkTL, hkX, hgE, hgH, hgT, hgS, True.intro⟩
  have X_TooLarge : SupX_TooLarge.Txt l.prog K mg "TooLarge" C_TooLarge f_TooLarge___init := { gC := PySem.W.mg_of X G mc_TooLarge, cls := ⟨_, _, _, _, _, _, _, _, _, _, _, _, _, _, _, xL_TooLarge, rfl⟩, along := al_TooLarge, veC := ve_TooLarge, sa := sa_TooLarge, ga := ga_TooLarge, gg := gg_TooLarge, noN := nb_TooLarge, iC := iC_TooLarge, tC := tf_TooLarge, kC := kC_TooLarge, exC := eC_TooLarge, tyC := tC_TooLarge, hdC := hC_TooLarge, opq := opq, noS := PySem.W.mg_none_of X G zsup, mroC := mo_TooLarge, top := ptop, fn := ⟨_, _, _, _, _, _, _, _, _, _, _, _, _, _, _, _, _, _, lf_TooLarge, cf_TooLarge, lc_TooLarge, ld_TooLarge, vf_TooLarge, fe_TooLarge⟩ }
  have F_End___init : C8.Fun K "__init__" "End.__init__" s_End___init _ _ := ⟨⟨_, _, _, _, _, _, _, _, _, _, rfl, l_End___init, c_End___init⟩⟩
  have M_End : Mk K C_End f_End___init := ⟨mk_End, a_End___init, i_End___init, kc_End⟩
  have b_End___init : Binds K _ ["self", "paid"] [] := C8.Fun.binds F_End___init rfl fun _ _ _ _ _ _ us hl => match us, hl with | [_, _], _ => rfl
  have F_Lot___init : C8.Fun K "__init__" "Lot.__init__" s_Lot___init _ _ := ⟨⟨_, _, _, _, _, _, _, _, _, _, rfl, l_Lot___init, c_Lot___init⟩⟩
  have M_Lot : Mk K C_Lot f_Lot___init := ⟨mk_Lot, a_Lot___init, i_Lot___init, kc_Lot⟩
  have b_Lot___init : Binds K _ ["self", "parts"] [] := C8.Fun.binds F_Lot___init rfl fun _ _ _ _ _ _ us hl => match us, hl with | [_, _], _ => rfl
  have F_Turn___init : C8.Fun K "__init__" "Turn.__init__" s_Turn___init _ _ := ⟨⟨_, _, _, _, _, _, _, _, _, _, rfl, l_Turn___init, c_Turn___init⟩⟩
  have M_Turn : Mk K C_Turn f_Turn___init := ⟨mk_Turn, a_Turn___init, i_Turn___init, kc_Turn⟩
  have b_Turn___init : Binds K _ ["self", "player", "view", "parts"] [] := C8.Fun.binds F_Turn___init rfl fun _ _ _ _ _ _ us hl => match us, hl with | [_, _, _, _], _ => rfl
  have F_Builder___init : C8.Fun K "__init__" "Builder.__init__" s_Builder___init _ _ := ⟨⟨_, _, _, _, _, _, _, _, _, _, rfl, l_Builder___init, c_Builder___init⟩⟩
  have M_Builder : Mk K C_Builder f_Builder___init := ⟨mk_Builder, a_Builder___init, i_Builder___init, kc_Builder⟩
  have b_Builder___init : Binds K _ ["self", "game"] [] := C8.Fun.binds F_Builder___init rfl fun _ _ _ _ _ _ us hl => match us, hl with | [_, _], _ => rfl
  have F_Builder_place : C8.Fun K "place" "Builder.place" s_Builder_place _ _ := ⟨⟨_, _, _, _, _, _, _, _, _, _, rfl, l_Builder_place, c_Builder_place⟩⟩
  have M_Builder_place : Meth K C_Builder "place" f_Builder_place := ⟨a_Builder_place, i_Builder_place, k_Builder_place⟩
  have b_Builder_place : Binds K _ ["self"] [] := C8.Fun.binds F_Builder_place rfl fun _ _ _ _ _ _ us hl => match us, hl with | [_], _ => rfl
  have F_Builder_node : C8.Fun K "node" "Builder.node" s_Builder_node _ _ := ⟨⟨_, _, _, _, _, _, _, _, _, _, rfl, l_Builder_node, c_Builder_node⟩⟩
  have M_Builder_node : Meth K C_Builder "node" f_Builder_node := ⟨a_Builder_node, i_Builder_node, k_Builder_node⟩
  have b_Builder_node : Binds K _ ["self", "rest", "table", "seen", "paid"] [] := C8.Fun.binds F_Builder_node rfl fun _ _ _ _ _ _ us hl => match us, hl with | [_, _, _, _, _], _ => rfl
  have F_Builder_stored : C8.Fun K "stored" "Builder.stored" s_Builder_stored _ _ := ⟨⟨_, _, _, _, _, _, _, _, _, _, rfl, l_Builder_stored, c_Builder_stored⟩⟩
  have M_Builder_stored : Meth K C_Builder "stored" f_Builder_stored := ⟨a_Builder_stored, i_Builder_stored, k_Builder_stored⟩
  have b_Builder_stored : Binds K _ ["self", "table", "name", "value"] [] := C8.Fun.binds F_Builder_stored rfl fun _ _ _ _ _ _ us hl => match us, hl with | [_, _, _, _], _ => rfl
  have F_Builder_branch : C8.Fun K "branch" "Builder.branch" s_Builder_branch _ _ := ⟨⟨_, _, _, _, _, _, _, _, _, _, rfl, l_Builder_branch, c_Builder_branch⟩⟩
  have M_Builder_branch : Meth K C_Builder "branch" f_Builder_branch := ⟨a_Builder_branch, i_Builder_branch, k_Builder_branch⟩
  have b_Builder_branch : Binds K _ ["self", "statement", "rest", "table", "seen", "paid"] [] := C8.Fun.binds F_Builder_branch rfl fun _ _ _ _ _ _ us hl => match us, hl with | [_, _, _, _, _, _], _ => rfl
  have F_Game___init : C8.Fun K "__init__" "Game.__init__" s_Game___init _ _ := ⟨⟨_, _, _, _, _, _, _, _, _, _, rfl, l_Game___init, c_Game___init⟩⟩
  have M_Game : Mk K C_Game f_Game___init := ⟨mk_Game, a_Game___init, i_Game___init, kc_Game⟩
  have b_Game___init : Binds K _ ["self", "options", "variables", "rounds"] [] := C8.Fun.binds F_Game___init rfl fun _ _ _ _ _ _ us hl => match us, hl with | [_, _, _, _], _ => rfl
  have F_Position___init : C8.Fun K "__init__" "Position.__init__" s_Position___init _ _ := ⟨⟨_, _, _, _, _, _, _, _, _, _, rfl, l_Position___init, c_Position___init⟩⟩
  have M_Position : Mk K C_Position f_Position___init := ⟨mk_Position, a_Position___init, i_Position___init, kc_Position⟩
  have b_Position___init : Binds K _ ["self", "waiting", "count", "paid", "view"] [] := C8.Fun.binds F_Position___init rfl fun _ _ _ _ _ _ us hl => match us, hl with | [_, _, _, _, _], _ => rfl
  have D_shown : C8.Def K mg "shown" s_shown _ _ := ⟨⟨⟨_, _, _, _, _, _, _, _, _, _, rfl, l_shown, c_shown⟩⟩, PySem.W.mg_of X G a_shown, k_shown⟩
  have b_shown : Binds K _ ["seen", "to", "event"] [] := C8.Fun.binds D_shown.fn rfl fun _ _ _ _ _ _ us hl => match us, hl with | [_, _, _], _ => rfl
  have D_chained : C8.Def K mg "chained" s_chained _ _ := ⟨⟨⟨_, _, _, _, _, _, _, _, _, _, rfl, l_chained, c_chained⟩⟩, PySem.W.mg_of X G a_chained, k_chained⟩
  have b_chained : Binds K _ ["block", "rest"] [] := C8.Fun.binds D_chained.fn rfl fun _ _ _ _ _ _ us hl => match us, hl with | [_, _], _ => rfl
  have D_tree_of : C8.Def K mg "tree_of" s_tree_of _ _ := ⟨⟨⟨_, _, _, _, _, _, _, _, _, _, rfl, l_tree_of, c_tree_of⟩⟩, PySem.W.mg_of X G a_tree_of, k_tree_of⟩
  have b_tree_of : Binds K _ ["game"] [] := C8.Fun.binds D_tree_of.fn rfl fun _ _ _ _ _ _ us hl => match us, hl with | [_], _ => rfl
  have D_places : C8.Def K mg "places" s_places _ _ := ⟨⟨⟨_, _, _, _, _, _, _, _, _, _, rfl, l_places, c_places⟩⟩, PySem.W.mg_of X G a_places, k_places⟩
  have b_places : Binds K _ ["tree"] [] := C8.Fun.binds D_places.fn rfl fun _ _ _ _ _ _ us hl => match us, hl with | [_], _ => rfl
  have D_position_of : C8.Def K mg "position_of" s_position_of _ _ := ⟨⟨⟨_, _, _, _, _, _, _, _, _, _, rfl, l_position_of, c_position_of⟩⟩, PySem.W.mg_of X G a_position_of, k_position_of⟩
  have b_position_of : Binds K _ ["node"] [] := C8.Fun.binds D_position_of.fn rfl fun _ _ _ _ _ _ us hl => match us, hl with | [_], _ => rfl
  have D_follow : C8.Def K mg "follow" s_follow _ _ := ⟨⟨⟨_, _, _, _, _, _, _, _, _, _, rfl, l_follow, c_follow⟩⟩, PySem.W.mg_of X G a_follow, k_follow⟩
  have b_follow : Binds K _ ["tree", "choices"] [] := C8.Fun.binds D_follow.fn rfl fun _ _ _ _ _ _ us hl => match us, hl with | [_, _], _ => rfl
  have D_run : C8.Def K mg "run" s_run _ _ := ⟨⟨⟨_, _, _, _, _, _, _, _, _, _, rfl, l_run, c_run⟩⟩, PySem.W.mg_of X G a_run, k_run⟩
  have b_run : Binds K _ ["game", "choices"] [] := C8.Fun.binds D_run.fn rfl fun _ _ _ _ _ _ us hl => match us, hl with | [_, _], _ => rfl
  have D_ends : C8.Def K mg "ends" s_ends _ _ := ⟨⟨⟨_, _, _, _, _, _, _, _, _, _, rfl, l_ends, c_ends⟩⟩, PySem.W.mg_of X G a_ends, k_ends⟩
  have b_ends : Binds K _ ["tree"] [] := C8.Fun.binds D_ends.fn rfl fun _ _ _ _ _ _ us hl => match us, hl with | [_], _ => rfl
  have D_law_cell : C8.Def K mg "_law_cell" s_law_cell _ _ := ⟨⟨⟨_, _, _, _, _, _, _, _, _, _, rfl, l_law_cell, c_law_cell⟩⟩, PySem.W.mg_of X G a_law_cell, k_law_cell⟩
  have b_law_cell : Binds K _ ["script", "k"] [] := C8.Fun.binds D_law_cell.fn rfl fun _ _ _ _ _ _ us hl => match us, hl with | [_, _], _ => rfl
  have D_law_is_integer : C8.Def K mg "_law_is_integer" s_law_is_integer _ _ := ⟨⟨⟨_, _, _, _, _, _, _, _, _, _, rfl, l_law_is_integer, c_law_is_integer⟩⟩, PySem.W.mg_of X G a_law_is_integer, k_law_is_integer⟩
  have b_law_is_integer : Binds K _ ["actual"] [] := C8.Fun.binds D_law_is_integer.fn rfl fun _ _ _ _ _ _ us hl => match us, hl with | [_], _ => rfl
  have D_law_sizes : C8.Def K mg "_law_sizes" s_law_sizes _ _ := ⟨⟨⟨_, _, _, _, _, _, _, _, _, _, rfl, l_law_sizes, c_law_sizes⟩⟩, PySem.W.mg_of X G a_law_sizes, k_law_sizes⟩
  have b_law_sizes : Binds K _ ["script"] [] := C8.Fun.binds D_law_sizes.fn rfl fun _ _ _ _ _ _ us hl => match us, hl with | [_], _ => rfl
  have D_law_first : C8.Def K mg "_law_first" s_law_first _ _ := ⟨⟨⟨_, _, _, _, _, _, _, _, _, _, rfl, l_law_first, c_law_first⟩⟩, PySem.W.mg_of X G a_law_first, k_law_first⟩
  have b_law_first : Binds K _ ["block"] [] := C8.Fun.binds D_law_first.fn rfl fun _ _ _ _ _ _ us hl => match us, hl with | [_], _ => rfl
  have D_law_waiting : C8.Def K mg "_law_waiting" s_law_waiting _ _ := ⟨⟨⟨_, _, _, _, _, _, _, _, _, _, rfl, l_law_waiting, c_law_waiting⟩⟩, PySem.W.mg_of X G a_law_waiting, k_law_waiting⟩
  have b_law_waiting : Binds K _ ["game", "way"] [] := C8.Fun.binds D_law_waiting.fn rfl fun _ _ _ _ _ _ us hl => match us, hl with | [_, _], _ => rfl
  have F_law : C8.Fun K "law" "law" s_law _ _ := ⟨⟨_, _, _, _, _, _, _, _, _, _, rfl, l_law, c_law⟩⟩
  refine ⟨PySem.W.fnOf "law" "law" (fnArgs s_law) (fnBody s_law) (fnScope s_law) .none kV_law dc_law pm_law an_law cd_law ct_law, fun s v => .of_eq rfl, fun base _ _ => ?_⟩
  have c_End := ok_end (P := l.prog) (w := w) (base := base) M_End F_End___init b_End___init T
  have c_Lot := ok_lot (P := l.prog) (w := w) (base := base) M_Lot F_Lot___init b_Lot___init T
  have c_Turn := ok_turn (P := l.prog) (w := w) (base := base) M_Turn F_Turn___init b_Turn___init T
  have c_Position := ok_position (P := l.prog) (w := w) (base := base) M_Position F_Position___init b_Position___init T
  have c_Game := ok_game (P := l.prog) (w := w) (base := base) M_Game F_Game___init b_Game___init T
  have c_Builder := ok_binit (P := l.prog) (w := w) (base := base) M_Builder F_Builder___init b_Builder___init T
  have c_Builder_place := ok_place (w := w) (base := base) M_Builder_place F_Builder_place b_Builder_place T X_TooLarge
  have c_Builder_stored := ok_stored (P := l.prog) (w := w) (base := base) M_Builder_stored F_Builder_stored b_Builder_stored T
  have c_shown := ok_shown (P := l.prog) (w := w) (base := base) D_shown b_shown T
  have c_chained := ok_chained (P := l.prog) (w := w) (base := base) D_chained b_chained T
  have c_Builder_node := node_all M_Builder_node F_Builder_node b_Builder_node M_Builder_branch F_Builder_branch b_Builder_branch T c_Builder_place c_Builder_stored c_shown c_Lot c_Turn c_End 8
  have c_tree_of := ok_tree (m := 7) D_tree_of b_tree_of T (by decide) c_Builder c_chained c_Builder_node
  have c_places := places_all (P := l.prog) (w := w) (base := base) D_places b_places T 7
  have c_ends := ends_all (P := l.prog) (w := w) (base := base) D_ends b_ends T 7
  have c_position_of := ok_position_of D_position_of b_position_of T c_Position
  have c_follow := ok_follow (P := l.prog) (w := w) (base := base) D_follow b_follow T
  have c_run := ok_run (m := 7) (k := 20) D_run b_run T (by decide) c_tree_of c_position_of c_follow
  have c_law_cell := ok_cell (P := l.prog) (w := w) (base := base) D_law_cell b_law_cell T
  have c_law_is_integer := ok_isint (P := l.prog) (w := w) (base := base) D_law_is_integer b_law_is_integer T
  have c_law_sizes := ok_sizes D_law_sizes b_law_sizes T c_law_cell
  have c_law_first := ok_first (P := l.prog) (w := w) (base := base) D_law_first b_law_first T
  have c_law_waiting := ok_waiting (m := 7) D_law_waiting b_law_waiting T c_run
  exact ok_law (k := 19) F_law T c_law_sizes c_law_cell c_Game c_law_first c_law_waiting (c_tree_of.up (by decide)) c_law_is_integer (calUp c_places (by decide)) (calUp c_ends (by decide))
theorem walk {l : PySem.W.OpenLaw} {q : Program} {loose : List Str} {XP : (Str → Option Value) → Heap → Prop} {YP : World → Heap → Prop} {d : DefRec} {K : Params → PySem.W.Frag} (hn : l.most = some 63) (hdf : d.params.defaults = [])
    (hY : ∀ (w : World) (h : Heap), YP w h → (K w.params).In h)
    (F : ∀ (w : World) (mg : Str → Option Value) (fa : Addr) (h : Heap), (K w.params).In h → h.Ns mainGlobals mg → mg d.name = some (.ref fa) →
      ∃ fd : FuncData, (∀ (s : Shared) (u : Value), BindsTo s fd ⟨[u], []⟩ [("script", u)]) ∧ ∀ base : Heap, (K w.params).In base → base.Ns mainGlobals mg → FnOk l.prog w (K w.params) mg base C8.CX0 23 fa fd ["script"] (sp_law (K w.params))) :
    PySem.W.WalkO q loose XP YP l.row.toRowW d [] (fun f vs => PySem.call f vs) :=
  L2.walk_ofB (n := 63) (k := 23) (x := "script") (CX := fun _ => C8.CX0) (sp := fun w => sp_law (K w.params)) hn (by decide) hdf ⟨rfl, by decide, by decide⟩ hY F (fun _ _ a ns hl hb _ hS => ⟨a, ns, rfl, hS, fun _ => rfl⟩) fun _ _ _ _ _ z => z
end My
open PySem PySem.W PyProof.Rows
set_option maxRecDepth 100000 in
set_option maxHeartbeats 0 in
theorem PySem.Challenge.cw_bothgain_k32_trees_that_are_too_large_holds : PySem.Challenge.rw_bothgain_k32_trees_that_are_too_large.Holds := by
  w_on; o_law; k_head; (case hw => w_witness2)
  k_fill
  refine My.walk (l := PySem.Challenge.rw_bothgain_k32_trees_that_are_too_large) rfl rfl (fun w h Y => PySem.W.kIn_of Y) ?F
  case F =>
    intro w mg fa h KX G hmg
    refine' My.all_mk KX G hmg ?a_shown ?l_shown ?c_shown ?k_shown ?a_chained ?l_chained ?c_chained ?k_chained ?a_tree_of ?l_tree_of ?c_tree_of ?k_tree_of ?a_places ?l_places ?c_places ?k_places ?a_position_of ?l_position_of ?c_position_of ?k_position_of ?a_follow ?l_follow ?c_follow ?k_follow ?a_run ?l_run ?c_run ?k_run ?a_ends ?l_ends ?c_ends ?k_ends ?a_law_cell ?l_law_cell ?c_law_cell ?k_law_cell ?a_law_is_integer ?l_law_is_integer ?c_law_is_integer ?k_law_is_integer ?a_law_sizes ?l_law_sizes ?c_law_sizes ?k_law_sizes ?a_law_first ?l_law_first ?c_law_first ?k_law_first ?a_law_waiting ?l_law_waiting ?c_law_waiting ?k_law_waiting ?a_law ?l_law ?c_law ?k_law ?mc_End ?pg_End ?hd_End ?po_End ?sa_End ?mk_End ?kc_End ?ha_End ?hn_End ?ht_End ?hm_End ?npaid_End ?mc_Lot ?pg_Lot ?hd_Lot ?po_Lot ?sa_Lot ?mk_Lot ?kc_Lot ?ha_Lot ?hn_Lot ?ht_Lot ?hm_Lot ?nparts_Lot ?mc_Turn ?pg_Turn ?hd_Turn ?po_Turn ?sa_Turn ?mk_Turn ?kc_Turn ?ha_Turn ?hn_Turn ?ht_Turn ?hm_Turn ?nplayer_Turn ?nview_Turn ?nparts_Turn ?mc_Builder ?pg_Builder ?hd_Builder ?po_Builder ?sa_Builder ?mk_Builder ?kc_Builder ?ha_Builder ?hn_Builder ?ht_Builder ?hm_Builder ?nsizes_Builder ?non_Builder ?nleft_Builder ?mc_Game ?pg_Game ?hd_Game ?po_Game ?sa_Game ?mk_Game ?kc_Game ?ha_Game ?hn_Game ?ht_Game ?hm_Game ?noptions_Game ?nvariables_Game ?nrounds_Game ?mc_Position ?pg_Position ?hd_Position ?po_Position ?sa_Position ?mk_Position ?kc_Position ?ha_Position ?hn_Position ?ht_Position ?hm_Position ?nwaiting_Position ?ncount_Position ?npaid_Position ?nview_Position ?a_End___init ?i_End___init ?l_End___init ?c_End___init ?k_End___init ?a_Lot___init ?i_Lot___init ?l_Lot___init ?c_Lot___init ?k_Lot___init ?a_Turn___init ?i_Turn___init ?l_Turn___init ?c_Turn___init ?k_Turn___init ?a_Builder___init ?i_Builder___init ?l_Builder___init ?c_Builder___init ?k_Builder___init ?a_Builder_place ?i_Builder_place ?l_Builder_place ?c_Builder_place ?k_Builder_place ?a_Builder_node ?i_Builder_node ?l_Builder_node ?c_Builder_node ?k_Builder_node ?a_Builder_stored ?i_Builder_stored ?l_Builder_stored ?c_Builder_stored ?k_Builder_stored ?a_Builder_branch ?i_Builder_branch ?l_Builder_branch ?c_Builder_branch ?k_Builder_branch ?a_Game___init ?i_Game___init ?l_Game___init ?c_Game___init ?k_Game___init ?a_Position___init ?i_Position___init ?l_Position___init ?c_Position___init ?k_Position___init ?mc_GameError ?mc_BadRatio ?mc_BadText ?mc_BadPlan ?mc_BadMove ?mc_BadEdit ?mc_BadVersion ?mc_BadPaper ?mc_TooLarge ?opq ?zsup ?ptop ?xsp ?xtk ?xL_TooLarge ?al_TooLarge ?ve_TooLarge ?sa_TooLarge ?ga_TooLarge ?gg_TooLarge ?nb_TooLarge ?iC_TooLarge ?tf_TooLarge ?kC_TooLarge ?eC_TooLarge ?tC_TooLarge ?hC_TooLarge ?mo_TooLarge ?ma_TooLarge ?ca_TooLarge ?ss_TooLarge ?lf_TooLarge ?cf_TooLarge ?lc_TooLarge ?ld_TooLarge ?vf_TooLarge ?fe_TooLarge ?hkLE ?hkTE ?hkTL ?hkX ?hgE ?hgH ?hgT ?hgS ?z_MOST_PLACES ?z_bool ?z_dict ?z_enumerate ?z_int ?z_isinstance ?z_len ?z_list ?z_range ?z_reversed ?z_str ?z_sum ?z_tuple
    (case a_shown => k_is)
    (case l_shown => k_is)
    (case c_shown => k_is)
    (case k_shown => k_is)
    (case a_chained => k_is)
    (case l_chained => k_is)
    (case c_chained => k_is)
    (case k_chained => k_is)
    (case a_tree_of => k_is)
    (case l_tree_of => k_is)
    (case c_tree_of => k_is)
    (case k_tree_of => k_is)
    (case a_places => k_is)
    (case l_places => k_is)
    (case c_places => k_is)
    (case k_places => k_is)
    (case a_position_of => k_is)
    (case l_position_of => k_is)
    (case c_position_of => k_is)
    (case k_position_of => k_is)
    (case a_follow => k_is)
    (case l_follow => k_is)
    (case c_follow => k_is)
    (case k_follow => k_is)
    (case a_run => k_is)
    (case l_run => k_is)
    (case c_run => k_is)
    (case k_run => k_is)
    (case a_ends => k_is)
    (case l_ends => k_is)
    (case c_ends => k_is)
    (case k_ends => k_is)
    (case a_law_cell => k_is)
    (case l_law_cell => k_is)
    (case c_law_cell => k_is)
    (case k_law_cell => k_is)
    (case a_law_is_integer => k_is)
    (case l_law_is_integer => k_is)
    (case c_law_is_integer => k_is)
    (case k_law_is_integer => k_is)
    (case a_law_sizes => k_is)
    (case l_law_sizes => k_is)
    (case c_law_sizes => k_is)
    (case k_law_sizes => k_is)
    (case a_law_first => k_is)
    (case l_law_first => k_is)
    (case c_law_first => k_is)
    (case k_law_first => k_is)
    (case a_law_waiting => k_is)
    (case l_law_waiting => k_is)
    (case c_law_waiting => k_is)
    (case k_law_waiting => k_is)
    (case a_law => k_is)
    (case l_law => k_is)
    (case c_law => k_is)
    (case k_law => k_is)
    (case mc_End => k_is)
    (case pg_End => k_is)
    (case hd_End => k_is)
    (case po_End => k_is)
    (case sa_End => k_is)
    (case mk_End => k_is)
    (case kc_End => k_is)
    (case ha_End => k_is)
    (case hn_End => k_is)
    (case ht_End => k_is)
    (case hm_End => k_is)
    (case npaid_End => k_is)
    (case mc_Lot => k_is)
    (case pg_Lot => k_is)
    (case hd_Lot => k_is)
    (case po_Lot => k_is)
    (case sa_Lot => k_is)
    (case mk_Lot => k_is)
    (case kc_Lot => k_is)
    (case ha_Lot => k_is)
    (case hn_Lot => k_is)
    (case ht_Lot => k_is)
    (case hm_Lot => k_is)
    (case nparts_Lot => k_is)
    (case mc_Turn => k_is)
    (case pg_Turn => k_is)
    (case hd_Turn => k_is)
    (case po_Turn => k_is)
    (case sa_Turn => k_is)
    (case mk_Turn => k_is)
    (case kc_Turn => k_is)
    (case ha_Turn => k_is)
    (case hn_Turn => k_is)
    (case ht_Turn => k_is)
    (case hm_Turn => k_is)
    (case nplayer_Turn => k_is)
    (case nview_Turn => k_is)
    (case nparts_Turn => k_is)
    (case mc_Builder => k_is)
    (case pg_Builder => k_is)
    (case hd_Builder => k_is)
    (case po_Builder => k_is)
    (case sa_Builder => k_is)
    (case mk_Builder => k_is)
    (case kc_Builder => k_is)
    (case ha_Builder => k_is)
    (case hn_Builder => k_is)
    (case ht_Builder => k_is)
    (case hm_Builder => k_is)
    (case nsizes_Builder => k_is)
    (case non_Builder => k_is)
    (case nleft_Builder => k_is)
    (case mc_Game => k_is)
    (case pg_Game => k_is)
    (case hd_Game => k_is)
    (case po_Game => k_is)
    (case sa_Game => k_is)
    (case mk_Game => k_is)
    (case kc_Game => k_is)
    (case ha_Game => k_is)
    (case hn_Game => k_is)
    (case ht_Game => k_is)
    (case hm_Game => k_is)
    (case noptions_Game => k_is)
    (case nvariables_Game => k_is)
    (case nrounds_Game => k_is)
    (case mc_Position => k_is)
    (case pg_Position => k_is)
    (case hd_Position => k_is)
    (case po_Position => k_is)
    (case sa_Position => k_is)
    (case mk_Position => k_is)
    (case kc_Position => k_is)
    (case ha_Position => k_is)
    (case hn_Position => k_is)
    (case ht_Position => k_is)
    (case hm_Position => k_is)
    (case nwaiting_Position => k_is)
    (case ncount_Position => k_is)
    (case npaid_Position => k_is)
    (case nview_Position => k_is)
    (case a_End___init => k_is)
    (case i_End___init => k_is)
    (case l_End___init => k_is)
    (case c_End___init => k_is)
    (case k_End___init => k_is)
    (case a_Lot___init => k_is)
    (case i_Lot___init => k_is)
    (case l_Lot___init => k_is)
    (case c_Lot___init => k_is)
    (case k_Lot___init => k_is)
    (case a_Turn___init => k_is)
    (case i_Turn___init => k_is)
    (case l_Turn___init => k_is)
    (case c_Turn___init => k_is)
    (case k_Turn___init => k_is)
    (case a_Builder___init => k_is)
    (case i_Builder___init => k_is)
    (case l_Builder___init => k_is)
    (case c_Builder___init => k_is)
    (case k_Builder___init => k_is)
    (case a_Builder_place => k_is)
    (case i_Builder_place => k_is)
    (case l_Builder_place => k_is)
    (case c_Builder_place => k_is)
    (case k_Builder_place => k_is)
    (case a_Builder_node => k_is)
    (case i_Builder_node => k_is)
    (case l_Builder_node => k_is)
    (case c_Builder_node => k_is)
    (case k_Builder_node => k_is)
    (case a_Builder_stored => k_is)
    (case i_Builder_stored => k_is)
    (case l_Builder_stored => k_is)
    (case c_Builder_stored => k_is)
    (case k_Builder_stored => k_is)
    (case a_Builder_branch => k_is)
    (case i_Builder_branch => k_is)
    (case l_Builder_branch => k_is)
    (case c_Builder_branch => k_is)
    (case k_Builder_branch => k_is)
    (case a_Game___init => k_is)
    (case i_Game___init => k_is)
    (case l_Game___init => k_is)
    (case c_Game___init => k_is)
    (case k_Game___init => k_is)
    (case a_Position___init => k_is)
    (case i_Position___init => k_is)
    (case l_Position___init => k_is)
    (case c_Position___init => k_is)
    (case k_Position___init => k_is)
    (case mc_GameError => k_is)
    (case mc_BadRatio => k_is)
    (case mc_BadText => k_is)
    (case mc_BadPlan => k_is)
    (case mc_BadMove => k_is)
    (case mc_BadEdit => k_is)
    (case mc_BadVersion => k_is)
    (case mc_BadPaper => k_is)
    (case mc_TooLarge => k_is)
    (case opq => first | k_is | rfl | decide +kernel)
    (case zsup => k_is)
    (case ptop => first | k_is | rfl | decide +kernel)
    (case xsp => k_is)
    (case xtk => k_is)
    (case xL_TooLarge => k_is)
    (case al_TooLarge => first | k_is | rfl | decide +kernel)
    (case ve_TooLarge => k_is)
    (case sa_TooLarge => k_is)
    (case ga_TooLarge => k_is)
    (case gg_TooLarge => k_is)
    (case nb_TooLarge => k_is)
    (case iC_TooLarge => k_is)
    (case tf_TooLarge => k_is)
    (case kC_TooLarge => k_is)
    (case eC_TooLarge => k_is)
    (case tC_TooLarge => k_is)
    (case hC_TooLarge => k_is)
    (case mo_TooLarge => k_is)
    (case ma_TooLarge => k_is)
    (case ca_TooLarge => k_is)
    (case ss_TooLarge => first | k_is | rfl | decide +kernel)
    (case lf_TooLarge => k_is)
    (case cf_TooLarge => k_is)
    (case lc_TooLarge => k_is)
    (case ld_TooLarge => k_is)
    (case vf_TooLarge => first | k_is | rfl | decide +kernel)
    (case fe_TooLarge => first | k_is | rfl | decide +kernel)
    (case hkLE => first | k_is | kit_is | rfl | decide +kernel)
    (case hkTE => first | k_is | kit_is | rfl | decide +kernel)
    (case hkTL => first | k_is | kit_is | rfl | decide +kernel)
    (case hkX => first | k_is | kit_is | rfl | decide +kernel)
    (case hgE => first | k_is | kit_is | rfl | decide +kernel)
    (case hgH => first | k_is | kit_is | rfl | decide +kernel)
    (case hgT => first | k_is | kit_is | rfl | decide +kernel)
    (case hgS => first | k_is | kit_is | rfl | decide +kernel)
    (case z_MOST_PLACES => k_is)
    (case z_bool => k_is)
    (case z_dict => k_is)
    (case z_enumerate => k_is)
    (case z_int => k_is)
    (case z_isinstance => k_is)
    (case z_len => k_is)
    (case z_list => k_is)
    (case z_range => k_is)
    (case z_reversed => k_is)
    (case z_str => k_is)
    (case z_sum => k_is)
    (case z_tuple => k_is)

