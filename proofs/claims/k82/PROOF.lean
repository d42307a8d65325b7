
import PyProof.Rows.All
import Wide.All
import OpenK.AllK
import Wide.FinOn
import HandS.ForMost
import HandS.Codes
import HandS.IsInst
import HandS.EndBits
import HandS.Walk
import HandS.DeepEq
import HandS.Gcd
import HandS.Wide
import HandS.Defaults
import HandS.OwnEq
import HandS.Dict
import HandS.WordsDict
import HandS.Star
import HandS.Strs
import HandS.RaiseMore
import HandS.More
import HandS.ForExc
import HandS.ExcIs
import HandS.ExcField
import KE.KExcSuper
import KE.KSuper
import HandS.TryMany
import HandS.ExcInit
import HandS.CallSlots
import HandS.WrittenGet
import HandS.Iter
import HandS.Property
import HandS.MakeKwOnly
import HandS.Style
import KE.RegKIsAll
import HandS.Rev
import HandS.TupAny
import HandS.OwnEq
import OpenK.KWalk
import OpenK.KMake
import PyProof.InstNe
import PySem.Challenge.RW_bothgain_k82_composed_games
set_option Elab.async false
set_option linter.all false
set_option maxRecDepth 100000
set_option maxHeartbeats 4000000
set_option pp.maxSteps 400

namespace My
open PySem L2 C8 SX
/-! own base: tests, heaps -/
theorem bo_len : bootBuiltins "len" = some (.builtin "len") := by decide +kernel
theorem bo_isinstance : bootBuiltins "isinstance" = some (.builtin "isinstance") := by decide +kernel
theorem bo_min : bootBuiltins "min" = some (.builtin "min") := by decide +kernel
theorem bo_max : bootBuiltins "max" = some (.builtin "max") := by decide +kernel
theorem bo_abs : bootBuiltins "abs" = some (.builtin "abs") := by decide +kernel
theorem bo_int : bootBuiltins "int" = some (.type "int") := by decide +kernel
theorem bo_str : bootBuiltins "str" = some (.type "str") := by decide +kernel
theorem bo_bool : bootBuiltins "bool" = some (.type "bool") := by decide +kernel
theorem bo_list : bootBuiltins "list" = some (.type "list") := by decide +kernel
theorem bo_ord : bootBuiltins "ord" = some (.builtin "ord") := by decide +kernel
theorem bo_chr : bootBuiltins "chr" = some (.builtin "chr") := by decide +kernel
theorem bo_sum : bootBuiltins "sum" = some (.builtin "sum") := by decide +kernel
theorem bo_all : bootBuiltins "all" = some (.builtin "all") := by decide +kernel
theorem bo_any : bootBuiltins "any" = some (.builtin "any") := by decide +kernel
theorem bo_sorted : bootBuiltins "sorted" = some (.builtin "sorted") := by decide +kernel
theorem bo_dict : bootBuiltins "dict" = some (.type "dict") := by decide +kernel
theorem bo_tuple : bootBuiltins "tuple" = some (.type "tuple") := by decide +kernel
theorem iteD {p A B : Prop} [Decidable p] (h1 : p → A) (h2 : ¬ p → B) : if decide p = true then A else B := by
  by_cases h : p
  · rw [decide_eq_true h]; exact iteT (h1 h)
  · rw [decide_eq_false h]; exact iteF (h2 h)
theorem iteN {p A B : Prop} [Decidable p] (h1 : ¬ p → A) (h2 : p → B) : if (!decide p) = true then A else B := by
  by_cases h : p
  · rw [decide_eq_true h]; exact iteF (h2 h)
  · rw [decide_eq_false h]; exact iteT (h1 h)
theorem iteDT {p A B : Prop} [Decidable p] (h : p) (k : A) : if decide p = true then A else B := iteD (fun _ => k) fun z => absurd h z
theorem iteDF {p A B : Prop} [Decidable p] (h : ¬ p) (k : B) : if decide p = true then A else B := iteD (fun z => absurd z h) fun _ => k
theorem iteNT {p A B : Prop} [Decidable p] (h : ¬ p) (k : A) : if (!decide p) = true then A else B := iteN (fun _ => k) fun z => absurd z h
theorem iteNF {p A B : Prop} [Decidable p] (h : p) (k : B) : if (!decide p) = true then A else B := iteN (fun z => absurd h z) fun _ => k
theorem iteB {b : Bool} {A B : Prop} (h1 : b = true → A) (h2 : b = false → B) : if b = true then A else B := by
  cases b with
  | true => exact iteT (h1 rfl)
  | false => exact iteF (h2 rfl)
/-- in a comprehension without a test -/
theorem yes_then {σ : St} {H : Hp} {F G : Hp → Prop} (h : F H) : tYes σ H (fun b H3 => if b = true then F H3 else G H3) := h
/-- all that was tracked stands, but at W -/
def Keep (W : List Addr) (H H' : Hp) : Prop := ∀ b o, H b = some o → b ∉ W → H' b = some o
theorem Keep.refl (W : List Addr) (H : Hp) : Keep W H H := fun _ _ h _ => h
theorem Keep.trans {W : List Addr} {H H1 H2 : Hp} (a : Keep W H H1) (b : Keep W H1 H2) : Keep W H H2 := fun c o h w => b c o (a c o h w) w
theorem Keep.mono {W W' : List Addr} {H H1 : Hp} (a : Keep W H H1) (h : ∀ b, b ∈ W → b ∈ W') : Keep W' H H1 := fun c o q w => a c o q fun z => w (h c z)
theorem Keep.new {W : List Addr} {H : Hp} {p : Addr} {o : HO} (h : H p = none) : Keep W H (upd H p o) := fun b u q _ => by
  rw [upd_ne (ne_of_none q h)]; exact q
theorem Keep.at_ {W : List Addr} {H : Hp} {p : Addr} {o : HO} (h : p ∈ W) : Keep W H (upd H p o) := fun b u q w => by
  rw [upd_ne (fun z => w (by rw [z]; exact h))]; exact q
theorem Keep.then_new {W : List Addr} {H H1 : Hp} {p : Addr} {o : HO} (a : Keep W H H1) (h : H1 p = none) : Keep W H (upd H1 p o) := a.trans (Keep.new h)
theorem Keep.then_at {W : List Addr} {H H1 : Hp} {p : Addr} {o : HO} (a : Keep W H H1) (h : p ∈ W) : Keep W H (upd H1 p o) := a.trans (Keep.at_ h)
/-- what was new since H is not among the kept -/
theorem Keep.then_own {W : List Addr} {H H1 : Hp} {p : Addr} {o : HO} (a : Keep W H H1) (h : H p = none) : Keep W H (upd H1 p o) := fun b u q w => by
  rw [upd_ne (ne_of_none q h)]; exact a b u q w
theorem Keep.free {H H' : Hp} (e : Keep [] H H') {l : Addr} (h : H' l = none) : H l = none := by
  cases q : H l with
  | none => rfl
  | some o => rw [e l o q (by simp)] at h; cases h
theorem Keep.free1 {H H' : Hp} {p : Addr} {o : HO} (e : Keep [p] H H') (hp : H' p = some o) {l : Addr} (h : H' l = none) : H l = none := by
  cases q : H l with
  | none => rfl
  | some u =>
    by_cases z : l = p
    · subst z; rw [hp] at h; cases h
    · rw [e l u q (by simpa using z)] at h; cases h
theorem Keep.seqL {W : List Addr} {K : PySem.W.Frag} {H H' : Hp} {a : Addr} {xs : List V} (e : Keep W H H') (h : SqL K H a xs) (w : a ∉ W) : SqL K H' a xs := by
  rcases h with (h | ⟨o, h⟩) | h
  · exact .inl (.inl (e _ _ h w))
  · exact .inl (.inr ⟨o, e _ _ h w⟩)
  · exact .inr h
theorem Keep.seqT {W : List Addr} {K : PySem.W.Frag} {H H' : Hp} {a : Addr} {xs : List V} (e : Keep W H H') (h : SqT K H a xs) (w : a ∉ W) : SqT K H' a xs := by
  rcases h with (h | ⟨o, h⟩) | h
  · exact .inl (.inl (e _ _ h w))
  · exact .inl (.inr ⟨o, e _ _ h w⟩)
  · exact .inr h
theorem Keep.same {H H' : Hp} (e : Keep [] H H') : Same H H' := fun b o h => e b o h (by simp)
theorem ints_get {ns : List Int} {i : Nat} {v : V} (h : (ns.map V.int)[i]? = some v) : ∃ z, ns[i]? = some z ∧ v = V.int z := by
  rw [List.getElem?_map] at h
  cases e : ns[i]? with
  | none => rw [e] at h; cases h
  | some z => rw [e] at h; exact ⟨z, rfl, (Option.some.inj h).symm⟩
theorem strs_get {ns : List Str} {i : Nat} {v : V} (h : (ns.map V.str)[i]? = some v) : ∃ z, ns[i]? = some z ∧ v = V.str z := by
  rw [List.getElem?_map] at h
  cases e : ns[i]? with
  | none => rw [e] at h; cases h
  | some z => rw [e] at h; exact ⟨z, rfl, (Option.some.inj h).symm⟩
theorem smallM {n : Nat} (h : n ≤ 1000000) : n ≤ sizeLine := Nat.le_trans h (by decide)
theorem smallL {n : Nat} (h : n ≤ 1000000) : n < sizeLine := Nat.lt_of_le_of_lt h (by decide)
/-- a promise that asks the impossible: any def at all keeps it -/
def spNo : Sp := fun _ _ _ _ => False
/-! the same rules with the written part named (within a comprehension) -/
section
variable {X : Cx} {K : PySem.W.Frag}
theorem pe_fldK {e : Expr} {f : Str} {pos : Pos} {ta : TE} (he : PE X e ta) (hb : attributeBase e f X.env (eval e X.env) = eval e X.env) (hK : X.K = K := by rfl) : PE X (.Attribute e f pos) (tFld K ta f) := hK ▸ pe_fld he hb
theorem ix_listK (hK : X.K = K := by rfl) : IxR X (rIxL K) := hK ▸ ix_list
theorem ix_tupK (hK : X.K = K := by rfl) : IxR X (rIxT K) := hK ▸ ix_tup
theorem sl_listK (hK : X.K = K := by rfl) : SlR X (rSlL K) := hK ▸ sl_list
theorem sl_tupK (hK : X.K = K := by rfl) : SlR X (rSlT K) := hK ▸ sl_tup
theorem call_len_seqK (hK : X.K = K := by rfl) : CallR X (.builtin "len") (fun xs H Q => ∃ p ys, xs = [.ref p] ∧ (SqL K H p ys ∨ SqT K H p ys) ∧ Q (.int ys.length) H) := hK ▸ call_len_seq
theorem call_list_ofK (hK : X.K = K := by rfl) : CallR X (.type "list") (fun xs H Q => ∃ p ys, xs = [.ref p] ∧ (SqL K H p ys ∨ SqT K H p ys) ∧ ∀ l, H l = none → Q (.ref l) (upd H l (.lst ys))) := hK ▸ call_list_of
theorem call_isiK2 (hK : X.K = K := by rfl) : CallR X (.builtin "isinstance") (rIsi K) := hK ▸ call_isi
end
/-- behind the making of an instance -/
theorem keep_made {H H2 : Hp} {x dx : Addr} {o : HO} (hx : H x = none) (hd : H dx = none) (k : Keep [x] (upd (upd H dx (.own x)) x o) H2) : Keep [] H H2 := fun b u e _ =>
  k b u (by rw [upd_ne (ne_of_none e hx), upd_ne (ne_of_none e hd)]; exact e) (by simpa using ne_of_none e hx)
theorem kitSelf {K : PySem.W.Frag} {C : Addr} : PySem.W.kitOne K (.ref C) (.ref C) = some true := by
  unfold PySem.W.kitOne
  simp
/-- a call without arguments -/
theorem pe_c0 {X : Cx} {x : Str} {p pos : Pos} {k j : Nat} {sp : Sp} {dvs : List V} (c : C8.Cal X.prog X.w X.K X.mg X.base k x sp dvs) (hr : Room j X.A) (hk : k ≤ j) (hg : Gl X x) (hdb : (x == ("__debug__" : Str)) = false := by decide) :
    PE X (.Call (.Name x p) [] [] pos) (tCall sp dvs C8.E0 tNil) := by
  obtain ⟨f, fd, ps, ds, F, hm, kp, b, d⟩ := c.ex
  exact pe_call0 F (hr.mono hk) hg hm kp b d C8.pass0 hdb

/-! the text by places -/
def top (i : Nat) : Stmt := PySem.Challenge.pw_bothgain_k82_composed_games.main.body.getD i (.Pass ⟨0, 0, 0, 0⟩)
abbrev s_BadEdit___init : Stmt := L2.inClass (top 4) 0
abbrev s_Game___init : Stmt := L2.inClass (top 6) 0
theorem sc_Game___init : FnScope ["self", "options", "variables", "rounds"] ["self", "options", "variables", "rounds"] (fnScope s_Game___init) := fnScope_by (by decide +kernel)
abbrev s_Game___eq : Stmt := L2.inClass (top 6) 1
theorem sc_Game___eq : FnScope ["self", "other"] ["self", "other"] (fnScope s_Game___eq) := fnScope_by (by decide +kernel)
abbrev s_moves_in : Stmt := top 7
theorem sc_moves_in : FnScope ["block", "moves", "statement"] ["block"] (fnScope s_moves_in) := fnScope_by (by decide +kernel)
abbrev s_swapped_block : Stmt := top 9
theorem sc_swapped_block : FnScope ["block", "result", "statement", "word"] ["block"] (fnScope s_swapped_block) := fnScope_by (by decide +kernel)
abbrev s_swapped : Stmt := top 10
theorem sc_swapped : FnScope ["game", "rounds", "name", "block"] ["game"] (fnScope s_swapped) := fnScope_by (by decide +kernel)
abbrev s_renumbered : Stmt := top 11
theorem sc_renumbered : FnScope ["block", "number", "result", "statement", "then"] ["block", "number"] (fnScope s_renumbered) := fnScope_by (by decide +kernel)
abbrev s_before : Stmt := top 12
theorem sc_before : FnScope ["game", "other", "own", "more", "names", "number", "rounds", "name", "block", "entry"] ["game", "other"] (fnScope s_before) := fnScope_by (by decide +kernel)
abbrev s_switched : Stmt := top 13
theorem sc_switched : FnScope ["game", "names", "known", "at", "name", "on"] ["game", "names"] (fnScope s_switched) := fnScope_by (by decide +kernel)
abbrev s_law_cell : Stmt := top 15
theorem sc_law_cell : FnScope ["script", "k"] ["script", "k"] (fnScope s_law_cell) := fnScope_by (by decide +kernel)
abbrev s_law_row : Stmt := top 17
theorem sc_law_row : FnScope ["cell", "count", "size", "state", "row", "k"] ["cell", "count", "size"] (fnScope s_law_row) := fnScope_by (by decide +kernel)
abbrev s_law_stages : Stmt := top 18
theorem sc_law_stages : FnScope ["script", "most", "stages", "count", "digits", "k", "size", "show"] ["script", "most"] (fnScope s_law_stages) := fnScope_by (by decide +kernel)
abbrev s_law_paths : Stmt := top 19
theorem sc_law_paths : FnScope ["stages", "paths", "stage", "longer", "path", "k"] ["stages"] (fnScope s_law_paths) := fnScope_by (by decide +kernel)
abbrev s_law_block : Stmt := top 23
theorem sc_law_block : FnScope ["stages", "paid", "names", "first", "option", "block", "number", "k", "stage", "paths", "value", "at", "word"] ["stages", "paid", "names", "first", "option"] (fnScope s_law_block) := fnScope_by (by decide +kernel)
abbrev s_law_sizes : Stmt := top 24
theorem sc_law_sizes : FnScope ["stages", "names", "k"] ["stages", "names"] (fnScope s_law_sizes) := fnScope_by (by decide +kernel)
abbrev s_law_turned : Stmt := top 25
theorem sc_law_turned : FnScope ["stages", "turned", "stage", "player", "show"] ["stages"] (fnScope s_law_turned) := fnScope_by (by decide +kernel)
abbrev s_law_is : Stmt := top 26
theorem sc_law_is : FnScope ["game", "options", "variables", "rounds"] ["game", "options", "variables", "rounds"] (fnScope s_law_is) := fnScope_by (by decide +kernel)
abbrev s_law_refused : Stmt := top 27
theorem sc_law_refused : FnScope ["game", "names", "e"] ["game", "names"] (fnScope s_law_refused) := fnScope_by (by decide +kernel)
abbrev s_law_swaps : Stmt := top 28
theorem sc_law_swaps : FnScope ["stages", "paid", "names", "option", "game", "more", "turned", "due", "block", "statement", "rounds", "row"] ["stages", "paid", "names", "option", "game", "more"] (fnScope s_law_swaps) := fnScope_by (by decide +kernel)
abbrev s_law_swapped : Stmt := top 29
theorem sc_law_swapped : FnScope ["block", "found", "due"] ["block"] (fnScope s_law_swapped) := fnScope_by (by decide +kernel)
abbrev s_law_numbered : Stmt := top 30
theorem sc_law_numbered : FnScope ["block", "state", "found", "due", "then"] ["block", "state"] (fnScope s_law_numbered) := fnScope_by (by decide +kernel)
abbrev s_law_more : Stmt := top 31
theorem sc_law_more : FnScope ["cell", "stages", "names", "option", "title", "rounds", "k", "digits", "name", "value", "inner", "other", "block"] ["cell", "stages", "names", "option", "title"] (fnScope s_law_more) := fnScope_by (by decide +kernel)
abbrev s_law : Stmt := top 32
theorem sc_law : FnScope ["script", "half", "parts", "way", "k", "own", "stages", "paid", "names", "option", "title", "block", "more", "options", "turned", "moves", "rounds", "game", "other", "both", "one", "two", "clash", "pair", "joined", "e", "count", "value", "stage", "row"] ["script"] (fnScope s_law) := fnScope_by (by decide +kernel)
end My
/-! an own exception class over ValueError (by way of GameError) whose __init__ says super().__init__('..') and keeps its one argument -/
namespace SupX_BadEdit
open My PySem L2 C8 PySem.W PySem.Calls PyProof.Rows PySem.HandSPX
/-- what the written part says of the class at C, and of its __init__ at fI -/
structure Txt (P : Program) (K : Frag) (mg : Str → Option Value) (nm : Str) (C fI : Addr) : Prop where
  gC : mg nm = some (.ref C)
  cls : ∃ nm q N bs bm sn sub ab col dd k0 k1 k2 k3 k5, K.lookup C = some (excClassObj nm q C N bs bm true sn sub ab col dd k0 k1 k2 k3 k5 "ValueError.__new__") ∧ refsVE bm = true
  along : ks_superIn K C C "__init__" = some (some (.builtin "ValueError.__init__"))
  veC : subIn K (.ref C) (.type "ValueError") = some true
  sa : findIn K (.ref C) "__setattr__" = some (some (.builtin "object.__setattr__"))
  ga : findIn K (.ref C) "__getattribute__" = some (some (.builtin "BaseException.__getattribute__"))
  gg : findIn K (.ref C) "__getattr__" = some none
  noN : findIn K (.ref C) "what" = some none
  iC : findIn K (.ref C) "__init__" = some (some (.ref fI))
  tC : typeIn K (.ref fI) = some (.type "function")
  kC : keepIn K (.ref C) = true
  exC : subIn K (.ref C) (.type "BaseException") = some true
  tyC : typeIn K (.ref C) = some (.type "type")
  hdC : hasDictIn K C = true
  opq : nsIn K cStatics "thirdparty.any" = some none
  noS : mg "super" = none
  mroC : mroIn K C (.ref C) = some true
  top : (P.main.scope.names.lookup ("super" : Str)).isSome = false
  fn : ∃ (oc : Value) (od : Option Addr) (doc pm : Value) (an : Option Addr) (cda : Addr) (ct : Value) (osl : Array (Option Value)) (cc : Addr) (cl : Value) (cld : Option Addr) (csl : Array (Option Value)) (ccl : Value) (cdd : Option Addr) (vs : Array Value) (ccs : Array (Option Value)) (file : Str) (tf : Tok),
    K.lookup fI = some ⟨oc, od, .func (fnX "__init__" "BadEdit.__init__" (fnArgs s_BadEdit___init) (fnBody s_BadEdit___init) (fnScope s_BadEdit___init) [("__class__", cc)] .none .none doc pm an (.ref cda) ct), osl⟩ ∧ codeIn K (.ref cda) "BadEdit.__init__" = true ∧
    K.lookup cc = some ⟨cl, cld, .cell (some (.ref C)), csl⟩ ∧ K.lookup cda = some ⟨ccl, cdd, .fields vs, ccs⟩ ∧ vs[2]? = some (.str file tf) ∧ ((P.main.file : Str) == file) = true
/-- what __init__ leaves of a fresh exception at x -/
structure Left (h h' : Heap) (x C dx t1 : Addr) (v : Value) : Prop where
  keep : ∀ b o, b ≠ x → h.get? b = some o → h'.get? b = some o
  obj : h'.get? x = some { cls := .ref C, dict := some dx, data := .fields #[.ref t1, .none, .none, .none, .bool false, .none] }
  dbig : h.objs.size ≤ dx
  dne : dx ≠ x
  ns : h'.Ns1 dx (fun y => if y = "what" then some v else none)
section
variable {prog : Program} {w : World} {A : Around} {E : Value → Shared → Prop} {R : Result → Shared → Prop} {s : Shared} {K : Frag} {mg mb : Str → Option Value} {C fI : Addr} {nm : Str}
/-- such an __init__, run on a fresh exception -/
theorem init (T : Txt prog K mg nm C fI) {x t0 : Addr} {v : Value} (X : K.In s.heap) (hlim : s.heap.NoLimit) (hmg : s.heap.Ns mainGlobals mg) (hmb : s.heap.Ns builtinsNs mb) (hsu : mb "super" = some (.type "super"))
    (hx : s.heap.get? x = some (excO C t0)) (hnx : K.lookup x = none) (hroom : A.depth < recursionLimit)
    (hq : ∀ h' tk dx t1, Left s.heap h' x C dx t1 v → R (.ok (.ret .none)) { s with heap := h', toks := tk }) :
    codeAny (model prog w) A (.call (.ref fI) ⟨[.ref x, v], []⟩) R s := by
  obtain ⟨oc, od, doc, pm, an, cda, ct, osl, cc, cl, cld, csl, ccl, cdd, vs, ccs, file, tf, ho, hcd, hcc, hcda, hvs, hfile⟩ := T.fn
  obtain ⟨nmC, q, N, bs, bm, sn, sub, ab, col, dd, k0, k1, k2, k3, k5, hC, hbm⟩ := T.cls
  have hcl : clsIn K C = some { name := nmC, bases := bs, mro := .ref C :: bm, ns := N, qualname := q, hasDict := true, slotNames := sn, subclasses := sub, abstract := ab, collection := col, hasDel := false } := by unfold clsIn; rw [hC] <;> rfl
  have hal := T.along
  unfold ks_superIn at hal
  rw [hcl] at hal
  have hxC : x ≠ C := fun z => by rw [z, hC] at hnx; cases hnx
  refine ks_codeAny_call_defAt (fd := fnX "__init__" "BadEdit.__init__" (fnArgs s_BadEdit___init) (fnBody s_BadEdit___init) (fnScope s_BadEdit___init) [("__class__", cc)] .none .none doc pm an (.ref cda) ct) (binds := [("self", .ref x), ("what", v)]) hroom (X _ _ ho) rfl hlim
    (codeRec_of X hcd) rfl ?hb ?hcell ?hloc (fun h₁ hns k => ?_) rfl rfl rfl
  case hb => exact BindsTo.of_eq (by first | rfl | with_unfolding_all rfl)
  case hcell =>
    show ∀ x ∈ (fnScope s_BadEdit___init).names, x.2 ≠ .cell
    decide +kernel
  case hloc =>
    intro y hy
    rcases List.mem_cons.mp hy with rfl | hy
    · first | rfl | kernel_rfl
    · rw [List.mem_singleton.mp hy]
      first | rfl | kernel_rfl
  have X1 : K.In h₁ := X.keeps k
  have hx1 := k _ _ hx
  have hxL : s.heap.objs.size ≠ x := Nat.ne_of_gt (Heap.lt_size hx)
  show PySem.wpAt _ (A.deeper (ksEnv "BadEdit.__init__" (fnScope s_BadEdit___init) s.heap.objs.size fI (.ref cda) cc)) (.func (fnBody s_BadEdit___init) (ksEnv "BadEdit.__init__" (fnScope s_BadEdit___init) s.heap.objs.size fI (.ref cda) cc)) (execs (fnBody s_BadEdit___init) (ksEnv "BadEdit.__init__" (fnScope s_BadEdit___init) s.heap.objs.size fI (.ref cda) cc)) _ _ _
  refine ks_wpAt_execs_cons (ks_wpAt_Expr_any (ks_wpAt_MethodCall ?_))
  obtain ⟨arS, har, hars⟩ : ∃ ar, ((fnArgs s_BadEdit___init).posonlyargs ++ (fnArgs s_BadEdit___init).args).head? = some ar ∧ ar.arg = "self" := ⟨_, rfl, rfl⟩
  refine ks_wpAt_super_base (f := fI) (cc := cda) (file := file) (tf := tf) (vs := vs) (ar := arS) rfl rfl (by decide) rfl (X1 _ _ ho) rfl har rfl (X1 _ _ hcda) rfl hvs hfile T.top ?_
  refine ks_loadName_global rfl rfl (loadGlobal_builtin (hmg.keeps k) T.noS (hmb.keeps k) hsu ⟨rfl, ?_⟩)
  refine wpAny_loadName_free rfl rfl (c := cc) rfl ⟨_, X1 _ _ hcc, rfl⟩ ?_
  rw [hars]
  refine wpAny_loadName_local rfl rfl hns (v := .ref x) ?_ ?_
  · first | rfl | with_unfolding_all rfl | kernel_rfl
  refine ks_wpAny_isType_cls (X1 _ _ hC) rfl ⟨rfl, ?_⟩
  refine ks_wpAny_call_super (X1 _ _ hC) rfl hx1 rfl (fun c e => by cases e) (looks_mroIn X1 T.mroC) (fun h2 e2 g2 => ?_)
  have X2 : K.In h2 := X1.keeps g2
  have hx2 := g2 _ _ hx1
  have hI : InstAt h2 x (excO C t0) C none := ⟨hx2, rfl, rfl, trivial⟩
  refine kxs_getMethod kxs_ValueError e2 (looks_opaque X2 T.opq) (l₀ := .ref C :: bm) ((looks_clsIn X2 hcl).andThen .now) rfl X2 hal (hI.type.andThen (looks_subIn X2 T.veC)) hxC (by decide) ?_
  have up3 : ∀ b o, h2.get? b = some o → (h2.push (kxs_mw "ValueError.__init__" x)).get? b = some o := fun b o e => Heap.get?_push_of_some _ e
  have hw3 : (h2.push (kxs_mw "ValueError.__init__" x)).get? h2.objs.size = some (kxs_mw "ValueError.__init__" x) := Heap.get?_push_at rfl rfl
  generalize h2.push (kxs_mw "ValueError.__init__" x) = h3 at *
  refine kxs_callWith1 (u := h2.objs.size) (i := "ValueError.__init__") (x := x) (h₀ := h2) (L := x) (news := [(h2.objs.size, kxs_mw "ValueError.__init__" x)]) (fun p hp => ?_) (by simp) ?_
  · rw [List.mem_singleton] at hp
    subst hp
    exact ⟨hw3, fun z => absurd (Heap.lt_size hx2) (by rw [← show h2.objs.size = x from z]; exact Nat.lt_irrefl _), by
      cases e : h2.get? h2.objs.size with
      | none => rfl
      | some o => exact absurd (Heap.lt_size e) (Nat.lt_irrefl _)⟩
  refine PyProof.Rows.spliced_more (wpAny_Constant_str (PyProof.Rows.spliced_none ⟨hw3, ?_⟩))
  refine wpAny_call (codeAny_of_tree ?_)
  show wpAny _ _ (callAny (.ref h2.objs.size) ⟨[_], []⟩) _ _ _
  have hmwT : (Value.type "method-wrapper" == Value.type "method" || Value.type "method-wrapper" == Value.type "builtin_function_or_method" || Value.type "method-wrapper" == Value.type "method-wrapper") = true := by decide
  simp only [callAny]
  refine wpAny_bind (wpAny_load hw3 ?_)
  simp only [kxs_mw, hmwT, if_true]
  have X3 : K.In h3 := X2.keeps up3
  have hx3 := up3 _ _ hx2
  refine KFB.if_so (by decide) (wpAny_bind (check_bound_init F.excBase_ValueError.toExcCallFacts (X3 _ _ hC) hx3 rfl (wpAny_bind (wpAny_pure (wpAny_pure ⟨plainId_quiet F.excBase_ValueError.init.plain _, codeAny_builtin F.excBase_ValueError.initEntry ?_⟩)))))
  refine exc_init_tree (cls := .ref C) (t0 := t0) (dv := none) (c2 := .none) (c3 := .none) (b4 := .bool false) hx3 (by show 1 ≤ sizeLine; decide) (fun h4 k4 hx4 _ => ?_)
  have X4 : K.In h4 := fun a o e => k4 a o (fun z => by rw [z, hnx] at e; cases e) (X3 a o e)
  have old : ∀ b o, b ≠ x → h₁.get? b = some o → h4.get? b = some o := fun b o hb e => k4 b o hb (up3 b o (g2 b o e))
  have hns4 := hns.at (h' := h4) fun o e => old _ o hxL e
  refine wpAt_of_wpAny (wpAny_execs_cons (plainObj_wpAny_Assign_Attribute (wpAny_Name (wpAny_loadName_local rfl rfl hns4 (v := v) ?_ (wpAny_Name (wpAny_loadName_local rfl rfl hns4 (v := .ref x) ?_ ?_))))))
  · first | rfl | with_unfolding_all rfl | kernel_rfl
  · first | rfl | with_unfolding_all rfl | kernel_rfl
  refine set_plain X4 (ox := excO C h3.objs.size) (od := none) ⟨hx4, rfl, rfl, trivial⟩ T.sa ?_
  refine exc_osa X4 hx4 hcl (show refsVE (.ref C :: bm) = true from hbm) rfl T.noN (fun h5 tk5 dx k5 dn dne hx5 hn5 => wpAny_execs_nil (hq h5 tk5 dx _ ⟨fun b o hb e => k5 b o hb (old b o hb (k b o e)), hx5, ?_, dne, hn5⟩))
  exact Nat.le_of_lt (Nat.lt_of_lt_of_le hns4.lt dn)
/-- a made one -/
structure Made (h h' : Heap) (e C d : Addr) (v : Value) : Prop where
  keep : ∀ b o, h.get? b = some o → h'.get? b = some o
  new : h.objs.size ≤ e
  obj : ∃ oe vs, h'.get? e = some oe ∧ oe.cls = .ref C ∧ oe.dict = some d ∧ oe.data = .fields vs ∧ vs[1]? = some .none
  dbig : h.objs.size ≤ d
  dne : d ≠ e
  ns : h'.Ns1 d (fun y => if y = "what" then some v else none)
theorem made (T : Txt prog K mg nm C fI) {v : Value} (X : K.In s.heap) (hlim : s.heap.NoLimit) (hmg : s.heap.Ns mainGlobals mg) (hmb : s.heap.Ns builtinsNs mb) (hsu : mb "super" = some (.type "super")) (hroom : A.depth + 1 < recursionLimit)
    (hq : ∀ h' tk e d, Made s.heap h' e C d v → R (.ok (.ret (.ref e))) { s with heap := h', toks := tk }) : codeAny (model prog w) A (.call (.ref C) ⟨[v], []⟩) R s := by
  obtain ⟨nmC, q, N, bs, bm, sn, sub, ab, col, dd, k0, k1, k2, k3, k5, hC, hbm⟩ := T.cls
  obtain ⟨hp, g, dr, tk, os⟩ := s
  have up : ∀ b o, hp.get? b = some o → ((hp.push (kdv_tup [v])).push (excO C hp.objs.size)).get? b = some o := fun b o e => Heap.get?_push_of_some _ (Heap.get?_push_of_some _ e)
  have at2 : ((hp.push (kdv_tup [v])).push (excO C hp.objs.size)).get? (hp.objs.size + 1) = some (excO C hp.objs.size) := by heap_get
  have none2 : K.lookup (hp.objs.size + 1) = none := by
    cases e : K.lookup (hp.objs.size + 1) with
    | none => rfl
    | some o => exact absurd (Nat.lt_of_succ_lt (Heap.lt_size (show hp.get? (hp.objs.size + 1) = some o from X _ _ e))) (Nat.lt_irrefl _)
  refine call_own F.excBase_ValueError (fun Y => refsVE_contains Y bm hbm) (X _ _ hC) (looks_findIn X T.iC) (fun self => bind_fn X self T.tC) (by show 1 ≤ sizeLine; decide) ?_
  refine init (s := ⟨(hp.push (kdv_tup [v])).push (excO C hp.objs.size), g, dr, tk, os⟩) T (X.keeps up) (hlim.keeps up) (hmg.keeps up) (hmb.keeps up) hsu at2 none2 ?_ fun h' tk' dx t1 L => ⟨rfl, ?_⟩
  · show A.depth + 1 < recursionLimit
    exact hroom
  · have big : hp.objs.size + 1 + 1 ≤ dx := by
      have z := L.dbig
      rw [Heap.size_push, Heap.size_push] at z
      exact z
    exact hq h' tk' (hp.objs.size + 1) dx ⟨fun b o e => L.keep b o (Nat.ne_of_lt (Nat.lt_succ_of_lt (Heap.lt_size e))) (up b o e), Nat.le_succ _, ⟨_, _, L.obj, rfl, rfl, rfl, rfl⟩, Nat.le_trans (Nat.le_trans (Nat.le_succ _) (Nat.le_succ _)) big, L.dne, L.ns⟩
end
/-! the rules -/
theorem relO_fld {v : V} {u : Value} (r : RelV v u) (f : Str) : RelO (List.lookup f [(("what" : Str), v)]) (if f = "what" then some u else none) := by
  by_cases h : f = "what"
  · subst h
    have q : List.lookup ("what" : Str) [(("what" : Str), v)] = some v := by simp [List.lookup]
    rw [q, if_pos rfl]
    exact r
  · have e : (f == ("what" : Str)) = false := by simpa using h
    rw [if_neg h]
    simp [List.lookup, e]
    trivial
/-- BadEdit(e), raised -/
def tMkE (C : Addr) (ta : TA) : L2.St → Hp → XK → Prop := fun σ H Q => ta σ H fun vs H1 => ∃ v, vs = [v] ∧ ∀ d, H1 d = none → Q (.ref C) (some d) (upd H1 d (.xd [(("what" : Str), v)]))
section
variable {X : Cx} {C fI : Addr} {nm : Str}
theorem pmk {a : Expr} {ta : TA} {p pos : Pos} {k : Nat} (T : Txt X.prog X.K X.mg nm C fI) (hr : Room k X.A) (ha : PA X [a] ta) (hg : Gl X nm := by rfl) (hdb : (nm == ("__debug__" : Str)) = false := by decide)
    (he : starEach (a :: []) X.env = (false, eval a X.env) :: starEach [] X.env := by rfl) (hpl : (backTo pos (starEach [] X.env)).any (·.1) = false := by rfl) :
    PMk X (.Call (.Name nm p) [a] [] pos) (tMkE C ta) := by
  intro pins s σ H Q I h
  refine wpAny_Call_Name_kw (ld_glob I hg T.gC ?_ hdb)
  refine PySem.W.callWith_K (h₀ := X.base) I.ok.mod.kin T.kC (thn (ha.run pos pins s σ H _ I h) fun us s1 hh => ?_) he hpl
  obtain ⟨vs, H1, I1, r1, v, ev, q1⟩ := hh
  subst ev
  refine ⟨I1.kIn, ?_⟩
  cases r1 with
  | cons rv rn =>
    rename_i u us'
    cases rn
    show wpAny _ _ (call (.ref C) [u]) _ _ _
    have lim := I1.nolimit
    obtain ⟨mb, hmb1, hmb2⟩ := I1.mod.blt
    have hg1 := I1.mod.glob.keeps I1.bk
    have hb1 := hmb1.keeps I1.bk
    have hsu : mb "super" = some (.type "super") := (hmb2 _ (by decide)).trans (by decide +kernel)
    obtain ⟨hp, g, dr, tk, os⟩ := s1
    refine wpAny_call (made (mb := mb) T I1.kIn lim hg1 hb1 hsu (by have := hr.dp; omega) fun h' tk' e d M => ?_)
    show MkP X pins σ Q (.ref e) ⟨h', g, dr, tk', os⟩
    obtain ⟨oe, fv, hoe, hc, hd, hdat, h1⟩ := M.obj
    obtain ⟨G', g1, g2⟩ := restrict h' fun b => decide (b ≠ e)
    have there : ∀ b, b ≠ e → G'.get? b = h'.get? b := fun b hb => g1 b (decide_eq_true hb)
    have gone : G'.get? e = none := g2 e (by simp)
    have J : Inv X pins σ (upd H1 d (.xd [(("what" : Str), v)])) ⟨G', g, dr, tk', os⟩ := I1.laid (t' := tk') (fun b o q => (there b (Nat.ne_of_lt (Nat.lt_of_lt_of_le (Heap.lt_size q) M.new))).trans (M.keep b o q)) M.dbig
      ⟨_, M.ns.at (fun o q => (there d M.dne).trans q), fun f => relO_fld rv f⟩
    refine ⟨e, oe, fv, ⟨G', g, dr, tk', os⟩, _, .ref C, some d, rfl, J, fun b o q => ?_, gone, hoe, ⟨hc, hd⟩, hdat, h1, ?_, rfl, I1.bare, raises_own T.exC T.tyC, q1 d (I1.hok.fresh M.dbig)⟩
    · by_cases hb : b = e
      · have q' : G'.get? b = some o := q
        rw [hb, gone] at q'; cases q'
      · exact (there b hb).symm.trans q
    · rw [upd_ne (Ne.symm M.dne)]
      exact I1.hok.fresh M.new
/-- raise BadEdit(e) -/
def tRaiseE (C : Addr) (W : WX) (ta : TA) : TS := fun _ σ H => tMkE C ta σ H fun cls d H' => W cls d σ H'
theorem ps_raiseE {a : Expr} {ta : TA} {W : WX} {p pos pos2 : Pos} {k : Nat} (hc : X.calm = true) (T : Txt X.prog X.K X.mg nm C fI) (hr : Room k X.A) (tk : Takes X W) (ha : PA X [a] ta) (hg : Gl X nm := by rfl) (hdb : (nm == ("__debug__" : Str)) = false := by decide)
    (he : starEach (a :: []) X.env = (false, eval a X.env) :: starEach [] X.env := by rfl) (hpl : (backTo pos (starEach [] X.env)).any (·.1) = false := by rfl) :
    PS X (.Raise (some (.Call (.Name nm p) [a] [] pos)) none pos2) (tRaiseE C W ta) := ps_raise hc tk (pmk T hr ha hg hdb he hpl)
end
end SupX_BadEdit

namespace My
open PySem L2 C8 SX
end My
/-! isinstance(e, ..) of a caught error of an own class that has its dict -/
namespace ExIs
open PySem PySem.W PySem.Spec PySem.Calls PyProof.Rows
/-- what the class at D must say -/
structure ErrC (K : Frag) (D : Addr) : Prop where
  ga : findIn K (.ref D) "__getattribute__" = some (some (.builtin "BaseException.__getattribute__"))
  gg : findIn K (.ref D) "__getattr__" = some none
  exC : subIn K (.ref D) (.type "BaseException") = some true
  hdC : hasDictIn K D = true
  ca : findIn K (.ref D) "__class__" = some (some (.builtin "object.__class__"))
  sp : specialIn K (.builtin "object.__class__") "__get__" = some (some (.builtin "getset_descriptor.__get__"))
  tk : takesIn K (.builtin "object.__class__") = some true
  mo : mroIn K D (.type "object") = some true
theorem ErrC.clsThere {K : Frag} {D : Addr} (T : ErrC K D) : ∃ cd, clsIn K D = some cd := by
  obtain ⟨cd, hc, _⟩ := any_some T.hdC
  exact ⟨cd, hc⟩
theorem ErrC.binds {K : Frag} {D : Addr} (T : ErrC K D) (od : Option Obj) : findObj K D od "__class__" = some (.bind (.builtin "getset_descriptor.__get__") (.builtin "object.__class__")) := by
  obtain ⟨cd, hcd⟩ := T.clsThere
  have e1 := T.ca
  have e2 := T.sp
  have e3 := T.tk
  unfold findObj
  rw [hcd, Option.bind_some, e1, Option.bind_some]
  simp [e2, e3]
section
variable {prog : Program} {w : World} {A : Around} {E : Value → Shared → Prop} {s : Shared} {K : Frag} {x D : Addr} {ox : Obj} {od : Option Obj}
theorem askClass {Q : Option Value → Shared → Prop} (T : ErrC K D) (X : K.In s.heap) (I : InstAt s.heap x ox D od) (h : Q (some (.ref D)) { s with toks := s.toks + 1 }) : wpAny (model prog w) A (getAttr? (.ref x) "__class__") Q E s := by
  obtain ⟨hp, gs, dr, tok, os⟩ := s
  have ty := I.type (M := model prog w)
  have lga := looks_findIn (M := model prog w) X T.ga
  have lgg := looks_findIn (M := model prog w) X T.gg
  have lcl := looks_find (M := model prog w) X I (T.binds od)
  have isB : Looks (model prog w) hp (isInstance (.ref x) (.type "BaseException")) true := ty.andThen (looks_subIn X T.exC)
  have nq : (Value.builtin "BaseException.__getattribute__" == Value.builtin "object.__getattribute__") = false := by decide +kernel
  unfold getAttr? getAttrBy? getAttrBy
  refine wpAny_bind (wpAny_mkText (wpAny_bind (wpAny_attempt (wpAny_holding (wpAny_bind (ty.at (wpAny_bind (lga.at (?goal : _))))))))) 
  show wpAny _ _ (ite ((onTheHeap (Value.ref D) && Value.builtin "BaseException.__getattribute__" == Value.builtin "object.__getattribute__") = true) _ _) _ _ _
  rw [if_neg (by rw [nq]; simp)]
  unfold getAttrByItsOwn hookBefore
  refine wpAny_bind (?g2 : _)
  have onH : onTheHeap (Value.ref D) = true := rfl
  rw [if_pos onH]
  refine lgg.at (wpAny_bind (wpAny_attempt (wpAny_holding (?g3 : _))))
  unfold callGetattribute
  rw [if_neg (by simp)]
  unfold boundAndCalled
  rw [PySem.F.excAttr_ValueError.ga.bind (.ref x)]
  refine wpAny_bind (wpAny_pure (?g4 : _))
  show wpAny _ _ (call (.builtin "BaseException.__getattribute__") [.ref x, .str "__class__" tok]) _ _ _
  refine wpAny_call (codeAny_call_builtin PySem.F.excAttr_ValueError.ga.plain PySem.F.entry_bexc_ga (@check_slot (model prog w) _ _ ⟨hp, gs, dr, tok + 1, os⟩ "BaseException.__getattribute__" "BaseException" "__getattribute__" (.ref x) [.str "__class__" tok] [] _ (by decide +kernel) (by decide +kernel) isB
    (PySem.F.args_bexc_ga (.ref x) (.str "__class__" tok)) (?g5 : _)))
  unfold Builtin.«object.__getattribute__»
  refine wpAny_bind (wpAny_of_eq (a := ((Value.ref x : Value), [Value.str "__class__" tok])) (by first | rfl | (simp only [slotArgs]; rfl)) (wpAny_bind (wpAny_pure (wpAny_bind (ty.at (wpAny_bind (lcl.at (?g6 : _))))))))
  show wpAny _ _ (holding [Value.builtin "object.__class__"] (call (.builtin "getset_descriptor.__get__") [.builtin "object.__class__", .ref x, .ref D]) >>= ret) _ _ _
  refine wpAny_bind (wpAny_holding (wpAny_call (class_get (s := ⟨hp, gs, dr, tok + 1, os⟩) (ox := ox) (od := od) X I T.mo (wpAny_pure (?g7 : _)))))
  show wpAny _ _ (handedOut (.ref D)) _ _ _
  rw [handedOut_of (v := .ref D) rfl]
  first | exact wpAny_pure (wpAny_pure h) | exact wpAny_pure h | exact wpAny_pure (wpAny_bind (wpAny_pure (wpAny_pure h)))
theorem kit (T : ErrC K D) : KitX K (.ref x) (.ref D) (fun h => InstAt h x ox D od) where
  ty := fun _ _ _ I => I.type
  it := fun _ _ X _ => by
    obtain ⟨cd, hcd⟩ := T.clsThere
    unfold clsIn at hcd
    split at hcd
    · rename_i c' d' cd' sl' ho
      intro A' Q' E' s' k q
      unfold isType loadHead
      exact wpAny_bind (wpAny_loadPart (k _ _ (X _ _ ho)) (wpAny_pure q))
    · cases hcd
  ne := fun h tp dd its n sl X htp => Bool.eq_false_iff.mpr fun q => by
    obtain ⟨cd, hcd⟩ := T.clsThere
    have e : D = tp := Value.ref.inj (beq_iff_eq.mp q)
    subst e
    unfold clsIn at hcd
    split at hcd
    · rename_i c' d' cd' sl' ho
      cases (X _ _ ho).symm.trans htp
    · cases hcd
  ca := fun X I k => askClass T X I k
end
end ExIs
namespace L2
open PySem PySem.Spec PyProof.Rows
theorem inst_of {X : Cx} {pins : List (Addr × Obj)} {σ : L2.St} {H : Hp} {s : Shared} {a D dd : Addr} {oe : Obj} {pn : List (Addr × Obj)} {fs : List (Str × V)} (I : Inv (X.suite a ((a, oe) :: pn)) pins σ H s) (hz : Zc (.ref D) (some dd) oe) (hf : ∃ vs, oe.data = .fields vs) (he : H dd = some (.xd fs)) :
    ∃ od, PySem.W.InstAt s.heap a oe D (some od) := by
  obtain ⟨ha, _⟩ := I.pin (a, oe) (List.mem_append_left _ List.mem_cons_self)
  obtain ⟨vs, hd⟩ := hf
  have hx : ObjOk X.prog X.w H s.heap dd (.xd fs) := I.hok dd _ he
  obtain ⟨mA, hns, _⟩ := hx
  obtain ⟨od, ho, _⟩ := lookIn_ns hns
  exact ⟨od, ha, hz.1, by unfold PySem.W.notCls; rw [hd] <;> rfl, by rw [hz.2]; exact ho⟩
/-- isinstance(e, C), e the caught exception -/
def rIsX (K : PySem.W.Frag) (a : Addr) (cls : Value) (d : Option Addr) : List V → Hp → VK → Prop := fun xs H Q => ∃ (D C dd : Addr) (fs : List (Str × V)) (b : Bool), xs = [.ref a, .ref C] ∧ cls = .ref D ∧ d = some dd ∧ ExIs.ErrC K D ∧ H dd = some (.xd fs) ∧ PySem.W.kitOne K (.ref D) (.ref C) = some b ∧ Q (.bl b) H
theorem call_isX {X : Cx} {a : Addr} {cls : Value} {d : Option Addr} {oe : Obj} {pn : List (Addr × Obj)} (hz : Zc cls d oe) (hf : ∃ vs, oe.data = .fields vs) : CallR (X.suite a ((a, oe) :: pn)) (.builtin "isinstance") (rIsX X.K a cls d) := by
  intro pins s σ H xs us Q I r h
  obtain ⟨D, C, dd, fs, b, rfl, rfl, rfl, T, hx, e, q⟩ := h
  obtain ⟨u1, u2, rfl, r1, r2⟩ := vals2 r
  cases (show u1 = Value.ref a from r1)
  cases (show u2 = Value.ref C from r2)
  obtain ⟨od, J⟩ := inst_of I hz hf hx
  exact PySem.W.kia_one (ExIs.kit T) I.kIn J e (fun z => nomatch z) fun tk => ⟨.bl b, H, I.tok tk, rfl, q⟩
theorem crefs_of {cs : List Addr} {its : List Value} (h : Vals (cs.map V.ref) its) : its = cs.map Value.ref := by
  induction cs generalizing its with
  | nil => cases h; rfl
  | cons c cs ih =>
    cases h with
    | cons h1 h2 => rw [ih h2]; cases (show _ = Value.ref c from h1); rfl
/-- isinstance(e, (C1, ..)) -/
def rIsXT (K : PySem.W.Frag) (a : Addr) (cls : Value) (d : Option Addr) : List V → Hp → VK → Prop := fun xs H Q => ∃ (D tp dd : Addr) (cs : List Addr) (fs : List (Str × V)) (b : Bool), xs = [.ref a, .ref tp] ∧ cls = .ref D ∧ d = some dd ∧ ExIs.ErrC K D ∧ H dd = some (.xd fs) ∧ H tp = some (.tup (cs.map V.ref)) ∧
  PySem.W.kitAny K (.ref D) (cs.map Value.ref) = some b ∧ Q (.bl b) H
theorem call_isXT {X : Cx} {a : Addr} {cls : Value} {d : Option Addr} {oe : Obj} {pn : List (Addr × Obj)} (hz : Zc cls d oe) (hf : ∃ vs, oe.data = .fields vs) : CallR (X.suite a ((a, oe) :: pn)) (.builtin "isinstance") (rIsXT X.K a cls d) := by
  intro pins s σ H xs us Q I r h
  obtain ⟨D, tp, dd, cs, fs, b, rfl, rfl, rfl, T, hx, hT, e, q⟩ := h
  obtain ⟨u1, u2, rfl, r1, r2⟩ := vals2 r
  cases (show u1 = Value.ref a from r1)
  cases (show u2 = Value.ref tp from r2)
  obtain ⟨od, J⟩ := inst_of I hz hf hx
  obtain ⟨_, its, rv, o, h1, h2, n, h3⟩ := (show ObjOk X.prog X.w H s.heap tp (.tup (cs.map V.ref)) from I.hok tp _ hT)
  have e3 := crefs_of rv
  subst e3
  obtain ⟨oc, od2, dt, sl⟩ := o
  simp only at h2 h3
  subst h2 h3
  exact PySem.W.kia_tup (ExIs.kit T) I.kIn J h1 e (fun z => nomatch z) fun tk => ⟨.bl b, H, I.tok tk, rfl, q⟩
end L2
namespace My
open PySem L2 C8 SX

/-- what the walk asks of the module -/
structure Txt (K : PySem.W.Frag) (mg : Str → Option Value) (C_Game : Addr) (C_GameError : Addr) (C_BadText : Addr) (C_BadMove : Addr) (C_BadEdit : Addr) : Prop where
  n_abs : mg "abs" = none
  n_any : mg "any" = none
  n_enumerate : mg "enumerate" = none
  n_int : mg "int" = none
  n_isinstance : mg "isinstance" = none
  n_len : mg "len" = none
  n_range : mg "range" = none
  n_str : mg "str" = none
  n_sum : mg "sum" = none
  n_tuple : mg "tuple" = none
  cl_Game : Cls K C_Game
  m_Game : mg "Game" = some (.ref C_Game)
  i_Game : InsC K C_Game
  a_Game_options : NoAttr K C_Game "options"
  a_Game_variables : NoAttr K C_Game "variables"
  a_Game_rounds : NoAttr K C_Game "rounds"
  m_GameError : mg "GameError" = some (.ref C_GameError)
  m_BadText : mg "BadText" = some (.ref C_BadText)
  m_BadMove : mg "BadMove" = some (.ref C_BadMove)
  m_BadEdit : mg "BadEdit" = some (.ref C_BadEdit)
  e_BadEdit : ExIs.ErrC K C_BadEdit
  f_BadEdit : XfC K C_BadEdit
  no_BadEdit : PySem.W.findIn K (.ref C_BadEdit) "what" = some none
  x_BadEdit : PySem.W.exmOne K (.ref C_BadEdit) (.ref C_BadEdit) = some true
  nG : PySem.W.findIn K (.ref C_Game) "__ne__" = some (some (.builtin "object.__ne__"))
  mG : PySem.W.mroIn K C_Game (.type "object") = some true
  gE : PySem.W.subIn K (.ref C_GameError) (.type "BaseException") = some true
  gH : PySem.W.hasDictIn K C_GameError = true
  gT : PySem.W.typeIn K (.ref C_GameError) = some (.type "type")
  gS : PySem.W.subIn K (.ref C_BadEdit) (.ref C_GameError) = some true
  kX : PySem.W.kitAny K (.ref C_BadEdit) [.ref C_BadMove, .ref C_BadText] = some false
  ok : True
/-! defs that raise: their promise, their calls (in a def that raises, in a try) -/
structure CalX (P : Program) (w : World) (K : PySem.W.Frag) (mg : Str → Option Value) (base : Heap) (k : Nat) (x : Str) (sp : Sp) (dvs : List V) : Prop where
  ex : ∃ (f : Addr) (fd : FuncData) (ps : List Str) (ds : List Value), FnOk P w K mg base (L2.CX P w) k f fd ps sp ∧ mg x = some (.ref f) ∧ PySem.W.keepIn K (.ref f) = true ∧ Binds K fd ps ds ∧ Vals dvs ds
/-- .. called with keywords -/
structure CalXK (P : Program) (w : World) (K : PySem.W.Frag) (mg : Str → Option Value) (base : Heap) (k : Nat) (x : Str) (sp : Sp) (n : Nat) (ks : List Str) (gV : List V → List V → List V) : Prop where
  ex : ∃ (f : Addr) (fd : FuncData) (ps : List Str) (g : List Value → List Value → List Value), FnOk P w K mg base (L2.CX P w) k f fd ps sp ∧ mg x = some (.ref f) ∧ PySem.W.keepIn K (.ref f) = true ∧ KBn K fd ps n ks g gV
structure MetX (P : Program) (w : World) (K : PySem.W.Frag) (mg : Str → Option Value) (base : Heap) (k : Nat) (C : Addr) (m : Str) (sp : Sp) (dvs : List V) : Prop where
  ex : ∃ (f : Addr) (fd : FuncData) (ps : List Str) (ds : List Value), Cls K C ∧ Meth K C m f ∧ FnOk P w K mg base (L2.CX P w) k f fd ps sp ∧ Binds K fd ps ds ∧ Vals dvs ds
section
variable {P : Program} {w : World} {K : PySem.W.Frag} {mg : Str → Option Value} {base : Heap}
theorem fnx {x qual : Str} {st : Stmt} {f : Addr} {fd : FuncData} {N ps : List Str} {k : Nat} {sp : Sp} (F : C8.Fun K x qual st f fd) (S : FnScope N ps (fnScope st)) (len : ∀ vs H Q E, sp vs H Q E → vs.length = ps.length)
    (hbody : ∀ (cdv : Value) (A : Around) (outer : List Env) (s : Shared) (H : Hp) (vs : List V) (Q : VK) (E : XK), Room k (A.deeper (PyProof.Rows.envOfC qual (fnScope st) s.heap.objs.size f cdv)) → sp vs H Q E →
      ∃ t, PSs (cxOf (L2.CX P w) P w K mg base N qual (fnScope st) f cdv A outer s H E) (fnBody st) t ∧ t { nx := fun _ H' => Q .non H', rt := Q } (start N vs) H) : FnOk P w K mg base (L2.CX P w) (k + 1) f fd ps sp := by
  obtain ⟨oc, od, dV, kV, doc, pm, an, cdv, ct, osl, rfl, lk, hcd⟩ := F.ex
  exact fn_of lk hcd S len fun A outer s H vs Q E hr hsp => hbody cdv A outer s H vs Q E hr hsp
theorem CalX.of {x : Str} {st : Stmt} {f : Addr} {fd : FuncData} {ps : List Str} {ds : List Value} {dvs : List V} {k : Nat} {sp : Sp} (F : C8.Def K mg x st f fd) (ok : FnOk P w K mg base (L2.CX P w) k f fd ps sp) (b : Binds K fd ps ds) (d : Vals dvs ds) : CalX P w K mg base k x sp dvs :=
  ⟨f, fd, ps, ds, ok, F.mgf, F.kp, b, d⟩
end
section
variable {X : Cx} {k j n : Nat} {C : Addr} {x m : Str} {sp : Sp} {dvs : List V} {p pos apos : Pos} {e o : Expr} {es : List Expr} {ta : TE} {t tk : TA} {E : XK} {W : WX} {ks : List Str} {gV : List V → List V → List V} {kws : List Keyword}
/-- called in a def that lets out what E says -/
theorem pe_cX (c : CalX X.prog X.w X.K X.mg X.base k x sp dvs) (hr : Room j X.A) (hk : k ≤ j) (hg : Gl X x) (hx : Passes (L2.CX X.prog X.w) X E) (ha : PA X (e :: es) t)
    (hdb : (x == ("__debug__" : Str)) = false := by decide) (he : starEach (e :: es) X.env = (false, eval e X.env) :: starEach es X.env := by rfl) (hpl : (backTo pos (starEach es X.env)).any (·.1) = false := by rfl) :
    PE X (.Call (.Name x p) (e :: es) [] pos) (tCall sp dvs E t) := by
  obtain ⟨f, fd, ps, ds, F, hm, kp, b, d⟩ := c.ex
  exact pe_call F (hr.mono hk) hg hm kp b d hx ha hdb he hpl
/-- called in a try -/
theorem pe_cS (c : CalX X.prog X.w X.K X.mg X.base k x sp dvs) (hr : Room j X.A) (hk : k ≤ j) (hg : Gl X x) (tk : Takes X W) (ha : PA X (e :: es) t)
    (hdb : (x == ("__debug__" : Str)) = false := by decide) (he : starEach (e :: es) X.env = (false, eval e X.env) :: starEach es X.env := by rfl) (hpl : (backTo pos (starEach es X.env)).any (·.1) = false := by rfl) :
    PE X (.Call (.Name x p) (e :: es) [] pos) (tCallSD sp dvs (WE W) t) := by
  obtain ⟨f, fd, ps, ds, F, hm, kp, b, d⟩ := c.ex
  exact pe_callSD F (hr.mono hk) hg hm kp b d (fun σ => passAt tk σ) ha hdb he hpl
def tCallSK (sp : Sp) (n : Nat) (ks : List Str) (gV : List V → List V → List V) (E : L2.St → XK) (t tk : TA) : TE := fun σ H Q => t σ H fun vs H1 => tk σ H1 fun zs H2 => vs.length = n ∧ zs.length = ks.length ∧ sp (gV vs zs) H2 Q (E σ)
/-- called in a try, with keywords -/
theorem pe_cKS (c : CalXK X.prog X.w X.K X.mg X.base k x sp n ks gV) (hr : Room j X.A) (hk : k ≤ j) (hg : Gl X x) (tw : Takes X W) (ha : PA X (e :: es) t) (hkw : PK X kws tk)
    (hall : (backToKw pos (keywordEach kws X.env)).all (·.1.isSome) = true := by rfl) (hks : (backToKw pos (keywordEach kws X.env)).filterMap (·.1) = ks := by rfl)
    (hdb : (x == ("__debug__" : Str)) = false := by decide) (he : starEach (e :: es) X.env = (false, eval e X.env) :: starEach es X.env := by rfl)
    (hpl : ((backTo pos (starEach (e :: es) X.env)).any (·.1) || (backToKw pos (keywordEach kws X.env)).any (·.1.isNone)) = false := by rfl) :
    PE X (.Call (.Name x p) (e :: es) kws pos) (tCallSK sp n ks gV (WE W) t tk) := by
  obtain ⟨f, fd, ps, g, F, hm, kp, b⟩ := c.ex
  refine ⟨fun pins s σ H Q I h => wpAny_Call_Name_kw (ld_glob I hg hm (PySem.W.callWith_KW (h₀ := X.base) I.ok.mod.kin kp hall (thn (ha.run pos pins s σ H _ I h) fun us s1 ⟨vs, H1, I1, r, q⟩ => ?_) hpl he) hdb)⟩
  refine thn (hkw.run pos pins s1 σ H1 _ I1 q) fun ws s2 ⟨zs, H2, I2, rz, l1, l2, q2⟩ => ⟨I2.kIn, ?_⟩
  rw [hks]
  have r2 := b.rel r rz
  refine wpAny_call (codeAny_mono (F.run X.A X.stack s2 H2 ⟨us, ks.zip ws⟩ (g us ws) (gV vs zs) Q (WE W σ) (hr.mono hk) I2.env0 (b.to s2 us ws I2.kIn (r.length.symm.trans l1) (rz.length.symm.trans l2)) r2 q2) fun r s' hq => ?_)
  cases r with
  | error er => exact passAt tw σ pins H2 s2 er s' I2 hq
  | ok fl =>
    cases fl with
    | ret u => exact I2.after hq
    | next => exact hq.elim
    | brk => exact hq.elim
    | cont => exact hq.elim
end

/-! properties, raising methods, calls with keywords -/
structure Prp (P : Program) (w : World) (K : PySem.W.Frag) (mg : Str → Option Value) (base : Heap) (k : Nat) (C : Addr) (f : Str) (sp : Sp) : Prop where
  ex : ∃ (p g : Addr) (fd : FuncData) (ps : List Str), Cls K C ∧ PropOf K C f p g ∧ FnOk P w K mg base C8.CX0 k g fd ps sp ∧ Binds K fd ps []
structure MakK (P : Program) (w : World) (K : PySem.W.Frag) (mg : Str → Option Value) (base : Heap) (k : Nat) (x : Str) (C : Addr) (sp : Sp) (n : Nat) (ks : List Str) (gV : List V → List V → List V) : Prop where
  ex : ∃ (f : Addr) (fd : FuncData) (ps : List Str) (g : List Value → List Value → List Value), Mk K C f ∧ FnOk P w K mg base C8.CX0 k f fd ps sp ∧ mg x = some (.ref C) ∧ KBn K fd ps (n + 1) ks g gV
section
variable {X : Cx} {k j n : Nat} {C : Addr} {x m f : Str} {sp : Sp} {dvs : List V} {p pos apos : Pos} {e o : Expr} {es : List Expr} {ta : TE} {t tk : TA} {E : XK} {W : WX} {ks : List Str} {gV : List V → List V → List V} {kws : List Keyword}
theorem pe_pr (c : Prp X.prog X.w X.K X.mg X.base k C f sp) (hr : Room j X.A) (hk : k + 1 ≤ j) (he : PE X e ta) (hab : attributeBase e f X.env (eval e X.env) = eval e X.env) : PE X (.Attribute e f pos) (tProp C sp [] C8.E0 ta) := by
  obtain ⟨p, g, fd, ps, hc, hp, F, b⟩ := c.ex
  exact pe_prop he hc hp F (hr.mono hk) b .nil C8.pass0 hab
theorem pe_mX {pl : Sem Bool} (c : MetX X.prog X.w X.K X.mg X.base k C m sp dvs) (hr : Room j X.A) (hk : k ≤ j) (hx : Passes (L2.CX X.prog X.w) X E) (he : PE X o ta) (ha : PA X (e :: es) t)
    (hst : starEach (e :: es) X.env = (false, eval e X.env) :: starEach es X.env := by rfl) (hpl : (backTo pos (starEach es X.env)).any (·.1) = false := by rfl)
    (ht : eval (.Call (.Attribute o m apos) (e :: es) [] pos) X.env = (do
      let ov ← eval o X.env
      standAt apos.atName
      let (f, first) ← holding [ov] (getMethod ov m pl)
      callWith pos f first (backTo pos (starEach (e :: es) X.env)) (backToKw pos (keywordEach [] X.env))) := by rfl) :
    PE X (.Call (.Attribute o m apos) (e :: es) [] pos) (tMeth C m sp dvs E ta t) := by
  obtain ⟨f, fd, ps, ds, hc, hm, F, b, d⟩ := c.ex
  exact pe_meth (pl := pl) he hc hm F (hr.mono hk) b d hx ha hst hpl ht
def tCallKX (sp : Sp) (n : Nat) (ks : List Str) (gV : List V → List V → List V) (E : XK) (t tk : TA) : TE := fun σ H Q => t σ H fun vs H1 => tk σ H1 fun zs H2 => vs.length = n ∧ zs.length = ks.length ∧ sp (gV vs zs) H2 Q E
/-- called with keywords, in a def that lets out what E says -/
theorem pe_cKX (c : CalXK X.prog X.w X.K X.mg X.base k x sp n ks gV) (hr : Room j X.A) (hk : k ≤ j) (hg : Gl X x) (hx : Passes (L2.CX X.prog X.w) X E) (ha : PA X (e :: es) t) (hkw : PK X kws tk)
    (hall : (backToKw pos (keywordEach kws X.env)).all (·.1.isSome) = true := by rfl) (hks : (backToKw pos (keywordEach kws X.env)).filterMap (·.1) = ks := by rfl)
    (hdb : (x == ("__debug__" : Str)) = false := by decide) (he : starEach (e :: es) X.env = (false, eval e X.env) :: starEach es X.env := by rfl)
    (hpl : ((backTo pos (starEach (e :: es) X.env)).any (·.1) || (backToKw pos (keywordEach kws X.env)).any (·.1.isNone)) = false := by rfl) :
    PE X (.Call (.Name x p) (e :: es) kws pos) (tCallKX sp n ks gV E t tk) := by
  obtain ⟨f, fd, ps, g, F, hm, kp, b⟩ := c.ex
  refine ⟨fun pins s σ H Q I h => wpAny_Call_Name_kw (ld_glob I hg hm (PySem.W.callWith_KW (h₀ := X.base) I.ok.mod.kin kp hall (thn (ha.run pos pins s σ H _ I h) fun us s1 ⟨vs, H1, I1, r, q⟩ => ?_) hpl he) hdb)⟩
  refine thn (hkw.run pos pins s1 σ H1 _ I1 q) fun ws s2 ⟨zs, H2, I2, rz, l1, l2, q2⟩ => ⟨I2.kIn, ?_⟩
  rw [hks]
  have r2 := b.rel r rz
  refine wpAny_call (codeAny_mono (F.run X.A X.stack s2 H2 ⟨us, ks.zip ws⟩ (g us ws) (gV vs zs) Q E (hr.mono hk) I2.env0 (b.to s2 us ws I2.kIn (r.length.symm.trans l1) (rz.length.symm.trans l2)) r2 q2) fun r s' hq => ?_)
  cases r with
  | error er => exact hx pins σ H2 s2 er s' I2 hq
  | ok fl =>
    cases fl with
    | ret u => exact I2.after hq
    | next => exact hq.elim
    | brk => exact hq.elim
    | cont => exact hq.elim
theorem pe_mkK (c : MakK X.prog X.w X.K X.mg X.base k x C sp n ks gV) (hr : Room j X.A) (hk : k + 1 ≤ j) (hg : Gl X x) (ha : PA X (e :: es) t) (hkw : PK X kws tk)
    (hall : (backToKw pos (keywordEach kws X.env)).all (·.1.isSome) = true := by rfl) (hks : (backToKw pos (keywordEach kws X.env)).filterMap (·.1) = ks := by rfl) (hdb : (x == ("__debug__" : Str)) = false := by decide)
    (he : starEach (e :: es) X.env = (false, eval e X.env) :: starEach es X.env := by rfl) (hpl : ((backTo pos (starEach (e :: es) X.env)).any (·.1) || (backToKw pos (keywordEach kws X.env)).any (·.1.isNone)) = false := by rfl) :
    PE X (.Call (.Name x p) (e :: es) kws pos) (tMakeK C n ks.length sp gV C8.E0 t tk) := by
  obtain ⟨f, fd, ps, g, M, F, hm, b⟩ := c.ex
  exact pe_makeK M F (hr.mono hk) hg hm b C8.pass0 ha hkw hall hks hdb he hpl
end
section
variable {X : Cx} {k j : Nat} {C : Addr} {m : Str} {sp : Sp} {dvs : List V} {pos apos : Pos} {o : Expr} {ta : TE} {E : XK}
theorem pe_mX0 {pl : Sem Bool} (c : MetX X.prog X.w X.K X.mg X.base k C m sp dvs) (hr : Room j X.A) (hk : k ≤ j) (hx : Passes (L2.CX X.prog X.w) X E) (he : PE X o ta)
    (ht : eval (.Call (.Attribute o m apos) [] [] pos) X.env = (do
      let ov ← eval o X.env
      standAt apos.atName
      let (f, first) ← holding [ov] (getMethod ov m pl)
      callWith pos f first (backTo pos (starEach [] X.env)) (backToKw pos (keywordEach [] X.env))) := by rfl) :
    PE X (.Call (.Attribute o m apos) [] [] pos) (tMeth C m sp dvs E ta tNil) := by
  obtain ⟨f, fd, ps, ds, hc, hm, F, b, d⟩ := c.ex
  exact pe_meth0 (pl := pl) he hc hm F (hr.mono hk) b d hx ht
end

/-- tuples stand -/
def TK (H H' : Hp) : Prop := ∀ b xs, H b = some (.tup xs) → H' b = some (.tup xs)
theorem TK.refl (H : Hp) : TK H H := fun _ _ h => h
theorem TK.trans {H H1 H2 : Hp} (a : TK H H1) (b : TK H1 H2) : TK H H2 := fun c xs h => b c xs (a c xs h)
theorem TK.new {H : Hp} {p : Addr} {o : HO} (h : H p = none) : TK H (upd H p o) := fun b xs q => by rw [upd_ne (ne_of_none q h)]; exact q
theorem TK.lst {H : Hp} {p : Addr} {o : HO} {ys : List V} (h : H p = some (.lst ys)) : TK H (upd H p o) := fun b xs q => by
  rw [upd_ne (ne_of q h (by intro z; cases z))]; exact q
theorem Keep.tk {H H' : Hp} (k : Keep [] H H') : TK H H' := fun b xs q => k b _ q (by simp)
theorem Keep.tk1 {H H' : Hp} {p : Addr} {ys : List V} (k : Keep [p] H H') (h : H p = some (.lst ys)) : TK H H' := fun b xs q => k b _ q (by
  have := ne_of q h (by intro z; cases z)
  simpa using this)

/-! data of tuples: what never changes -/
mutual
inductive TD (H : Hp) : V → PyData → Prop
  | non : TD H .non .none
  | bl (b : Bool) : TD H (.bl b) (.bool b)
  | int (i : Int) : TD H (.int i) (.int i)
  | str (x : Str) : TD H (.str x) (.str x)
  | tup {a : Addr} {xs : List V} {ds : List PyData} : H a = some (.tup xs) → TDs H xs ds → TD H (.ref a) (.tuple ds)
inductive TDs (H : Hp) : List V → List PyData → Prop
  | nil : TDs H [] []
  | cons {v : V} {vs : List V} {d : PyData} {ds : List PyData} : TD H v d → TDs H vs ds → TDs H (v :: vs) (d :: ds)
end
mutual
theorem TD.tk {H H' : Hp} (k : TK H H') : ∀ {d : PyData} {v : V}, TD H v d → TD H' v d
  | _, _, .non => .non
  | _, _, .bl b => .bl b
  | _, _, .int i => .int i
  | _, _, .str x => .str x
  | _, _, .tup h t => .tup (k _ _ h) (TDs.tk k t)
theorem TDs.tk {H H' : Hp} (k : TK H H') : ∀ {ds : List PyData} {vs : List V}, TDs H vs ds → TDs H' vs ds
  | _, _, .nil => .nil
  | _, _, .cons h t => .cons (TD.tk k h) (TDs.tk k t)
end
mutual
theorem TD.dp {K : PySem.W.Frag} {H : Hp} : ∀ {d : PyData} {v : V}, TD H v d → Dp K H v d
  | _, _, .non => .non
  | _, _, .bl b => .bl b
  | _, _, .int i => .int i
  | _, _, .str x => .str x
  | _, _, .tup h t => .tup (SqT.of h) (TDs.dp t)
theorem TDs.dp {K : PySem.W.Frag} {H : Hp} : ∀ {ds : List PyData} {vs : List V}, TDs H vs ds → DpAll K H vs ds
  | _, _, .nil => .nil
  | _, _, .cons h t => .cons (TD.dp h) (TDs.dp t)
end
theorem TDs.length {H : Hp} : ∀ {vs : List V} {ds : List PyData}, TDs H vs ds → vs.length = ds.length
  | _, _, .nil => rfl
  | _, _, .cons _ t => by rw [List.length_cons, List.length_cons, t.length]
theorem TDs.get {H : Hp} : ∀ {vs : List V} {ds : List PyData}, TDs H vs ds → ∀ {i : Nat} {d : PyData}, ds[i]? = some d → ∃ v, vs[i]? = some v ∧ TD H v d
  | _, _, .nil, i, d, e => by simp at e
  | _, _, .cons h t, 0, d, e => by simp at e; subst e; exact ⟨_, rfl, h⟩
  | _, _, .cons h t, i + 1, d, e => by
    obtain ⟨v, h1, h2⟩ := t.get (i := i) (by simpa using e)
    exact ⟨v, by simpa using h1, h2⟩
theorem TDs.append {H : Hp} : ∀ {vs ws : List V} {ds es : List PyData}, TDs H vs ds → TDs H ws es → TDs H (vs ++ ws) (ds ++ es)
  | _, _, _, _, .nil, s => s
  | _, _, _, _, .cons h t, s => .cons h (t.append s)
theorem TDs.take {H : Hp} : ∀ {vs : List V} {ds : List PyData} (n : Nat), TDs H vs ds → TDs H (vs.take n) (ds.take n)
  | _, _, 0, _ => .nil
  | _, _, _ + 1, .nil => .nil
  | _, _, n + 1, .cons h t => .cons h (t.take n)
theorem TDs.reverse {H : Hp} : ∀ {vs : List V} {ds : List PyData}, TDs H vs ds → TDs H vs.reverse ds.reverse
  | _, _, .nil => .nil
  | _, _, .cons h t => by rw [List.reverse_cons, List.reverse_cons]; exact t.reverse.append (.cons h .nil)
theorem TDs.snoc {H : Hp} {vs : List V} {ds : List PyData} {v : V} {d : PyData} (t : TDs H vs ds) (h : TD H v d) : TDs H (vs ++ [v]) (ds ++ [d]) := t.append (.cons h .nil)
theorem TDs.nil_of {H : Hp} {vs : List V} (t : TDs H vs []) : vs = [] := by cases t; rfl
/-! events and views -/
abbrev Ev := Str × List Int
def dEv (e : Ev) : PyData := .tuple (.str e.1 :: e.2.map PyData.int)
def dView (L : List Ev) : PyData := .tuple (L.map dEv)
abbrev Row := List Ev × Int
def dRow (r : Row) : PyData := .tuple [dView r.1, .int r.2]
def dRowO : Option Row → PyData
  | none => .none
  | some r => dRow r
theorem td_ints {H : Hp} : ∀ l : List Int, TDs H (l.map V.int) (l.map PyData.int)
  | [] => .nil
  | a :: r => .cons (.int a) (td_ints r)
def isDid (e : Ev) : Bool := decide (e.1 = "did")
def lastR : List Ev → Option Row
  | [] => none
  | e :: r => if isDid e = true then some (r.reverse, e.2.headD 0) else lastR r
def lastRow (L : List Ev) : Option Row := lastR L.reverse
def rowsR : List Ev → List Row
  | [] => []
  | e :: r => if isDid e = true then rowsR r ++ [(r.reverse, e.2.headD 0)] else rowsR r
theorem rowsR_cons (e : Ev) (r : List Ev) : rowsR (e :: r) = if isDid e = true then rowsR r ++ [(r.reverse, e.2.headD 0)] else rowsR r := rfl
theorem lastR_cons (e : Ev) (r : List Ev) : lastR (e :: r) = if isDid e = true then some (r.reverse, e.2.headD 0) else lastR r := rfl
def allRows (L : List Ev) : List Row := rowsR L.reverse
theorem allRows_snoc (L : List Ev) (e : Ev) : allRows (L ++ [e]) = if isDid e = true then allRows L ++ [(L, e.2.headD 0)] else allRows L := by
  unfold allRows
  rw [List.reverse_append]
  show rowsR (e :: L.reverse) = _
  rw [rowsR, List.reverse_reverse]
theorem lastR_rows : ∀ (R : List Ev), rowsR R = (match lastR R with | none => [] | some (V, k) => rowsR V.reverse ++ [(V, k)])
  | [] => rfl
  | e :: r => by
    rw [rowsR_cons, lastR_cons]
    by_cases h : isDid e = true
    · rw [if_pos h, if_pos h]; simp only [List.reverse_reverse]
    · rw [if_neg h, if_neg h]; exact lastR_rows r
theorem lastRow_rows (L : List Ev) : allRows L = (match lastRow L with | none => [] | some (V, k) => allRows V ++ [(V, k)]) := lastR_rows L.reverse
theorem lastR_len : ∀ (R : List Ev) {V : List Ev} {k : Int}, lastR R = some (V, k) → V.length < R.length
  | [], V, k, h => by cases h
  | e :: r, V, k, h => by
    rw [lastR_cons] at h
    by_cases g : isDid e = true
    · rw [if_pos g] at h
      cases h
      simp
    · rw [if_neg g] at h
      have := lastR_len r h
      simp; omega
theorem lastRow_len {L V : List Ev} {k : Int} (h : lastRow L = some (V, k)) : V.length < L.length := by
  have := lastR_len _ h
  simpa using this
theorem lastRow_last (L : List Ev) : lastRow L = (allRows L).getLast? := by
  rw [lastRow_rows]
  cases h : lastRow L with
  | none => rfl
  | some x => simp
theorem rowsR_take : ∀ (R : List Ev) {j : Nat} {V : List Ev} {k : Int}, (rowsR R)[j]? = some (V, k) → rowsR V.reverse = (rowsR R).take j
  | [], j, V, k, h => by simp [rowsR] at h
  | e :: r, j, V, k, h => by
    rw [rowsR_cons] at h ⊢
    by_cases g : isDid e = true
    · rw [if_pos g] at h ⊢
      by_cases hj : j < (rowsR r).length
      · rw [List.getElem?_append_left hj] at h
        rw [List.take_append_of_le_length (Nat.le_of_lt hj)]
        exact rowsR_take r h
      · have hj' : j = (rowsR r).length := by
          have := (List.getElem?_eq_some_iff.mp h).1
          rw [List.length_append] at this
          simp at this; omega
        subst hj'
        rw [List.getElem?_append_right (Nat.le_refl _), Nat.sub_self] at h
        have e1 : r.reverse = V := congrArg Prod.fst (Option.some.inj h)
        rw [← e1, List.reverse_reverse, List.take_left]
    · rw [if_neg g] at h ⊢
      exact rowsR_take r h
theorem allRows_take {L : List Ev} {j : Nat} {V : List Ev} {k : Int} (h : (allRows L)[j]? = some (V, k)) : allRows V = (allRows L).take j := rowsR_take _ h
theorem rowsR_mem : ∀ (R : List Ev) {V : List Ev} {k : Int}, (V, k) ∈ rowsR R → ∃ M, R.reverse = V ++ M
  | [], V, k, h => by cases h
  | e :: r, V, k, h => by
    rw [rowsR_cons] at h
    rw [List.reverse_cons]
    by_cases g : isDid e = true
    · rw [if_pos g] at h
      rcases List.mem_append.mp h with h | h
      · obtain ⟨M, e1⟩ := rowsR_mem r h
        exact ⟨M ++ [e], by rw [e1, List.append_assoc]⟩
      · have := List.mem_singleton.mp h
        cases this
        exact ⟨[e], rfl⟩
    · rw [if_neg g] at h
      obtain ⟨M, e1⟩ := rowsR_mem r h
      exact ⟨M ++ [e], by rw [e1, List.append_assoc]⟩
theorem allRows_mem {L V : List Ev} {k : Int} (h : (V, k) ∈ allRows L) : ∃ M, L = V ++ M := by
  obtain ⟨M, e⟩ := rowsR_mem _ h
  exact ⟨M, by rw [← e, List.reverse_reverse]⟩
theorem rowsR_len : ∀ R : List Ev, (rowsR R).length ≤ R.length
  | [] => Nat.le_refl _
  | e :: r => by
    have h := rowsR_len r
    rw [rowsR_cons]
    split
    · rw [List.length_append]; simp; omega
    · simp; omega
theorem allRows_len (L : List Ev) : (allRows L).length ≤ L.length := by
  have h := rowsR_len L.reverse
  rw [List.length_reverse] at h
  exact h
/-- every move made tells it -/
def Good (L : List Ev) : Prop := ∀ e ∈ L, isDid e = true → e.2 ≠ []
theorem Good.pre {L V M : List Ev} (g : Good L) (h : L = V ++ M) : Good V := fun e he => g e (by rw [h]; exact List.mem_append_left _ he)
theorem lastRow_pre {L V : List Ev} {k : Int} (h : lastRow L = some (V, k)) : ∃ M, L = V ++ M := by
  refine allRows_mem (k := k) ?_
  rw [lastRow_rows, h]
  simp
def sp_last_row : Sp := fun vs H Q _ => ∃ (v : V) (L : List Ev), vs = [v] ∧ TD H v (dView L) ∧ L.length ≤ 100000 ∧ Good L ∧ ∀ r H', Keep [] H H' → TD H' r (dRowO (lastRow L)) → Q r H'
theorem td_view {H : Hp} {v : V} {ds : List PyData} (h : TD H v (.tuple ds)) : ∃ a xs, v = .ref a ∧ H a = some (.tup xs) ∧ TDs H xs ds := by
  cases h with
  | tup h t => exact ⟨_, _, rfl, h, t⟩

/-! xs[::-1] of a tuple -/
section
open PySem PySem.Spec PyProof.Rows
variable {prog : Program} {w : World} {A : Around} {E : Value → Shared → Prop} {s : Shared}
theorem adjust_rev (n : Nat) : Builtin.Slice.sliceAdjust none none (-1) (n : Int) = ((n : Int) - 1, -1) := rfl
theorem places_rev (n : Nat) : Builtin.Slice.slicePlaces ((n : Int) - 1) (-1) (-1) = n := by
  unfold Builtin.Slice.slicePlaces
  have h1 : ¬ ((-1 : Int) > 0) := by decide
  have h2 : -(-1 : Int) = 1 := rfl
  simp only [h1, if_false, h2, Int.ediv_one]
  split <;> omega
theorem pick_rev (xs : Array Value) : ((List.range xs.size).filterMap fun (m : Nat) => xs[(((xs.size : Int) - 1) + (m : Int) * (-1)).toNat]?).toArray = xs.toList.reverse.toArray := by
  congr 1
  apply List.ext_getElem?
  intro i
  have e : ∀ n, n ≤ xs.size → ((List.range n).filterMap fun (m : Nat) => xs[(((xs.size : Int) - 1) + (m : Int) * (-1)).toNat]?) = (xs.toList.reverse).take n := by
    intro n
    induction n with
    | zero => intro _; rfl
    | succ n ih =>
      intro hn
      have hlt : n < xs.toList.reverse.length := by rw [List.length_reverse, Array.length_toList]; omega
      rw [List.range_succ, List.filterMap_append, ih (by omega), List.take_succ_eq_append_getElem hlt]
      congr 1
      have e1 : (((xs.size : Int) - 1) + (n : Int) * (-1)).toNat = xs.size - 1 - n := by omega
      have e2 : xs[xs.size - 1 - n]? = some (xs.toList.reverse[n]) := by
        rw [List.getElem_reverse, ← Array.getElem?_toList, List.getElem?_eq_getElem (by rw [Array.length_toList]; omega)]
        simp only [Array.length_toList]
      rw [List.filterMap_cons, e1, e2]; rfl
  rw [e _ (Nat.le_refl _), List.take_of_length_le (by rw [List.length_reverse, Array.length_toList]; exact Nat.le_refl _)]
theorem sliceApplied_rev {sl : Addr} {vl vu vs : Value} {n : Nat} {Q : Int × Int × Nat → Shared → Prop} (hs : s.heap.IsSliceOf sl vl vu vs) (pl : IsPart vl none) (pu : IsPart vu none) (ps : IsPart vs (some (-1)))
    (h : Q ((n : Int) - 1, -1, n) s) : wpAny (model prog w) A (Builtin.Slice.sliceApplied (.ref sl) (pure (n : Int))) Q E s := by
  obtain ⟨os, hos, hcs, hds⟩ := id hs
  unfold Builtin.Slice.sliceApplied Builtin.Slice.sliceFields
  refine wpAny_bind (wpAny_bind (wpAny_field hos hds (x := vl) rfl (wpAny_bind (wpAny_field hos hds (x := vu) rfl (wpAny_bind (wpAny_field hos hds (x := vs) rfl (wpAny_pure ?_)))))))
  refine wpAny_bind (HT.slicePart_ ps ?_)
  show wpAny _ _ (if ((-1 : Int) == 0) = true then _ else _) _ _ s
  rw [if_neg (by decide)]
  refine wpAny_bind (HT.slicePart_ pl (wpAny_bind (HT.slicePart_ pu (wpAny_bind (wpAny_pure ?_)))))
  show wpAny _ _ (match Builtin.Slice.sliceAdjust none none (-1) (n : Int) with | (lo, hi) => pure (lo, (-1 : Int), Builtin.Slice.slicePlaces lo hi (-1))) _ _ s
  rw [adjust_rev n]
  show wpAny _ _ (pure ((n : Int) - 1, (-1 : Int), Builtin.Slice.slicePlaces ((n : Int) - 1) (-1) (-1))) _ _ s
  rw [places_rev]
  exact wpAny_pure h
theorem getItem_tuple_rev {t sl : Addr} {items : Array Value} {vl vu vs : Value} {Q : Value → Shared → Prop} (ht : IsTup s.heap t items) (hs : s.heap.IsSliceOf sl vl vu vs) (pl : IsPart vl none) (pu : IsPart vu none) (ps : IsPart vs (some (-1)))
    (h : Q (.ref s.heap.objs.size) { s with heap := s.heap.push { cls := .type "tuple", data := .seq items.toList.reverse.toArray } })
    (hsz : items.size ≤ sizeLine) : wpAny (model prog w) A (getItem (.ref t) (.ref sl)) Q E s := by
  have htake : sizeOk (.seq items.toList.reverse.toArray) := by
    show items.toList.reverse.toArray.size ≤ sizeLine
    rw [List.size_toArray, List.length_reverse, Array.length_toList]
    exact hsz
  obtain ⟨os, hos, hcs, hds⟩ := id hs
  have hTs : s.TypeIs (.ref sl) "slice" := ⟨os, hos, hcs⟩
  unfold getItem
  try with_reducible refine wpAny_holding ?_
  first | refine wpAny_bind (wpAny_pure ?_) | skip
  refine wpAny_bind (wpAny_sequenceKey ht.typeIs (by decide) ?_)
  refine wpAny_bind (wpAny_callSpecial?_slot (name := Str.ofString "__getitem__") ht.typeIs PyProof.Rows.slot_tuple_getitem
    (wpAny_call_entry PyProof.Rows.slot_tuple_getitem ht.typeIs entry_tuple_getitem ?_ (args_tuple_getitem _ _)))
  show wpAny _ _ (Builtin.Tuple.tupleItemsOf (.ref t) >>= _) _ _ s
  refine wpAny_bind (tupleItemsOf_ ht ?_)
  refine wpAny_bind (wpAny_typeOf hTs ?_)
  rw [if_pos (by decide)]
  refine wpAny_bind (sliceApplied_rev hs pl pu ps ?_)
  have hno : ¬ ((((items.size : Int) - 1) == 0 && (-1 : Int) == 1 && items.size == items.size) = true) := by
    intro q
    rw [Bool.and_eq_true, Bool.and_eq_true] at q
    exact absurd (eq_of_beq q.1.2) (by decide)
  show wpAny _ _ (if (((items.size : Int) - 1) == 0 && (-1 : Int) == 1 && items.size == items.size) = true then _ else _) _ _ s
  rw [if_neg hno, pick_rev]
  first
    | exact wpAny_bind (m := Builtin.Tuple.tupleExact _) (wpAny_newObj_type (wpAny_pure ⟨_, rfl, wpAny_pure h⟩) htake)
    | exact wpAny_bind (m := Builtin.Tuple.tupleExact _) (wpAny_newObj_type (wpAny_bind (wpAny_pure (wpAny_pure ⟨_, rfl, wpAny_pure h⟩))) htake)
    | exact wpAny_bind (wpAny_bind (m := Builtin.Tuple.tupleExact _) (wpAny_newObj_type (wpAny_pure (wpAny_pure ⟨_, rfl, wpAny_pure h⟩)) htake))
    | exact wpAny_bind (wpAny_bind (m := Builtin.Tuple.tupleExact _) (wpAny_newObj_type (wpAny_pure ⟨_, rfl, wpAny_pure h⟩) htake))
def tRevT (K : PySem.W.Frag) (te : TE) : TE := fun σ H Q => te σ H fun x H1 => ∃ a xs, x = .ref a ∧ SqT K H1 a xs ∧ ∀ p, H1 p = none → Q (.ref p) (upd H1 p (.tup xs.reverse))
theorem pe_revT {X : Cx} {e : Expr} {te : TE} {k : Nat} {p1 p2 p3 pos : Pos} (he : PE X e te) : PE X (.Subscript e (.Slice none none (some (.UnaryOp .USub (.Constant (.int 1) k p1) p2)) p3) pos) (tRevT X.K te) := by
  refine ⟨fun pins s σ H Q I h => ?_⟩
  refine Subscript_ (thn (he.run pins s σ H _ I h) fun v s1 ⟨x, H1, I1, r1, q1⟩ => ?_)
  obtain ⟨a, xs, ex, hx, q⟩ := q1
  subst ex
  cases r1
  have hst : PO X (some (.UnaryOp .USub (.Constant (.int 1) k p1) p2)) (tPart (tUn (rU fun i => .int (-i)) (tC (.int 1)))) := po_some (pe_un un_neg pe_int)
  refine wpAny_Slice (thn (po_none.run pins s1 σ H1 (fun o H2 => o = none ∧ H2 = H1) I1 ⟨rfl, rfl⟩) fun vl s2 ⟨l, H2, I2, pl, el, e2⟩ => ?_)
  subst el e2
  refine thn (po_none.run pins s2 σ H2 (fun o H3 => o = none ∧ H3 = H2) I2 ⟨rfl, rfl⟩) fun vu s3 ⟨u, H3, I3, pu, eu, e3⟩ => ?_
  subst eu e3
  refine thn (hst.run pins s3 σ H3 (fun o H4 => o = some (-1) ∧ H4 = H3) I3 ⟨1, rfl, -1, rfl, rfl, rfl⟩) fun vs s4 ⟨o, H4, I4, ps, eo, e4⟩ => ?_
  subst eo e4
  have I5 : Inv X pins σ H4 { s4 with heap := s4.heap.push { cls := .type "slice", data := .fields #[vl, vu, vs] } } := I4.kept (t' := s4.toks) fun b ob q => Heap.get?_push_of_some _ q
  obtain ⟨its, r, ht, hz⟩ := I5.tuple hx
  have hlen := r.length
  show wpAny (model X.prog X.w) X.A (subscriptTail e (.Slice none none (some (.UnaryOp .USub (.Constant (.int 1) k p1) p2)) p3) (.ref a) (.ref s4.heap.objs.size)) (EP X pins σ Q) X.xe { s4 with heap := s4.heap.push { cls := .type "slice", data := .fields #[vl, vu, vs] } }
  refine tail_any (ops := [.ref a, .ref s4.heap.objs.size]) ht.typeIs (PyProof.Rows.slot_tuple_getitem.lookup) ?_ (by with_unfolding_all rfl)
  refine getItem_tuple_rev ht (Heap.IsSliceOf.new _ vl vu vs) pl pu ps ?_ (by rw [List.size_toArray]; omega)
  refine ⟨.ref _, _, I5.laid (t' := s4.toks) (o := .tup xs.reverse) (fun b ob q => Heap.get?_push_of_some _ q) (Nat.le_refl _) ?_, rfl, q _ (I5.hok.fresh (Nat.le_refl _))⟩
  exact ⟨by rw [List.length_reverse]; exact hz, _, r.reverse, IsTup.new _ _⟩
end

/-! == and != by a def of the text's own, whatever it answers -/
structure Own (P : Program) (w : World) (K : PySem.W.Frag) (mg : Str → Option Value) (base : Heap) (k : Nat) (C : Addr) (nm : Str) (sp : Sp) : Prop where
  ex : ∃ (f : Addr) (fd : FuncData) (ps : List Str), PySem.W.findIn K (.ref C) nm = some (some (.ref f)) ∧ PySem.W.isFn K (.ref f) = true ∧ FnOk P w K mg base C8.CX0 k f fd ps sp ∧ Binds K fd ps []
def qB (Q : VK) : VK := fun v H => match v with
  | .bl r => Q (.bl r) H
  | _ => False
def qN (Q : VK) : VK := fun v H => match v with
  | .bl r => Q (.bl (!r)) H
  | _ => False
/-- two instances of the class at C: what the own def answers -/
def rOwn (C : Addr) (sp : Sp) : R2 := fun x y H Q => ∃ a b dx dy fs gs, x = .ref a ∧ y = .ref b ∧ H a = some (.ins C dx fs) ∧ H b = some (.ins C dy gs) ∧ sp [.ref a, .ref b] H (qB Q) C8.E0
def rOwnN (C : Addr) (sp : Sp) : R2 := fun x y H Q => ∃ a b dx dy fs gs, x = .ref a ∧ y = .ref b ∧ H a = some (.ins C dx fs) ∧ H b = some (.ins C dy gs) ∧ sp [.ref a, .ref b] H (qN Q) C8.E0
theorem ne_bind (self : Value) : bindSpecial (.builtin "object.__ne__") self = pure (.builtin "object.__ne__", [self]) :=
  (Slot.of (T := "object") (name := "__ne__") (owner := "object") (n := "__ne__") (by rw [typeLookup_type, builtinLookup_eq_fast]; kernel_rfl) (by decide +kernel) (by decide +kernel) (by decide +kernel)
    (.inl (by decide +kernel)) (by rw [isSubtype_type]; kernel_rfl)).bind self
theorem ne_plain : plainId "object.__ne__" = true := by decide +kernel
section
variable {X : Cx} {k j : Nat} {C : Addr} {sp : Sp}
theorem own_call {A : Around} {pins : List (Addr × Obj)} {s : Shared} {σ : St} {H : Hp} {a b f : Addr} {fd : FuncData} {ps : List Str} {Q : VK} (sb : Sub X k A) (I : Inv X pins σ H s)
    (F : FnOk X.prog X.w X.K X.mg X.base C8.CX0 k f fd ps sp) (bi : Binds X.K fd ps []) (hsp : sp [.ref a, .ref b] H Q C8.E0) :
    wpAny (model X.prog X.w) A (call (.ref f) [.ref a, .ref b]) (fun v s' => ∃ z H', Inv X pins σ H' s' ∧ RelV z v ∧ Q z H') X.xe s := by
  have e0 : Env0 X.prog X.w X.K X.mg X.base A X.stack s H := by
    have e := I.env0
    exact ⟨by rw [sb.fr]; exact e.frames, e.mod, e.bs, e.bsz, e.funs, e.frf, e.hok, e.bare⟩
  have hl := F.len _ _ _ _ hsp
  have r2 : Vals [V.ref a, V.ref b] [Value.ref a, Value.ref b] := .cons rfl (.cons rfl .nil)
  refine wpAny_call (codeAny_mono (F.run A X.stack s H ⟨[.ref a, .ref b], []⟩ [.ref a, .ref b] [.ref a, .ref b] _ C8.E0 sb.room e0 (by
    have := bi s [.ref a, .ref b] I.kIn (by simpa using hl)
    simpa using this) r2 hsp) fun r s' hq => ?_)
  cases r with
  | error e => exact C8.pass0 (X := X) (E := C8.E0) pins σ H s e s' I hq
  | ok fl =>
    cases fl with
    | ret w =>
      obtain ⟨z, H', I', rz, ez⟩ := I.after hq
      exact ⟨z, H', I', rz, ez⟩
    | next => exact False.elim hq
    | brk => exact False.elim hq
    | cont => exact False.elim hq
theorem op_own (c : Own X.prog X.w X.K X.mg X.base k C "__eq__" sp) (hr : Room j X.A) (hk : k ≤ j) : OpR X (compareOp .Eq) (rOwn C sp) := by
  intro pins s σ H x y v u Q I rx ry hq
  obtain ⟨f, fd, ps, hs, hf, F, bi⟩ := c.ex
  obtain ⟨a, b, dx, dy, fs, gs, rfl, rfl, ha, hb, hsp⟩ := hq
  cases rx
  cases ry
  obtain ⟨mA, J, _⟩ := ins_get I.hok ha
  obtain ⟨mB, J', _⟩ := ins_get I.hok hb
  obtain ⟨od, J, _⟩ := J.look
  obtain ⟨od', J', _⟩ := J'.look
  obtain ⟨m, hF⟩ := I.fr
  have sb : Sub X k X.A := ⟨hr.mono hk, rfl⟩
  show wpAny (model X.prog X.w) X.A (richCompare .Eq (.ref a) (.ref b)) (EP X pins σ Q) X.xe s
  refine PySem.W.cmp_K (op := .Eq) (tb := .ref C) sb.room.units0 hF I.ok.mod.kin J J'.type (by simp [PySem.W.notFirst]) hs hf ?_
  refine wpAny_mono (own_call sb I F bi hsp) (fun v s' z => ?_) fun _ _ x => x
  obtain ⟨z, H', I', rz, q⟩ := z
  cases z with
  | bl r => cases rz; exact ⟨.bl r, H', I', rfl, q⟩
  | _ => exact False.elim q
theorem op_ownN (c : Own X.prog X.w X.K X.mg X.base k C "__eq__" sp) (hn : PySem.W.findIn X.K (.ref C) "__ne__" = some (some (.builtin "object.__ne__"))) (hm : PySem.W.mroIn X.K C (.type "object") = some true) (hr : Room j X.A) (hk : k + 1 ≤ j) : OpR X (compareOp .NotEq) (rOwnN C sp) := by
  intro pins s σ H x y v u Q I rx ry hq
  obtain ⟨f, fd, ps, hs, hf, G, bi⟩ := c.ex
  obtain ⟨a, b, dx, dy, fs, gs, rfl, rfl, ha, hb, hsp⟩ := hq
  cases rx
  cases ry
  obtain ⟨mA, J, _⟩ := ins_get I.hok ha
  obtain ⟨mB, J', _⟩ := ins_get I.hok hb
  obtain ⟨od, J, _⟩ := J.look
  obtain ⟨od', J', _⟩ := J'.look
  obtain ⟨m, hF⟩ := I.fr
  have sb : Sub X (k + 1) X.A := ⟨hr.mono hk, rfl⟩
  have XK := I.ok.mod.kin.keeps hF.keep
  show wpAny (model X.prog X.w) X.A (richCompare .NotEq (.ref a) (.ref b)) (EP X pins σ Q) X.xe s
  unfold richCompare
  simp only [oneThing_ref]
  refine wpAny_holding (wpAny_bind (wpAny_cRoomFor sb.room.units0 ?_))
  rw [cmpInfo_NotEq]
  dsimp only
  refine wpAny_bind (J.type.here (wpAny_bind (J'.type.here ?_)))
  rw [show (Value.ref C != Value.ref C) = false from by simp]
  simp only [Bool.false_eq_true, if_false]
  refine wpAny_bind (wpAny_pure ?_)
  simp only [Bool.false_eq_true, if_false]
  have fin : ∀ (v : Value) (s' : Shared), (∃ z H', Inv X pins σ H' s' ∧ RelV z v ∧ qN Q z H') → ∃ r : Bool, v = .bool r ∧ EP X pins σ Q (.bool (!r)) s' := by
    rintro v s' ⟨z, H', I', rz, q⟩
    cases z with
    | bl r => cases rz; exact ⟨r, rfl, .bl (!r), H', I', rfl, q⟩
    | _ => exact False.elim q
  have inner : wpAny (model X.prog X.w) X.A (call (.builtin "object.__ne__") [.ref a, .ref b]) (fun v s' => ∃ r : Bool, v = .bool r ∧ EP X pins σ Q v s') X.xe s := by
    refine wpAny_call (codeAny_call_builtin ne_plain PySem.F.cmpEntry_ne (PySem.W.check_slot PySem.F.cmpKind_ne PySem.F.cmpSplit_ne (J.type.andThen (PySem.W.looks_mroIn XK hm)) (PySem.F.cmpArgs_ne _ _) ?_))
    unfold Builtin.«object.__ne__»
    repeat (first
      | with_reducible refine wpAny_cRoomFor sb.in1.room.units0 ?_
      | (refine wpAny_bind (m := callSpecialIfBound? (.ref a) (Str.ofString "__eq__") [.ref b]) (PySem.W.ifBound_K XK J hs hf (wpAny_mono (own_call sb.in1 I G bi hsp) (fun v s' z => ?_) fun _ _ x => x)))
      | wp_step)
    obtain ⟨r, rfl, q⟩ := fin v s' z
    refine wpAny_bind (m := truthy (.bool _)) (wpAny_truthy_bool ?_)
    exact wpAny_pure ⟨!r, rfl, q⟩
  unfold tryCompare
  refine wpAny_bind (wpAny_bind ?_)
  simp only [callSpecialIfBound?, bindSpecialIfBound?]
  refine wpAny_holding (wpAny_bind (wpAny_bind (wpAny_bind (J.type.here ((PySem.W.looks_findIn XK hn).here ?_)))))
  refine wpAny_bind (wpAny_askSetting (wpAny_ite ?_))
  split
  · refine wpAny_bind ?_
    rw [ne_bind]
    refine wpAny_pure (wpAny_pure ?_)
    refine wpAny_bind (wpAny_mono inner (fun v s' z => ?_) fun _ _ x => x)
    obtain ⟨r, rfl, q⟩ := z
    exact wpAny_pure (wpAny_pure (wpAny_pure q))
  · refine wpAny_tryCatch (wpAny_bind ?_)
    rw [ne_bind]
    refine wpAny_pure (wpAny_pure ?_)
    refine wpAny_bind (wpAny_mono inner (fun v s' z => ?_) fun _ _ x => x)
    obtain ⟨r, rfl, q⟩ := z
    exact wpAny_pure (wpAny_pure (wpAny_pure q))
end

/-! in a comprehension: unpack a tuple (the written part named) -/
theorem pg_tupK {X : Cx} {K : PySem.W.Frag} {es : List Expr} {k : Nat} {t : TGs} {n : Nat} {pos : Pos} (h : PGs X es t) (hc : X.calm = true := by rfl) (hK : X.K = K := by rfl)
    (hn : (assignEach es X.env).length = n := by rfl) (hst : (assignEach es X.env).findIdx? (·.1) = none := by rfl) : PG X (.Tuple es k pos) (gTup K n t) := hK ▸ pg_tup hc h hn hst
theorem op_in_seqK {X : Cx} {K : PySem.W.Frag} (hK : X.K = K := by rfl) : OpR X (compareOp .In) (rIn K false) := hK ▸ op_in_seq
theorem op_notIn_seqK {X : Cx} {K : PySem.W.Frag} (hK : X.K = K := by rfl) : OpR X (compareOp .NotIn) (rIn K true) := hK ▸ op_notIn_seq

theorem calUp {P : Program} {w : World} {K : PySem.W.Frag} {mg : Str → Option Value} {base : Heap} {j k : Nat} {x : Str} {sp : Sp} {dvs : List V} (c : C8.Cal P w K mg base j x sp dvs) (h : j ≤ k) : C8.Cal P w K mg base k x sp dvs := by
  obtain ⟨f, fd, ps, ds, F, hm, kp, b, d⟩ := c.ex
  exact ⟨f, fd, ps, ds, F.mono h, hm, kp, b, d⟩

theorem CalX.up {P : Program} {w : World} {K : PySem.W.Frag} {mg : Str → Option Value} {base : Heap} {j k : Nat} {x : Str} {sp : Sp} {dvs : List V} (c : CalX P w K mg base j x sp dvs) (h : j ≤ k) : CalX P w K mg base k x sp dvs := by
  obtain ⟨f, fd, ps, ds, F, r⟩ := c.ex
  exact ⟨f, fd, ps, ds, F.mono h, r⟩

/-! statements of a block -/
inductive Sm where
  | drw (x : Str) (s : Int)
  | mov (pl : Int) (x : Str) (s n : Int)
  | shw (pl : Int) (e : PyData)
  | pay (e : PyData)
  | tak (e : PyData)
  | set (x : Str) (e : PyData)
  | brn (i : Bool) (t : PyData) (a b : List Sm)
def wd (i : Bool) : Str := if i then "if" else "when"
mutual
def Sm.data : Sm → PyData
  | .drw x s => .tuple [.str "draw", .str x, .int s]
  | .mov pl x s n => .tuple [.str "move", .int pl, .str x, .int s, .int n]
  | .shw pl e => .tuple [.str "show", .int pl, e]
  | .pay e => .tuple [.str "pay", e]
  | .tak e => .tuple [.str "take", e]
  | .set x e => .tuple [.str "set", .str x, e]
  | .brn i t a b => .tuple [.str (wd i), t, .tuple (datas a), .tuple (datas b)]
def datas : List Sm → List PyData
  | [] => []
  | s :: r => s.data :: datas r
end
mutual
/-- the seats exchanged -/
def Sm.sw : Sm → Sm
  | .drw x s => .drw x s
  | .mov pl x s n => .mov (3 - pl) x s n
  | .shw pl e => if pl = 0 then .shw pl e else .shw (3 - pl) e
  | .pay e => .tak e
  | .tak e => .pay e
  | .set x e => .set x e
  | .brn i t a b => .brn i t (sws a) (sws b)
def sws : List Sm → List Sm
  | [] => []
  | s :: r => s.sw :: sws r
end
mutual
/-- how many moves -/
def Sm.mv : Sm → Nat
  | .mov .. => 1
  | .brn _ _ a b => mvs a + mvs b
  | .drw .. => 0
  | .shw .. => 0
  | .pay _ => 0
  | .tak _ => 0
  | .set .. => 0
def mvs : List Sm → Nat
  | [] => 0
  | s :: r => s.mv + mvs r
end
mutual
/-- numbered anew -/
def Sm.rn (n : Int) : Sm → Sm
  | .mov pl x s _ => .mov pl x s n
  | .brn i t a b => .brn i t (rns n a) (rns (n + (mvs a : Nat)) b)
  | .drw x s => .drw x s
  | .shw pl e => .shw pl e
  | .pay e => .pay e
  | .tak e => .tak e
  | .set x e => .set x e
def rns (n : Int) : List Sm → List Sm
  | [] => []
  | s :: r => s.rn n :: rns (n + (s.mv : Nat)) r
end
mutual
theorem Sm.mv_rn (n : Int) : ∀ s : Sm, (s.rn n).mv = s.mv
  | .mov .. => by simp [Sm.rn, Sm.mv]
  | .brn i t a b => by simp only [Sm.rn, Sm.mv]; rw [mvs_rn n a, mvs_rn _ b]
  | .drw .. => by simp [Sm.rn]
  | .shw .. => by simp [Sm.rn]
  | .pay _ => by simp [Sm.rn]
  | .tak _ => by simp [Sm.rn]
  | .set .. => by simp [Sm.rn]
theorem mvs_rn (n : Int) : ∀ l : List Sm, mvs (rns n l) = mvs l
  | [] => by simp [rns]
  | s :: r => by simp only [rns, mvs]; rw [Sm.mv_rn n s, mvs_rn _ r]
end
theorem datas_map : ∀ l : List Sm, datas l = l.map Sm.data
  | [] => rfl
  | s :: r => by rw [datas, datas_map r]; rfl
theorem sws_map : ∀ l : List Sm, sws l = l.map Sm.sw
  | [] => rfl
  | s :: r => by rw [sws, sws_map r]; rfl
theorem mvs_append : ∀ l r : List Sm, mvs (l ++ r) = mvs l + mvs r
  | [], r => by simp [mvs]
  | s :: l, r => by rw [List.cons_append, mvs, mvs, mvs_append l r, Nat.add_assoc]
theorem rns_append : ∀ (n : Int) (l r : List Sm), rns n (l ++ r) = rns n l ++ rns (n + (mvs l : Nat)) r
  | n, [], r => by simp [mvs, rns]
  | n, s :: l, r => by
    rw [List.cons_append, rns, rns, rns_append _ l r, mvs, List.cons_append]
    congr 2
    rw [show n + (s.mv : Int) + (mvs l : Nat) = n + ((s.mv + mvs l : Nat) : Int) by omega]
theorem rns_len : ∀ (n : Int) (l : List Sm), (rns n l).length = l.length
  | _, [] => rfl
  | _, s :: l => by rw [rns, List.length_cons, List.length_cons, rns_len _ l]
/-- small enough: m deep, no list with more than 100 -/
def Fit : Nat → List Sm → Prop
  | 0, _ => False
  | m + 1, l => l.length ≤ 100 ∧ ∀ s ∈ l, match s with
    | .brn _ _ a b => Fit m a ∧ Fit m b
    | .shw pl _ => 0 ≤ pl ∧ pl ≤ 2
    | _ => True
mutual
theorem Sm.sw_sw : ∀ (s : Sm) (m : Nat), Fit (m + 1) [s] → s.sw.sw = s
  | .drw .., _, _ => rfl
  | .mov pl x s n, _, _ => by simp only [Sm.sw]; rw [show 3 - (3 - pl) = pl by omega]
  | .shw pl e, m, h => by
    have h := h.2 _ (List.mem_singleton.mpr rfl)
    simp only at h
    by_cases z : pl = 0
    · simp [Sm.sw, z]
    · simp only [Sm.sw, if_neg z]
      rw [if_neg (by omega), show 3 - (3 - pl) = pl by omega]
  | .pay _, _, _ => rfl
  | .tak _, _, _ => rfl
  | .set .., _, _ => rfl
  | .brn i t a b, m, h => by
    have h := h.2 _ (List.mem_singleton.mpr rfl)
    simp only at h
    simp only [Sm.sw]
    rw [sws_sws a m h.1, sws_sws b m h.2]
theorem sws_sws : ∀ (l : List Sm) (m : Nat), Fit m l → sws (sws l) = l
  | [], _, _ => rfl
  | s :: r, 0, h => h.elim
  | s :: r, m + 1, h => by
    simp only [sws]
    rw [Sm.sw_sw s m ⟨by simp, fun q hq => h.2 q (by rw [List.mem_singleton.mp hq]; exact List.mem_cons_self ..)⟩, sws_sws r (m + 1) ⟨by have := h.1; simp at this; omega, fun q hq => h.2 q (List.mem_cons_of_mem _ hq)⟩]
end
theorem Fit.mono : ∀ {m k : Nat} {l : List Sm}, Fit m l → m ≤ k → Fit k l
  | 0, _, _, h, _ => h.elim
  | m + 1, 0, _, _, z => absurd z (by omega)
  | m + 1, k + 1, l, h, z => ⟨h.1, fun s hs => by
    have := h.2 s hs
    cases s <;> first | trivial | exact this | exact ⟨this.1.mono (by omega), this.2.mono (by omega)⟩⟩

theorem datas_get {l : List Sm} {i : Nat} {H : Hp} {xs : List V} {x : V} (t : TDs H xs (datas l)) (hx : xs[i]? = some x) : ∃ s, l[i]? = some s ∧ TD H x s.data := by
  have hl := t.length
  rw [datas_map, List.length_map] at hl
  obtain ⟨h1, _⟩ := List.getElem?_eq_some_iff.mp hx
  have e : l[i]? = some l[i] := List.getElem?_eq_getElem (by omega)
  obtain ⟨v, hv, d⟩ := t.get (i := i) (d := (l[i]'(by omega)).data) (by rw [datas_map, List.getElem?_map, e]; rfl)
  rw [hx] at hv
  cases hv
  exact ⟨_, e, d⟩
theorem take_snoc {α : Type} {l : List α} {i : Nat} {s : α} (h : l[i]? = some s) : l.take (i + 1) = l.take i ++ [s] := by
  rw [List.take_add_one, h]; rfl
theorem mvs_take {l : List Sm} {i : Nat} {s : Sm} (h : l[i]? = some s) : mvs (l.take (i + 1)) = mvs (l.take i) + s.mv := by
  rw [take_snoc h, mvs_append]; simp [mvs]
theorem mvs_le {l : List Sm} {i : Nat} {s : Sm} (h : l[i]? = some s) : mvs (l.take i) + s.mv ≤ mvs l := by
  rw [← mvs_take h]
  have := congrArg mvs (List.take_append_drop (i + 1) l)
  rw [mvs_append] at this; omega
theorem Fit.at {m i : Nat} {l : List Sm} {s : Sm} (f : Fit (m + 1) l) (h : l[i]? = some s) : i < l.length ∧ l.length ≤ 100 ∧ (∀ j t a b, s = .brn j t a b → Fit m a ∧ Fit m b) ∧ ∀ pl e, s = .shw pl e → 0 ≤ pl ∧ pl ≤ 2 := by
  refine ⟨(List.getElem?_eq_some_iff.mp h).1, f.1, ?_, ?_⟩
  · rintro j t a b rfl; exact f.2 _ (List.mem_of_getElem? h)
  · rintro pl e rfl; exact f.2 _ (List.mem_of_getElem? h)
theorem td_str {H : Hp} {v : V} {x : Str} (h : TD H v (.str x)) : v = .str x := by cases h; rfl
theorem td_int {H : Hp} {v : V} {x : Int} (h : TD H v (.int x)) : v = .int x := by cases h; rfl
theorem td_bl {H : Hp} {v : V} {x : Bool} (h : TD H v (.bool x)) : v = .bl x := by cases h; rfl
theorem TDs.un {H : Hp} {vs : List V} {d : PyData} {ds : List PyData} (t : TDs H vs (d :: ds)) : ∃ v r, vs = v :: r ∧ TD H v d ∧ TDs H r ds := by
  cases t with
  | cons h t => exact ⟨_, _, rfl, h, t⟩
theorem td2 {H : Hp} {v : V} {a b : PyData} (h : TD H v (.tuple [a, b])) : ∃ z x y, v = .ref z ∧ H z = some (.tup [x, y]) ∧ TD H x a ∧ TD H y b := by
  obtain ⟨z, zs, rfl, hz, t⟩ := td_view h
  obtain ⟨_, _, rfl, h0, t⟩ := t.un
  obtain ⟨_, _, rfl, h1, t⟩ := t.un
  cases t.nil_of
  exact ⟨z, _, _, rfl, hz, h0, h1⟩
theorem td3 {H : Hp} {v : V} {a b c : PyData} (h : TD H v (.tuple [a, b, c])) : ∃ z x y w, v = .ref z ∧ H z = some (.tup [x, y, w]) ∧ TD H x a ∧ TD H y b ∧ TD H w c := by
  obtain ⟨z, zs, rfl, hz, t⟩ := td_view h
  obtain ⟨_, _, rfl, h0, t⟩ := t.un
  obtain ⟨_, _, rfl, h1, t⟩ := t.un
  obtain ⟨_, _, rfl, h2, t⟩ := t.un
  cases t.nil_of
  exact ⟨z, _, _, _, rfl, hz, h0, h1, h2⟩
theorem td4 {H : Hp} {v : V} {a b c d : PyData} (h : TD H v (.tuple [a, b, c, d])) : ∃ z x y w u, v = .ref z ∧ H z = some (.tup [x, y, w, u]) ∧ TD H x a ∧ TD H y b ∧ TD H w c ∧ TD H u d := by
  obtain ⟨z, zs, rfl, hz, t⟩ := td_view h
  obtain ⟨_, _, rfl, h0, t⟩ := t.un
  obtain ⟨_, _, rfl, h1, t⟩ := t.un
  obtain ⟨_, _, rfl, h2, t⟩ := t.un
  obtain ⟨_, _, rfl, h3, t⟩ := t.un
  cases t.nil_of
  exact ⟨z, _, _, _, _, rfl, hz, h0, h1, h2, h3⟩
theorem td5 {H : Hp} {v : V} {a b c d e : PyData} (h : TD H v (.tuple [a, b, c, d, e])) : ∃ z x y w u p, v = .ref z ∧ H z = some (.tup [x, y, w, u, p]) ∧ TD H x a ∧ TD H y b ∧ TD H w c ∧ TD H u d ∧ TD H p e := by
  obtain ⟨z, zs, rfl, hz, t⟩ := td_view h
  obtain ⟨_, _, rfl, h0, t⟩ := t.un
  obtain ⟨_, _, rfl, h1, t⟩ := t.un
  obtain ⟨_, _, rfl, h2, t⟩ := t.un
  obtain ⟨_, _, rfl, h3, t⟩ := t.un
  obtain ⟨_, _, rfl, h4, t⟩ := t.un
  cases t.nil_of
  exact ⟨z, _, _, _, _, _, rfl, hz, h0, h1, h2, h3, h4⟩
def Sm.word : Sm → Str
  | .drw .. => "draw"
  | .mov .. => "move"
  | .shw .. => "show"
  | .pay _ => "pay"
  | .tak _ => "take"
  | .set .. => "set"
  | .brn i .. => wd i
theorem Sm.form {H : Hp} {v : V} (s : Sm) (h : TD H v s.data) : ∃ z vs, v = .ref z ∧ H z = some (.tup vs) ∧ atI vs 0 = some (.str s.word) := by
  have key : ∀ {d : PyData} {ds : List PyData} {w : Str}, s.data = .tuple (.str w :: ds) → w = s.word → ∃ z vs, v = .ref z ∧ H z = some (.tup vs) ∧ atI vs 0 = some (.str s.word) := by
    intro d ds w e ew
    rw [e] at h
    obtain ⟨z, zs, rfl, hz, t⟩ := td_view h
    cases t with
    | cons h0 t0 =>
      cases h0
      exact ⟨z, _, rfl, hz, by rw [← ew]; exact atI_nat (j := 0) rfl⟩
  cases s <;> exact key (d := .none) rfl rfl
theorem wd_ne {s : Sm} {x : Str} (e : V.str s.word = V.str x) : s.word = x := V.str.inj e
theorem Sm.three (s : Sm) : (∃ j t p q, s = .brn j t p q) ∨ (∃ pl x z n, s = .mov pl x z n) ∨ ((s.word ≠ "if" ∧ s.word ≠ "when" ∧ s.word ≠ "move") ∧ s.mv = 0 ∧ ∀ n, s.rn n = s) := by
  cases s with
  | brn j t p q => exact .inl ⟨_, _, _, _, rfl⟩
  | mov pl x z n => exact .inr (.inl ⟨_, _, _, _, rfl⟩)
  | drw x s => exact .inr (.inr ⟨⟨(by decide : ("draw" : Str) ≠ "if"), (by decide : ("draw" : Str) ≠ "when"), (by decide : ("draw" : Str) ≠ "move")⟩, rfl, fun _ => rfl⟩)
  | shw pl e => exact .inr (.inr ⟨⟨(by decide : ("show" : Str) ≠ "if"), (by decide : ("show" : Str) ≠ "when"), (by decide : ("show" : Str) ≠ "move")⟩, rfl, fun _ => rfl⟩)
  | pay e => exact .inr (.inr ⟨⟨(by decide : ("pay" : Str) ≠ "if"), (by decide : ("pay" : Str) ≠ "when"), (by decide : ("pay" : Str) ≠ "move")⟩, rfl, fun _ => rfl⟩)
  | tak e => exact .inr (.inr ⟨⟨(by decide : ("take" : Str) ≠ "if"), (by decide : ("take" : Str) ≠ "when"), (by decide : ("take" : Str) ≠ "move")⟩, rfl, fun _ => rfl⟩)
  | set x e => exact .inr (.inr ⟨⟨(by decide : ("set" : Str) ≠ "if"), (by decide : ("set" : Str) ≠ "when"), (by decide : ("set" : Str) ≠ "move")⟩, rfl, fun _ => rfl⟩)
def sp_moves (m : Nat) : Sp := fun vs H Q _ => ∃ v l, vs = [v] ∧ TD H v (.tuple (datas l)) ∧ Fit m l ∧ mvs l ≤ 1000 ∧ ∀ r ys H', H r = none → H' r = some (.lst ys) → ys.length = mvs l → Keep [] H H' → Q (.ref r) H'
section
variable {P : Program} {w : World} {K : PySem.W.Frag} {mg : Str → Option Value} {base : Heap} {C_Game : Addr} {C_GameError : Addr} {C_BadText : Addr} {C_BadMove : Addr} {C_BadEdit : Addr} {f_BadEdit___init : Addr}
theorem ok_moves0 {f : Addr} {fd : FuncData} (D : C8.Def K mg "moves_in" s_moves_in f fd) (b : Binds K fd ["block"] []) : C8.Cal P w K mg base 1 "moves_in" (sp_moves 0) [] :=
  ⟨f, fd, ["block"], [], ⟨fun vs H Q E h => (by obtain ⟨v, l, rfl, _⟩ := h; rfl), fun A outer s H args us vs Q E _ _ _ _ h => (by obtain ⟨v, l, _, _, z, _⟩ := h; exact z.elim)⟩, D.mgf, D.kp, b, .nil⟩
theorem ok_moves {f : Addr} {fd : FuncData} (D : C8.Def K mg "moves_in" s_moves_in f fd) (b : Binds K fd ["block"] []) (T : Txt K mg C_Game C_GameError C_BadText C_BadMove C_BadEdit) {m k : Nat} (c_moves_in : C8.Cal P w K mg base k "moves_in" (sp_moves m) []) : C8.Cal P w K mg base (k + 1) "moves_in" (sp_moves (m + 1)) [] := by
  refine cal0 D b .nil sc_moves_in (fun vs H Q E h => ?_) (fun cdv A outer s H vs Q E hr h => ?_)
  · obtain ⟨v, l, rfl, _⟩ := h
    rfl
  · obtain ⟨v, l, rfl, hT, hF, hM, k⟩ := h
    refine ⟨_, (pss_cons (ps_set (i := 1) sc_moves_in.nd rfl (by first | exact Or.inl rfl | exact Or.inr rfl) (pe_lst pa_nil))
(pss_cons (ps_for PassesOwn.never rfl (pi_tup (pv 0)) (pg_name (i := 2) sc_moves_in.nd rfl (by first | exact Or.inl rfl | exact Or.inr rfl))
  (pss_cons (ps_if (pt_cmpR op_eq (pe_ix ix_tup (pv 2) pe_int (fun _ _ => rfl)) pe_str (nomark _))
    (pss_one (ps_expr (pe_bm PySem.F.plainAttrs_list PySem.F.slot_list_append PySem.F.type_list_append mt_append (pv 1) (pa_cons (pe_tup (pa_cons (pe_ix ix_tup (pv 2) pe_int (fun _ _ => rfl)) (pa_cons (pe_ix ix_tup (pv 2) pe_int (fun _ _ => rfl)) pa_nil))) pa_nil))))
    pss_nil)
  (pss_one (ps_if (PW.pt (pw_or (pt_cmpR op_eq (pe_ix ix_tup (pv 2) pe_int (fun _ _ => rfl)) pe_str (nomark _)) (pw_or1 (pt_cmpR op_eq (pe_ix ix_tup (pv 2) pe_int (fun _ _ => rfl)) pe_str (nomark _)))))
    (pss_cons (ps_expr (pe_bm PySem.F.plainAttrs_list PySem.F.slot_list_extend PySem.F.type_list_extend mt_extend (pv 1) (pa_cons (pe_c c_moves_in hr (by first | exact Nat.le_refl _ | decide | omega) rfl (pa_cons (pe_ix ix_tup (pv 2) pe_int (fun _ _ => rfl)) pa_nil)) pa_nil)))
    (pss_one (ps_expr (pe_bm PySem.F.plainAttrs_list PySem.F.slot_list_extend PySem.F.type_list_extend mt_extend (pv 1) (pa_cons (pe_c c_moves_in hr (by first | exact Nat.le_refl _ | decide | omega) rfl (pa_cons (pe_ix ix_tup (pv 2) pe_int (fun _ _ => rfl)) pa_nil)) pa_nil)))))
    pss_nil))))
(pss_one (ps_ret (pv 1))))), ?_⟩
    obtain ⟨a, xs, rfl, ha, hx⟩ := td_view hT
    refine ⟨Nat.zero_le _, fun D nD => ?_⟩
    have K0 := Keep.new (W := []) (o := .lst []) nD
    refine ⟨_, rfl, _, rfl, ⟨_, SqT.of (K0 _ _ ha (by simp))⟩, for_tup (K := K) (a := a) (xs := xs) (fun (i : Nat) (σ : List (Option V)) (H' : Hp) => ∃ (o2 : Option V) (ys : List V), σ = [some (.ref a), some (.ref D), o2] ∧ H' D = some (.lst ys) ∧ ys.length = mvs (l.take i) ∧ Keep [] H H') ⟨none, [], rfl, upd_same, rfl, K0⟩ ?_ ?_ ?_⟩
    · rintro i σ H' _ ⟨o2, ys, rfl, _, _, K1⟩
      exact SqT.of (K1 _ _ ha (by simp))
    · rintro i x σ H' hxi ⟨o2, ys, rfl, hD, hy, K1⟩
      obtain ⟨st, hs, hd⟩ := datas_get hx hxi
      obtain ⟨hi, hl, hf, _⟩ := hF.at hs
      have hle := mvs_le hs
      have hd1 := hd.tk K1.tk
      rw [mvs_take hs]
      obtain ⟨z, vs, rfl, hz, h0⟩ := st.form hd1
      rcases st.three with ⟨j, t, p, q, rfl⟩ | ⟨pl, x, s', n, rfl⟩ | ⟨⟨w1, w2, w3⟩, e0, _⟩
      · obtain ⟨f1, f2⟩ := hf _ _ _ _ rfl
        simp only [Sm.mv] at hle ⊢
        obtain ⟨z', v0, v1, v2, v3, e, hz', d0, d1, d2, d3⟩ := td4 hd1
        cases e
        rw [hz] at hz'
        cases hz'
        cases td_str d0
        cases j
        all_goals refine ⟨_, rfl, _, _, _, _, rfl, rfl, SqT.of hz, rfl, rfl, _, rfl, iteDF (by decide) ?_⟩
        all_goals first | refine ⟨_, rfl, _, _, _, _, rfl, rfl, SqT.of hz, rfl, rfl, _, rfl, iteDF (by decide) ⟨_, rfl, _, _, _, _, rfl, rfl, SqT.of hz, rfl, rfl, _, rfl, iteDT rfl ?_⟩⟩ | refine ⟨_, rfl, _, _, _, _, rfl, rfl, SqT.of hz, rfl, rfl, _, rfl, iteDT rfl ?_⟩
        all_goals
          refine ⟨_, rfl, .inl ⟨rfl, _, SqL.of hD⟩, _, rfl, _, _, _, _, rfl, rfl, SqT.of hz, rfl, _, p, rfl, d2, f1, by omega, fun r1 ys1 H2 n1 h1 e1 K2 => ?_⟩
          refine ⟨D, r1, _, _, rfl, rfl, K2 _ _ hD (by simp), h1, by rw [hy, e1]; exact smallM (by omega), ?_⟩
          have K3 := (K1.trans K2).then_own (o := .lst (ys ++ ys1)) nD
          refine ⟨_, rfl, .inl ⟨rfl, _, SqL.of upd_same⟩, _, rfl, _, _, _, _, rfl, rfl, SqT.of (by rw [upd_ne (ne_of (K2 _ _ hz (by simp)) (K2 _ _ hD (by simp)) (by intro z; cases z))]; exact K2 _ _ hz (by simp)), rfl, _, q, rfl, d3.tk (K2.tk.trans (TK.lst (K2 _ _ hD (by simp)))), f2, by omega, fun r2 ys2 H3 n2 h2 e2 K4 => ?_⟩
          refine ⟨D, r2, _, _, rfl, rfl, K4 _ _ upd_same (by simp), h2, by rw [List.length_append, hy, e1, e2]; exact smallM (by omega), ?_⟩
          exact ⟨_, _, rfl, upd_same, by rw [List.length_append, List.length_append, hy, e1, e2]; omega, (K3.trans K4).then_own nD⟩
      · obtain ⟨z', v0, v1, v2, v3, v4, e, hz', d0, d1, d2, d3, d4⟩ := td5 hd1
        cases e
        rw [hz] at hz'
        cases hz'
        simp only [Sm.mv]
        refine ⟨_, rfl, _, _, _, _, rfl, rfl, SqT.of hz, h0, rfl, _, rfl, iteDT (by rw [show (Sm.mov pl x s' n).word = "move" from rfl]) ?_⟩
        refine ⟨_, rfl, .inl ⟨rfl, _, SqL.of hD⟩, _, rfl, _, _, _, _, rfl, rfl, SqT.of hz, rfl, _, rfl, _, _, _, _, rfl, rfl, SqT.of hz, rfl, by show 2 ≤ sizeLine; decide, fun t nt => ?_⟩
        have K2 := Keep.new (W := []) (o := .tup [v1, v3]) nt
        refine ⟨D, _, _, rfl, rfl, K2 _ _ hD (by simp), by rw [hy]; exact smallL (by omega), ?_⟩
        have K3 := (K1.trans K2).then_own (o := .lst (ys ++ [.ref t])) nD
        have hz3 := K3
        refine ⟨_, rfl, _, _, _, _, rfl, rfl, SqT.of (by rw [upd_ne (ne_of (K2 _ _ hz (by simp)) (K2 _ _ hD (by simp)) (by intro z; cases z))]; exact K2 _ _ hz (by simp)), h0, rfl, _, rfl, iteDF (fun z => absurd (wd_ne z) (by decide : ¬ ("move" : Str) = "if")) ?_⟩
        refine ⟨_, rfl, _, _, _, _, rfl, rfl, SqT.of (by rw [upd_ne (ne_of (K2 _ _ hz (by simp)) (K2 _ _ hD (by simp)) (by intro z; cases z))]; exact K2 _ _ hz (by simp)), h0, rfl, _, rfl, iteDF (fun z => absurd (wd_ne z) (by decide : ¬ ("move" : Str) = "when")) ?_⟩
        exact ⟨_, _, rfl, upd_same, by rw [List.length_append, hy]; rfl, K3⟩
      · refine ⟨_, rfl, _, _, _, _, rfl, rfl, SqT.of hz, h0, rfl, _, rfl, iteDF (fun z => w3 (wd_ne z)) ⟨_, rfl, _, _, _, _, rfl, rfl, SqT.of hz, h0, rfl, _, rfl, iteDF (fun z => w1 (wd_ne z)) ⟨_, rfl, _, _, _, _, rfl, rfl, SqT.of hz, h0, rfl, _, rfl, iteDF (fun z => w2 (wd_ne z)) ?_⟩⟩⟩
        exact ⟨_, _, rfl, hD, by rw [hy, e0]; rfl, K1⟩
    · rintro σ H' ⟨o2, ys, rfl, hD, hy, K1⟩
      rw [List.take_of_length_le (by have := hx.length; rw [datas_map, List.length_map] at this; omega)] at hy
      exact ⟨_, rfl, k _ _ _ nD hD hy K1⟩
theorem moves_all {f : Addr} {fd : FuncData} (D : C8.Def K mg "moves_in" s_moves_in f fd) (b : Binds K fd ["block"] []) (T : Txt K mg C_Game C_GameError C_BadText C_BadMove C_BadEdit) : ∀ m, C8.Cal P w K mg base (m + 1) "moves_in" (sp_moves m) []
  | 0 => ok_moves0 D b
  | m + 1 => ok_moves D b T (moves_all D b T m)
end

theorem sws_take {l : List Sm} {i : Nat} {s : Sm} (h : l[i]? = some s) : sws (l.take (i + 1)) = sws (l.take i) ++ [s.sw] := by
  rw [take_snoc h, sws_map, sws_map, List.map_append]; rfl
theorem datas_append (l r : List Sm) : datas (l ++ r) = datas l ++ datas r := by rw [datas_map, datas_map, datas_map, List.map_append]
def sp_sw (m : Nat) : Sp := fun vs H Q _ => ∃ v l, vs = [v] ∧ TD H v (.tuple (datas l)) ∧ Fit m l ∧ ∀ r H', TD H' r (.tuple (datas (sws l))) → Keep [] H H' → Q r H'
section
variable {P : Program} {w : World} {K : PySem.W.Frag} {mg : Str → Option Value} {base : Heap} {C_Game : Addr} {C_GameError : Addr} {C_BadText : Addr} {C_BadMove : Addr} {C_BadEdit : Addr} {f_BadEdit___init : Addr}
theorem ok_sw0 {f : Addr} {fd : FuncData} (D : C8.Def K mg "swapped_block" s_swapped_block f fd) (b : Binds K fd ["block"] []) : C8.Cal P w K mg base 1 "swapped_block" (sp_sw 0) [] :=
  ⟨f, fd, ["block"], [], ⟨fun vs H Q E h => (by obtain ⟨v, l, rfl, _⟩ := h; rfl), fun A outer s H args us vs Q E _ _ _ _ h => (by obtain ⟨v, l, _, _, z, _⟩ := h; exact z.elim)⟩, D.mgf, D.kp, b, .nil⟩
theorem ok_sw {f : Addr} {fd : FuncData} (D : C8.Def K mg "swapped_block" s_swapped_block f fd) (b : Binds K fd ["block"] []) (T : Txt K mg C_Game C_GameError C_BadText C_BadMove C_BadEdit) {m k : Nat} (c_swapped_block : C8.Cal P w K mg base k "swapped_block" (sp_sw m) []) : C8.Cal P w K mg base (k + 1) "swapped_block" (sp_sw (m + 1)) [] := by
  refine cal0 D b .nil sc_swapped_block (fun vs H Q E h => ?_) (fun cdv A outer s H vs Q E hr h => ?_)
  · obtain ⟨v, l, rfl, _⟩ := h
    rfl
  · obtain ⟨v, l, rfl, hT, hF, k⟩ := h
    refine ⟨_, (pss_cons (ps_set (i := 1) sc_swapped_block.nd rfl (by first | exact Or.inl rfl | exact Or.inr rfl) (pe_lst pa_nil))
(pss_cons (ps_for PassesOwn.never rfl (pi_tup (pv 0)) (pg_name (i := 2) sc_swapped_block.nd rfl (by first | exact Or.inl rfl | exact Or.inr rfl))
  (pss_cons (ps_set (i := 3) sc_swapped_block.nd rfl (by first | exact Or.inl rfl | exact Or.inr rfl) (pe_ix ix_tup (pv 2) pe_int (fun _ _ => rfl)))
  (pss_one (ps_if (PW.pt (pw_or (pt_cmpR op_eq (pv 3) pe_str (nomark _)) (pw_or1 (pt_cmpR op_eq (pv 3) pe_str (nomark _)))))
    (pss_one (ps_expr (pe_bm PySem.F.plainAttrs_list PySem.F.slot_list_append PySem.F.type_list_append mt_append (pv 1) (pa_cons (pe_tup (pa_cons (pv 3) (pa_cons (pe_ix ix_tup (pv 2) pe_int (fun _ _ => rfl)) (pa_cons (pe_c c_swapped_block hr (by first | exact Nat.le_refl _ | decide | omega) rfl (pa_cons (pe_ix ix_tup (pv 2) pe_int (fun _ _ => rfl)) pa_nil)) (pa_cons (pe_c c_swapped_block hr (by first | exact Nat.le_refl _ | decide | omega) rfl (pa_cons (pe_ix ix_tup (pv 2) pe_int (fun _ _ => rfl)) pa_nil)) pa_nil))))) pa_nil))))
    (pss_one (ps_if (pt_cmpR op_eq (pv 3) pe_str (nomark _))
      (pss_one (ps_expr (pe_bm PySem.F.plainAttrs_list PySem.F.slot_list_append PySem.F.type_list_append mt_append (pv 1) (pa_cons (pe_op op_catT (pe_tup (pa_cons (pv 3) (pa_cons (pe_op op_sub pe_int (pe_ix ix_tup (pv 2) pe_int (fun _ _ => rfl))) pa_nil))) (pe_slice sl_tup (pv 2) (po_some pe_int) po_none)) pa_nil))))
      (pss_one (ps_if (PW.pt (pw_and (pt_cmpR op_eq (pv 3) pe_str (nomark _)) (pw_and1 (pt_cmpR op_ne (pe_ix ix_tup (pv 2) pe_int (fun _ _ => rfl)) pe_int (nomark _)))))
        (pss_one (ps_expr (pe_bm PySem.F.plainAttrs_list PySem.F.slot_list_append PySem.F.type_list_append mt_append (pv 1) (pa_cons (pe_tup (pa_cons (pv 3) (pa_cons (pe_op op_sub pe_int (pe_ix ix_tup (pv 2) pe_int (fun _ _ => rfl))) (pa_cons (pe_ix ix_tup (pv 2) pe_int (fun _ _ => rfl)) pa_nil)))) pa_nil))))
        (pss_one (ps_if (pt_cmpR op_eq (pv 3) pe_str (nomark _))
          (pss_one (ps_expr (pe_bm PySem.F.plainAttrs_list PySem.F.slot_list_append PySem.F.type_list_append mt_append (pv 1) (pa_cons (pe_tup (pa_cons pe_str (pa_cons (pe_ix ix_tup (pv 2) pe_int (fun _ _ => rfl)) pa_nil))) pa_nil))))
          (pss_one (ps_if (pt_cmpR op_eq (pv 3) pe_str (nomark _))
            (pss_one (ps_expr (pe_bm PySem.F.plainAttrs_list PySem.F.slot_list_append PySem.F.type_list_append mt_append (pv 1) (pa_cons (pe_tup (pa_cons pe_str (pa_cons (pe_ix ix_tup (pv 2) pe_int (fun _ _ => rfl)) pa_nil))) pa_nil))))
            (pss_one (ps_expr (pe_bm PySem.F.plainAttrs_list PySem.F.slot_list_append PySem.F.type_list_append mt_append (pv 1) (pa_cons (pv 2) pa_nil))))))))))))))))
(pss_one (ps_ret (pe_callTy call_tuple_of (by rfl) T.n_tuple bo_tuple (pa_cons (pv 1) pa_nil)))))), ?_⟩
    obtain ⟨a, xs, rfl, ha, hx⟩ := td_view hT
    refine ⟨Nat.zero_le _, fun D nD => ?_⟩
    have K0 := Keep.new (W := []) (o := .lst []) nD
    refine ⟨_, rfl, _, rfl, ⟨_, SqT.of (K0 _ _ ha (by simp))⟩, for_tup (K := K) (a := a) (xs := xs) (fun (i : Nat) (σ : List (Option V)) (H' : Hp) => ∃ (o2 o3 : Option V) (ys : List V), σ = [some (.ref a), some (.ref D), o2, o3] ∧ H' D = some (.lst ys) ∧ TDs H' ys (datas (sws (l.take i))) ∧ Keep [] H H') ⟨none, none, [], rfl, upd_same, .nil, K0⟩ ?_ ?_ ?_⟩
    · rintro i σ H' _ ⟨o2, o3, ys, rfl, _, _, K1⟩
      exact SqT.of (K1 _ _ ha (by simp))
    · rintro i x σ H' hxi ⟨o2, o3, ys, rfl, hD, hy, K1⟩
      obtain ⟨st, hs, hd⟩ := datas_get hx hxi
      obtain ⟨hi, hl, hf, _⟩ := hF.at hs
      have hd1 := hd.tk K1.tk
      have hyl : ys.length = i := by
        rw [hy.length, datas_map, sws_map, List.length_map, List.length_map, List.length_take]; omega
      rw [sws_take hs, datas_append]
      have fin : ∀ {H2 : Hp} {r : V} {o3 : Option V}, H2 D = some (.lst ys) → TDs H2 ys (datas (sws (l.take i))) → TD H2 r st.sw.data → Keep [] H H2 →
          ∃ (o2 o3' : Option V) (zs : List V), [some (.ref a), some (.ref D), some x, o3] = [some (.ref a), some (.ref D), o2, o3'] ∧ upd H2 D (.lst (ys ++ [r])) D = some (.lst zs) ∧ TDs (upd H2 D (.lst (ys ++ [r]))) zs (datas (sws (l.take i)) ++ datas [st.sw]) ∧ Keep [] H (upd H2 D (.lst (ys ++ [r]))) := fun h1 h2 h3 h4 =>
        ⟨_, _, _, rfl, upd_same, (h2.tk (TK.lst h1)).append (.cons (h3.tk (TK.lst h1)) .nil), h4.then_own nD⟩
      obtain ⟨z, vs, rfl, hz, h0⟩ := st.form hd1
      refine ⟨_, rfl, _, _, _, _, rfl, rfl, SqT.of hz, h0, ?_⟩
      have KN : ∀ {t : Addr} {o : HO}, H' t = none → (upd H' t o) D = some (.lst ys) ∧ TK H' (upd H' t o) ∧ Keep [] H (upd H' t o) := fun n => ⟨by rw [upd_ne (ne_of_none hD n)]; exact hD, TK.new n, K1.then_new n⟩
      have lm : ys.length < sizeLine := by rw [hyl]; exact smallL (by omega)
      have sm4 : 4 ≤ sizeLine := by decide
      cases st with
      | brn j t p q =>
        obtain ⟨f1, f2⟩ := hf _ _ _ _ rfl
        obtain ⟨z', v0, v1, v2, v3, e, hz', d0, d1, d2, d3⟩ := td4 hd1
        cases e
        rw [hz] at hz'
        cases hz'
        cases td_str d0
        rcases (show wd j = "if" ∨ (wd j ≠ "if" ∧ wd j = "when") by
          cases j
          · exact .inr ⟨by decide, rfl⟩
          · exact .inl rfl) with e1 | ⟨e1, e2⟩
        all_goals first | refine ⟨_, rfl, rfl, _, rfl, iteDT (congrArg V.str e1) ?_⟩ | refine ⟨_, rfl, rfl, _, rfl, iteDF (fun z => e1 (wd_ne z)) ⟨_, rfl, rfl, _, rfl, iteDT (congrArg V.str e2) ?_⟩⟩
        all_goals
          refine ⟨_, rfl, .inl ⟨rfl, _, SqL.of hD⟩, _, rfl, _, rfl, _, _, _, _, rfl, rfl, SqT.of hz, rfl, _, rfl, _, _, _, _, rfl, rfl, SqT.of hz, rfl, _, p, rfl, d2, f1, fun r1 H2 t1 K2 => ?_⟩
          refine ⟨_, rfl, _, _, _, _, rfl, rfl, SqT.of (K2 _ _ hz (by simp)), rfl, _, q, rfl, d3.tk K2.tk, f2, fun r2 H3 t2 K3 => ?_⟩
          refine ⟨by show 4 ≤ sizeLine; decide, fun t nt => ?_⟩
          have K4 := Keep.new (W := []) (o := .tup [V.str (wd j), v1, r1, r2]) nt
          have K5 := (K2.trans K3).trans K4
          refine ⟨D, _, _, rfl, rfl, K5 _ _ hD (by simp), lm, fin (K5 _ _ hD (by simp)) (hy.tk K5.tk) ?_ (K1.trans K5)⟩
          exact .tup upd_same (.cons (.str _) (.cons (d1.tk K5.tk) (.cons (t1.tk (K3.trans K4).tk) (.cons (t2.tk K4.tk) .nil))))
      | mov pl x s n =>
        obtain ⟨z', v0, v1, v2, v3, v4, e, hz', d0, d1, d2, d3, d4⟩ := td5 hd1
        cases e
        rw [hz] at hz'
        cases hz'
        cases td_str d0
        cases td_int d1
        refine ⟨_, rfl, rfl, _, rfl, iteDF (fun z => absurd (wd_ne z) (by decide : ¬ ("move" : Str) = "if")) ⟨_, rfl, rfl, _, rfl, iteDF (fun z => absurd (wd_ne z) (by decide : ¬ ("move" : Str) = "when")) ⟨_, rfl, rfl, _, rfl, iteDT rfl ?_⟩⟩⟩
        refine ⟨_, rfl, .inl ⟨rfl, _, SqL.of hD⟩, _, rfl, _, rfl, _, _, _, _, rfl, rfl, SqT.of hz, rfl, _, _, rfl, rfl, by show 2 ≤ sizeLine; decide, fun t nt => ?_⟩
        obtain ⟨g1, g2, g3⟩ := KN (o := .tup [.str "move", .int (3 - pl)]) nt
        refine ⟨_, rfl, _, rfl, z, _, rfl, SqT.of (g2 _ _ hz), (by rintro ⟨h, _⟩; revert h; show HT.sIx 5 0 (some 2) = 0 → False; decide), fun t2 n2 => ?_⟩
        have c5 : cutV [V.str "move", V.int pl, v2, v3, v4] (some 2) none = [v2, v3, v4] := by rfl
        rw [c5]
        have g4 := TK.new (o := .tup [v2, v3, v4]) n2
        refine ⟨t, t2, _, _, rfl, rfl, SqT.of (g4 _ _ upd_same), SqT.of upd_same, (by intro z; cases z), by show 5 ≤ sizeLine; decide, (fun z => by cases z), fun _ t3 n3 => ?_⟩
        have g5 := TK.new (o := .tup ([.str "move", .int (3 - pl)] ++ [v2, v3, v4])) n3
        have L1 : ∀ {H2 : Hp} {t : Addr} {o : HO}, H2 D = some (.lst ys) → H2 t = none → upd H2 t o D = some (.lst ys) := fun h n => by rw [upd_ne (ne_of_none h n)]; exact h
        have g6 := (g2.trans g4).trans g5
        refine ⟨D, _, _, rfl, rfl, L1 (L1 g1 n2) n3, lm, fin (L1 (L1 g1 n2) n3) (hy.tk g6) ?_ ((g3.then_new n2).then_new n3)⟩
        exact .tup upd_same (.cons (.str _) (.cons (.int _) (.cons (d2.tk g6) (.cons (d3.tk g6) (.cons (d4.tk g6) .nil)))))
      | shw pl e =>
        obtain ⟨z', v0, v1, v2, e, hz', d0, d1, d2⟩ := td3 hd1
        cases e
        rw [hz] at hz'
        cases hz'
        cases td_str d0
        cases td_int d1
        refine ⟨_, rfl, rfl, _, rfl, iteDF (fun z => absurd (wd_ne z) (by decide : ¬ ("show" : Str) = "if")) ⟨_, rfl, rfl, _, rfl, iteDF (fun z => absurd (wd_ne z) (by decide : ¬ ("show" : Str) = "when")) ⟨_, rfl, rfl, _, rfl, iteDF (fun z => absurd (wd_ne z) (by decide : ¬ ("show" : Str) = "move")) ⟨_, rfl, rfl, _, rfl, iteDT rfl ⟨_, rfl, _, _, _, _, rfl, rfl, SqT.of hz, rfl, rfl, _, rfl, iteN (fun hn => ?_) (fun hn => ?_)⟩⟩⟩⟩⟩
        · refine ⟨_, rfl, .inl ⟨rfl, _, SqL.of hD⟩, _, rfl, _, rfl, _, _, _, _, rfl, rfl, SqT.of hz, rfl, _, _, rfl, rfl, _, rfl, _, _, _, _, rfl, rfl, SqT.of hz, rfl, by show 3 ≤ sizeLine; decide, fun t nt => ?_⟩
          obtain ⟨g1, g2, g3⟩ := KN (o := .tup [.str "show", .int (3 - pl), v2]) nt
          refine ⟨D, _, _, rfl, rfl, g1, lm, fin g1 (hy.tk g2) ?_ g3⟩
          simp only [Sm.sw]
          rw [if_neg (fun z => hn (by rw [z]))]
          exact .tup upd_same (.cons (.str _) (.cons (.int _) (.cons (d2.tk g2) .nil)))
        · refine ⟨_, rfl, rfl, _, rfl, iteDF (fun z => absurd (wd_ne z) (by decide : ¬ ("show" : Str) = "pay")) ⟨_, rfl, rfl, _, rfl, iteDF (fun z => absurd (wd_ne z) (by decide : ¬ ("show" : Str) = "take")) ⟨_, rfl, .inl ⟨rfl, _, SqL.of hD⟩, _, rfl, D, _, _, rfl, rfl, hD, lm, fin hD hy ?_ K1⟩⟩⟩
          simp only [Sm.sw]
          rw [if_pos (V.int.inj hn)]
          exact hd1
      | pay e =>
        obtain ⟨z', v0, v1, e, hz', d0, d1⟩ := td2 hd1
        cases e
        rw [hz] at hz'
        cases hz'
        cases td_str d0
        refine ⟨_, rfl, rfl, _, rfl, iteDF (fun z => absurd (wd_ne z) (by decide : ¬ ("pay" : Str) = "if")) ⟨_, rfl, rfl, _, rfl, iteDF (fun z => absurd (wd_ne z) (by decide : ¬ ("pay" : Str) = "when")) ⟨_, rfl, rfl, _, rfl, iteDF (fun z => absurd (wd_ne z) (by decide : ¬ ("pay" : Str) = "move")) ⟨_, rfl, rfl, _, rfl, iteDF (fun z => absurd (wd_ne z) (by decide : ¬ ("pay" : Str) = "show")) ⟨_, rfl, rfl, _, rfl, iteDT rfl ?_⟩⟩⟩⟩⟩
        refine ⟨_, rfl, .inl ⟨rfl, _, SqL.of hD⟩, _, rfl, _, _, _, _, rfl, rfl, SqT.of hz, rfl, by show 2 ≤ sizeLine; decide, fun t nt => ?_⟩
        obtain ⟨g1, g2, g3⟩ := KN (o := .tup [.str "take", v1]) nt
        exact ⟨D, _, _, rfl, rfl, g1, lm, fin g1 (hy.tk g2) (.tup upd_same (.cons (.str _) (.cons (d1.tk g2) .nil))) g3⟩
      | tak e =>
        obtain ⟨z', v0, v1, e, hz', d0, d1⟩ := td2 hd1
        cases e
        rw [hz] at hz'
        cases hz'
        cases td_str d0
        refine ⟨_, rfl, rfl, _, rfl, iteDF (fun z => absurd (wd_ne z) (by decide : ¬ ("take" : Str) = "if")) ⟨_, rfl, rfl, _, rfl, iteDF (fun z => absurd (wd_ne z) (by decide : ¬ ("take" : Str) = "when")) ⟨_, rfl, rfl, _, rfl, iteDF (fun z => absurd (wd_ne z) (by decide : ¬ ("take" : Str) = "move")) ⟨_, rfl, rfl, _, rfl, iteDF (fun z => absurd (wd_ne z) (by decide : ¬ ("take" : Str) = "show")) ⟨_, rfl, rfl, _, rfl, iteDF (fun z => absurd (wd_ne z) (by decide : ¬ ("take" : Str) = "pay")) ⟨_, rfl, rfl, _, rfl, iteDT rfl ?_⟩⟩⟩⟩⟩⟩
        refine ⟨_, rfl, .inl ⟨rfl, _, SqL.of hD⟩, _, rfl, _, _, _, _, rfl, rfl, SqT.of hz, rfl, by show 2 ≤ sizeLine; decide, fun t nt => ?_⟩
        obtain ⟨g1, g2, g3⟩ := KN (o := .tup [.str "pay", v1]) nt
        exact ⟨D, _, _, rfl, rfl, g1, lm, fin g1 (hy.tk g2) (.tup upd_same (.cons (.str _) (.cons (d1.tk g2) .nil))) g3⟩
      | drw x s => exact ⟨_, rfl, rfl, _, rfl, iteDF (fun z => absurd (wd_ne z) (by decide : ¬ ("draw" : Str) = "if")) ⟨_, rfl, rfl, _, rfl, iteDF (fun z => absurd (wd_ne z) (by decide : ¬ ("draw" : Str) = "when")) ⟨_, rfl, rfl, _, rfl, iteDF (fun z => absurd (wd_ne z) (by decide : ¬ ("draw" : Str) = "move")) ⟨_, rfl, rfl, _, rfl, iteDF (fun z => absurd (wd_ne z) (by decide : ¬ ("draw" : Str) = "show")) ⟨_, rfl, rfl, _, rfl, iteDF (fun z => absurd (wd_ne z) (by decide : ¬ ("draw" : Str) = "pay")) ⟨_, rfl, rfl, _, rfl, iteDF (fun z => absurd (wd_ne z) (by decide : ¬ ("draw" : Str) = "take")) ⟨_, rfl, .inl ⟨rfl, _, SqL.of hD⟩, _, rfl, D, _, _, rfl, rfl, hD, lm, fin hD hy hd1 K1⟩⟩⟩⟩⟩⟩⟩
      | set x e => exact ⟨_, rfl, rfl, _, rfl, iteDF (fun z => absurd (wd_ne z) (by decide : ¬ ("set" : Str) = "if")) ⟨_, rfl, rfl, _, rfl, iteDF (fun z => absurd (wd_ne z) (by decide : ¬ ("set" : Str) = "when")) ⟨_, rfl, rfl, _, rfl, iteDF (fun z => absurd (wd_ne z) (by decide : ¬ ("set" : Str) = "move")) ⟨_, rfl, rfl, _, rfl, iteDF (fun z => absurd (wd_ne z) (by decide : ¬ ("set" : Str) = "show")) ⟨_, rfl, rfl, _, rfl, iteDF (fun z => absurd (wd_ne z) (by decide : ¬ ("set" : Str) = "pay")) ⟨_, rfl, rfl, _, rfl, iteDF (fun z => absurd (wd_ne z) (by decide : ¬ ("set" : Str) = "take")) ⟨_, rfl, .inl ⟨rfl, _, SqL.of hD⟩, _, rfl, D, _, _, rfl, rfl, hD, lm, fin hD hy hd1 K1⟩⟩⟩⟩⟩⟩⟩
    · rintro σ H' ⟨o2, o3, ys, rfl, hD, hy, K1⟩
      have e : l.take xs.length = l := List.take_of_length_le (by have := hx.length; rw [datas_map, List.length_map] at this; omega)
      rw [e] at hy
      exact ⟨_, rfl, D, ys, rfl, .inl ⟨SqL.of hD, fun t nt => k _ _ (.tup upd_same (hy.tk (TK.new nt))) (K1.then_new nt)⟩⟩
theorem sw_all {f : Addr} {fd : FuncData} (D : C8.Def K mg "swapped_block" s_swapped_block f fd) (b : Binds K fd ["block"] []) (T : Txt K mg C_Game C_GameError C_BadText C_BadMove C_BadEdit) : ∀ m, C8.Cal P w K mg base (m + 1) "swapped_block" (sp_sw m) []
  | 0 => ok_sw0 D b
  | m + 1 => ok_sw D b T (sw_all D b T m)
end

theorem iteBF {b : Bool} {A B : Prop} (h : b = false) (k : B) : if b = true then A else B := by rw [h]; exact iteF k
theorem iteBT {b : Bool} {A B : Prop} (h : b = true) (k : A) : if b = true then A else B := by rw [h]; exact iteT k
theorem wd_in (j : Bool) : inV (V.str (wd j)) [V.str "if", V.str "when"] = true := by cases j <;> decide
section
variable {P : Program} {w : World} {K : PySem.W.Frag} {mg : Str → Option Value} {base : Heap} {C_Game : Addr} {C_GameError : Addr} {C_BadText : Addr} {C_BadMove : Addr} {C_BadEdit : Addr} {f_BadEdit___init : Addr}
theorem ok_lsw0 {f : Addr} {fd : FuncData} (D : C8.Def K mg "_law_swapped" s_law_swapped f fd) (b : Binds K fd ["block"] []) : C8.Cal P w K mg base 1 "_law_swapped" (sp_sw 0) [] :=
  ⟨f, fd, ["block"], [], ⟨fun vs H Q E h => (by obtain ⟨v, l, rfl, _⟩ := h; rfl), fun A outer s H args us vs Q E _ _ _ _ h => (by obtain ⟨v, l, _, _, z, _⟩ := h; exact z.elim)⟩, D.mgf, D.kp, b, .nil⟩
theorem ok_lsw {f : Addr} {fd : FuncData} (D : C8.Def K mg "_law_swapped" s_law_swapped f fd) (b : Binds K fd ["block"] []) (T : Txt K mg C_Game C_GameError C_BadText C_BadMove C_BadEdit) {m k : Nat} (c_law_swapped : C8.Cal P w K mg base k "_law_swapped" (sp_sw m) []) : C8.Cal P w K mg base (k + 1) "_law_swapped" (sp_sw (m + 1)) [] := by
  refine cal0 D b .nil sc_law_swapped (fun vs H Q E h => ?_) (fun cdv A outer s H vs Q E hr h => ?_)
  · obtain ⟨v, l, rfl, _⟩ := h
    rfl
  · obtain ⟨v, l, rfl, hT, hF, k⟩ := h
    refine ⟨_, (pss_cons (ps_set (i := 1) sc_law_swapped.nd rfl (by first | exact Or.inl rfl | exact Or.inr rfl) (pe_lst pa_nil))
(pss_cons (ps_for PassesOwn.never rfl (pi_tup (pv 0)) (pg_name (i := 2) sc_law_swapped.nd rfl (by first | exact Or.inl rfl | exact Or.inr rfl))
  (pss_cons (ps_if (pt_cmpR op_in_seq (pe_ix ix_tup (pv 2) pe_int (fun _ _ => rfl)) (pe_tup (pa_cons pe_str (pa_cons pe_str pa_nil))) (by rfl))
    (pss_one (ps_set (i := 2) sc_law_swapped.nd rfl (by first | exact Or.inl rfl | exact Or.inr rfl) (pe_tup (pa_cons (pe_ix ix_tup (pv 2) pe_int (fun _ _ => rfl)) (pa_cons (pe_ix ix_tup (pv 2) pe_int (fun _ _ => rfl)) (pa_cons (pe_c c_law_swapped hr (by first | exact Nat.le_refl _ | decide | omega) rfl (pa_cons (pe_ix ix_tup (pv 2) pe_int (fun _ _ => rfl)) pa_nil)) (pa_cons (pe_c c_law_swapped hr (by first | exact Nat.le_refl _ | decide | omega) rfl (pa_cons (pe_ix ix_tup (pv 2) pe_int (fun _ _ => rfl)) pa_nil)) pa_nil)))))))
    (pss_one (ps_if (pt_cmpR op_eq (pe_ix ix_tup (pv 2) pe_int (fun _ _ => rfl)) pe_str (nomark _))
      (pss_one (ps_set (i := 2) sc_law_swapped.nd rfl (by first | exact Or.inl rfl | exact Or.inr rfl) (pe_op op_catT (pe_tup (pa_cons pe_str (pa_cons (pe_op op_sub pe_int (pe_ix ix_tup (pv 2) pe_int (fun _ _ => rfl))) pa_nil))) (pe_slice sl_tup (pv 2) (po_some pe_int) po_none))))
      (pss_one (ps_if (pt_cmpR op_eq (pe_ix ix_tup (pv 2) pe_int (fun _ _ => rfl)) pe_str (nomark _))
        (pss_one (ps_set (i := 2) sc_law_swapped.nd rfl (by first | exact Or.inl rfl | exact Or.inr rfl) (pe_tup (pa_cons pe_str (pa_cons (pe_ix ix_tup (pe_tup (pa_cons pe_int (pa_cons pe_int (pa_cons pe_int pa_nil)))) (pe_ix ix_tup (pv 2) pe_int (fun _ _ => rfl)) (fun _ _ => rfl)) (pa_cons (pe_ix ix_tup (pv 2) pe_int (fun _ _ => rfl)) pa_nil))))))
        (pss_one (ps_if (pt_cmpR op_in_seq (pe_ix ix_tup (pv 2) pe_int (fun _ _ => rfl)) (pe_tup (pa_cons pe_str (pa_cons pe_str pa_nil))) (by rfl))
          (pss_one (ps_set (i := 2) sc_law_swapped.nd rfl (by first | exact Or.inl rfl | exact Or.inr rfl) (pe_tup (pa_cons (pe_ix ix_tup (pe_tup (pa_cons pe_str (pa_cons pe_str pa_nil))) (pe_callTy call_int1 (by rfl) T.n_int bo_int (pa_cons (pe_cmpR op_eq (pe_ix ix_tup (pv 2) pe_int (fun _ _ => rfl)) pe_str (nomark _)) pa_nil)) (fun _ _ => rfl)) (pa_cons (pe_ix ix_tup (pv 2) pe_int (fun _ _ => rfl)) pa_nil)))))
          pss_nil)))))))
  (pss_one (ps_expr (pe_bm PySem.F.plainAttrs_list PySem.F.slot_list_append PySem.F.type_list_append mt_append (pv 1) (pa_cons (pv 2) pa_nil))))))
(pss_one (ps_ret (pe_callTy call_tuple_of (by rfl) T.n_tuple bo_tuple (pa_cons (pv 1) pa_nil)))))), ?_⟩
    obtain ⟨a, xs, rfl, ha, hx⟩ := td_view hT
    refine ⟨Nat.zero_le _, fun D nD => ?_⟩
    have K0 := Keep.new (W := []) (o := .lst []) nD
    refine ⟨_, rfl, _, rfl, ⟨_, SqT.of (K0 _ _ ha (by simp))⟩, for_tup (K := K) (a := a) (xs := xs) (fun (i : Nat) (σ : List (Option V)) (H' : Hp) => ∃ (o2 : Option V) (ys : List V), σ = [some (.ref a), some (.ref D), o2] ∧ H' D = some (.lst ys) ∧ TDs H' ys (datas (sws (l.take i))) ∧ Keep [] H H') ⟨none, [], rfl, upd_same, .nil, K0⟩ ?_ ?_ ?_⟩
    · rintro i σ H' _ ⟨o2, ys, rfl, _, _, K1⟩
      exact SqT.of (K1 _ _ ha (by simp))
    · rintro i x σ H0 hxi ⟨o2, ys, rfl, hD0, hy0, K1'⟩
      obtain ⟨st, hs, hd⟩ := datas_get hx hxi
      obtain ⟨hi, hl, hf, hsh⟩ := hF.at hs
      obtain ⟨z, vs, rfl, hz', h0⟩ := st.form (hd.tk K1'.tk)
      have hyl : ys.length = i := by
        rw [hy0.length, datas_map, sws_map, List.length_map, List.length_map, List.length_take]; omega
      rw [sws_take hs, datas_append]
      refine ⟨_, rfl, _, _, _, _, rfl, rfl, SqT.of hz', h0, by show 2 ≤ sizeLine; decide, fun t0 n0 => ⟨t0, _, rfl, .inr (SqT.of upd_same), rfl, rfl, _, rfl, ?_⟩⟩
      have K1 := K1'.then_new (o := .tup [.str "if", .str "when"]) n0
      have hD : upd H0 t0 (.tup [.str "if", .str "when"]) D = some (.lst ys) := by rw [upd_ne (ne_of_none hD0 n0)]; exact hD0
      have hy := hy0.tk (TK.new (o := .tup [.str "if", .str "when"]) n0)
      have hz := TK.new (o := .tup [.str "if", .str "when"]) n0 _ _ hz'
      have hd1 := (hd.tk K1'.tk).tk (TK.new (o := .tup [.str "if", .str "when"]) n0)
      clear hD0 hy0 K1' hz'
      revert hD hy hz hd1 K1
      generalize upd H0 t0 (.tup [.str "if", .str "when"]) = H'
      intro K1 hD hy hz hd1
      have fin : ∀ {H2 : Hp} {r : V}, H2 D = some (.lst ys) → TDs H2 ys (datas (sws (l.take i))) → TD H2 r st.sw.data → Keep [] H H2 →
          ∃ (o2 : Option V) (zs : List V), [some (.ref a), some (.ref D), some r] = [some (.ref a), some (.ref D), o2] ∧ upd H2 D (.lst (ys ++ [r])) D = some (.lst zs) ∧ TDs (upd H2 D (.lst (ys ++ [r]))) zs (datas (sws (l.take i)) ++ datas [st.sw]) ∧ Keep [] H (upd H2 D (.lst (ys ++ [r]))) := fun h1 h2 h3 h4 =>
        ⟨_, _, rfl, upd_same, (h2.tk (TK.lst h1)).append (.cons (h3.tk (TK.lst h1)) .nil), h4.then_own nD⟩
      have KN : ∀ {t : Addr} {o : HO}, H' t = none → (upd H' t o) D = some (.lst ys) ∧ TK H' (upd H' t o) ∧ Keep [] H (upd H' t o) := fun n => ⟨by rw [upd_ne (ne_of_none hD n)]; exact hD, TK.new n, K1.then_new n⟩
      have L1 : ∀ {H2 : Hp} {t : Addr} {o : HO}, H2 D = some (.lst ys) → H2 t = none → upd H2 t o D = some (.lst ys) := fun h n => by rw [upd_ne (ne_of_none h n)]; exact h
      have lm : ys.length < sizeLine := by rw [hyl]; exact smallL (by omega)
      cases st with
      | brn j t p q =>
        obtain ⟨f1, f2⟩ := hf _ _ _ _ rfl
        obtain ⟨z', v0, v1, v2, v3, e, hz', d0, d1, d2, d3⟩ := td4 hd1
        cases e
        rw [hz] at hz'
        cases hz'
        cases td_str d0
        refine iteBT (wd_in j) ?_
        refine ⟨_, rfl, _, _, _, _, rfl, rfl, SqT.of hz, rfl, _, rfl, _, _, _, _, rfl, rfl, SqT.of hz, rfl, _, rfl, _, _, _, _, rfl, rfl, SqT.of hz, rfl, _, p, rfl, d2, f1, fun r1 H2 t1 K2 => ?_⟩
        refine ⟨_, rfl, _, _, _, _, rfl, rfl, SqT.of (K2 _ _ hz (by simp)), rfl, _, q, rfl, d3.tk K2.tk, f2, fun r2 H3 t2 K3 => ?_⟩
        refine ⟨by show 4 ≤ sizeLine; decide, fun t nt => ?_⟩
        have K4 := Keep.new (W := []) (o := .tup [V.str (wd j), v1, r1, r2]) nt
        have K5 := (K2.trans K3).trans K4
        refine ⟨_, rfl, .inl ⟨rfl, _, SqL.of (K5 _ _ hD (by simp))⟩, _, rfl, D, _, _, rfl, rfl, K5 _ _ hD (by simp), lm, fin (K5 _ _ hD (by simp)) (hy.tk K5.tk) ?_ (K1.trans K5)⟩
        exact .tup upd_same (.cons (.str _) (.cons (d1.tk K5.tk) (.cons (t1.tk (K3.trans K4).tk) (.cons (t2.tk K4.tk) .nil))))
      | mov pl x s n =>
        obtain ⟨z', v0, v1, v2, v3, v4, e, hz', d0, d1, d2, d3, d4⟩ := td5 hd1
        cases e
        rw [hz] at hz'
        cases hz'
        cases td_str d0
        cases td_int d1
        refine iteBF (show inV (V.str "move") [V.str "if", V.str "when"] = false by decide) ⟨_, rfl, _, _, _, _, rfl, rfl, SqT.of hz, rfl, rfl, _, rfl, iteDT rfl ?_⟩
        refine ⟨_, rfl, _, _, _, _, rfl, rfl, SqT.of hz, rfl, _, _, rfl, rfl, by show 2 ≤ sizeLine; decide, fun t nt => ?_⟩
        obtain ⟨g1, g2, g3⟩ := KN (o := .tup [.str "move", .int (3 - pl)]) nt
        refine ⟨_, rfl, _, rfl, z, _, rfl, SqT.of (g2 _ _ hz), (by rintro ⟨h, _⟩; revert h; show HT.sIx 5 0 (some 2) = 0 → False; decide), fun t2 n2 => ?_⟩
        have c5 : cutV [V.str "move", V.int pl, v2, v3, v4] (some 2) none = [v2, v3, v4] := by rfl
        rw [c5]
        have g4 := TK.new (o := .tup [v2, v3, v4]) n2
        refine ⟨t, t2, _, _, rfl, rfl, SqT.of (g4 _ _ upd_same), SqT.of upd_same, (by intro z; cases z), by show 5 ≤ sizeLine; decide, (fun z => by cases z), fun _ t3 n3 => ?_⟩
        have g5 := TK.new (o := .tup ([.str "move", .int (3 - pl)] ++ [v2, v3, v4])) n3
        have g6 := (g2.trans g4).trans g5
        have gD := L1 (L1 g1 n2) n3 (o := .tup ([.str "move", .int (3 - pl)] ++ [v2, v3, v4]))
        refine ⟨_, rfl, .inl ⟨rfl, _, SqL.of gD⟩, _, rfl, D, _, _, rfl, rfl, gD, lm, fin gD (hy.tk g6) ?_ ((g3.then_new n2).then_new n3)⟩
        exact .tup upd_same (.cons (.str _) (.cons (.int _) (.cons (d2.tk g6) (.cons (d3.tk g6) (.cons (d4.tk g6) .nil)))))
      | shw pl e =>
        obtain ⟨z', v0, v1, v2, e, hz', d0, d1, d2⟩ := td3 hd1
        cases e
        rw [hz] at hz'
        cases hz'
        cases td_str d0
        cases td_int d1
        refine iteBF (show inV (V.str "show") [V.str "if", V.str "when"] = false by decide) ⟨_, rfl, _, _, _, _, rfl, rfl, SqT.of hz, rfl, rfl, _, rfl, iteDF (fun z => absurd (V.str.inj z) (by decide : ¬ ("show" : Str) = "move")) ⟨_, rfl, _, _, _, _, rfl, rfl, SqT.of hz, rfl, rfl, _, rfl, iteDT rfl ?_⟩⟩
        obtain ⟨p0, p2⟩ := hsh _ _ rfl
        refine ⟨by show 3 ≤ sizeLine; decide, fun t nt => ?_⟩
        obtain ⟨g1, g2, g3⟩ := KN (o := .tup [.int 0, .int 2, .int 1]) nt
        have hat : ∃ j : Int, atI [V.int 0, V.int 2, V.int 1] pl = some (.int j) ∧ (Sm.shw pl e).sw = .shw j e := by
          have h3 : pl = 0 ∨ pl = 1 ∨ pl = 2 := by omega
          rcases h3 with rfl | rfl | rfl
          · exact ⟨0, rfl, by simp [Sm.sw]⟩
          · exact ⟨2, rfl, by simp [Sm.sw]⟩
          · exact ⟨1, rfl, by simp [Sm.sw]⟩
        obtain ⟨j, hj, ej⟩ := hat
        refine ⟨_, rfl, _, _, _, _, rfl, rfl, SqT.of (g2 _ _ hz), rfl, _, _, _, _, rfl, rfl, SqT.of upd_same, hj, _, rfl, _, _, _, _, rfl, rfl, SqT.of (g2 _ _ hz), rfl, by show 3 ≤ sizeLine; decide, fun t2 n2 => ?_⟩
        have g4 := g2.trans (TK.new (o := .tup [.str "show", .int j, v2]) n2)
        have gD := L1 g1 n2 (o := .tup [.str "show", .int j, v2])
        refine ⟨_, rfl, .inl ⟨rfl, _, SqL.of gD⟩, _, rfl, D, _, _, rfl, rfl, gD, lm, fin gD (hy.tk g4) ?_ (g3.then_new n2)⟩
        rw [ej]
        exact .tup upd_same (.cons (.str _) (.cons (.int _) (.cons (d2.tk g4) .nil)))
      | pay e =>
        obtain ⟨z', v0, v1, e, hz', d0, d1⟩ := td2 hd1
        cases e
        rw [hz] at hz'
        cases hz'
        cases td_str d0
        refine iteBF (show inV (V.str "pay") [V.str "if", V.str "when"] = false by decide) ⟨_, rfl, _, _, _, _, rfl, rfl, SqT.of hz, h0, rfl, _, rfl, iteDF (fun z => absurd (wd_ne z) (by decide : ¬ ("pay" : Str) = "move")) ⟨_, rfl, _, _, _, _, rfl, rfl, SqT.of hz, h0, rfl, _, rfl, iteDF (fun z => absurd (wd_ne z) (by decide : ¬ ("pay" : Str) = "show")) ⟨_, rfl, _, _, _, _, rfl, rfl, SqT.of hz, rfl, by show 2 ≤ sizeLine; decide, fun t1 n1 => ⟨t1, _, rfl, .inr (SqT.of upd_same), rfl, rfl, _, rfl, iteBT (show inV (V.str "pay") [V.str "pay", V.str "take"] = true by decide) ?_⟩⟩⟩⟩
        obtain ⟨g1, g2, g3⟩ := KN (o := .tup [.str "pay", .str "take"]) n1
        refine ⟨by show 2 ≤ sizeLine; decide, fun t nt => ?_⟩
        have g4 := g2.trans (TK.new (o := .tup [.str "pay", .str "take"]) nt)
        refine ⟨_, rfl, _, _, _, _, rfl, rfl, SqT.of (g4 _ _ hz), rfl, rfl, .inr ⟨_, rfl, _, _, _, _, rfl, rfl, SqT.of upd_same, rfl, _, rfl, _, _, _, _, rfl, rfl, SqT.of (g4 _ _ hz), rfl, by show 2 ≤ sizeLine; decide, fun t2 n2 => ?_⟩⟩
        have g5 := g4.trans (TK.new (o := .tup [.str "take", v1]) n2)
        have gD := L1 (L1 g1 nt (o := .tup [.str "pay", .str "take"])) n2 (o := .tup [.str "take", v1])
        refine ⟨_, rfl, .inl ⟨rfl, _, SqL.of gD⟩, _, rfl, D, _, _, rfl, rfl, gD, lm, fin gD (hy.tk g5) ?_ ((g3.then_new nt).then_new n2)⟩
        exact .tup upd_same (.cons (.str _) (.cons (d1.tk g5) .nil))
      | tak e =>
        obtain ⟨z', v0, v1, e, hz', d0, d1⟩ := td2 hd1
        cases e
        rw [hz] at hz'
        cases hz'
        cases td_str d0
        refine iteBF (show inV (V.str "take") [V.str "if", V.str "when"] = false by decide) ⟨_, rfl, _, _, _, _, rfl, rfl, SqT.of hz, h0, rfl, _, rfl, iteDF (fun z => absurd (wd_ne z) (by decide : ¬ ("take" : Str) = "move")) ⟨_, rfl, _, _, _, _, rfl, rfl, SqT.of hz, h0, rfl, _, rfl, iteDF (fun z => absurd (wd_ne z) (by decide : ¬ ("take" : Str) = "show")) ⟨_, rfl, _, _, _, _, rfl, rfl, SqT.of hz, rfl, by show 2 ≤ sizeLine; decide, fun t1 n1 => ⟨t1, _, rfl, .inr (SqT.of upd_same), rfl, rfl, _, rfl, iteBT (show inV (V.str "take") [V.str "pay", V.str "take"] = true by decide) ?_⟩⟩⟩⟩
        obtain ⟨g1, g2, g3⟩ := KN (o := .tup [.str "pay", .str "take"]) n1
        refine ⟨by show 2 ≤ sizeLine; decide, fun t nt => ?_⟩
        have g4 := g2.trans (TK.new (o := .tup [.str "pay", .str "take"]) nt)
        refine ⟨_, rfl, _, _, _, _, rfl, rfl, SqT.of (g4 _ _ hz), rfl, rfl, .inr ⟨_, rfl, _, _, _, _, rfl, rfl, SqT.of upd_same, rfl, _, rfl, _, _, _, _, rfl, rfl, SqT.of (g4 _ _ hz), rfl, by show 2 ≤ sizeLine; decide, fun t2 n2 => ?_⟩⟩
        have g5 := g4.trans (TK.new (o := .tup [.str "pay", v1]) n2)
        have gD := L1 (L1 g1 nt (o := .tup [.str "pay", .str "take"])) n2 (o := .tup [.str "pay", v1])
        refine ⟨_, rfl, .inl ⟨rfl, _, SqL.of gD⟩, _, rfl, D, _, _, rfl, rfl, gD, lm, fin gD (hy.tk g5) ?_ ((g3.then_new nt).then_new n2)⟩
        exact .tup upd_same (.cons (.str _) (.cons (d1.tk g5) .nil))
      | drw x s =>
        refine iteBF (show inV (V.str "draw") [V.str "if", V.str "when"] = false by decide) ⟨_, rfl, _, _, _, _, rfl, rfl, SqT.of hz, h0, rfl, _, rfl, iteDF (fun z => absurd (wd_ne z) (by decide : ¬ ("draw" : Str) = "move")) ⟨_, rfl, _, _, _, _, rfl, rfl, SqT.of hz, h0, rfl, _, rfl, iteDF (fun z => absurd (wd_ne z) (by decide : ¬ ("draw" : Str) = "show")) ⟨_, rfl, _, _, _, _, rfl, rfl, SqT.of hz, h0, by show 2 ≤ sizeLine; decide, fun t1 n1 => ⟨t1, _, rfl, .inr (SqT.of upd_same), rfl, rfl, _, rfl, iteBF (show inV (V.str "draw") [V.str "pay", V.str "take"] = false by decide) ?_⟩⟩⟩⟩
        obtain ⟨g1, g2, g3⟩ := KN (o := .tup [.str "pay", .str "take"]) n1
        exact ⟨_, rfl, .inl ⟨rfl, _, SqL.of g1⟩, _, rfl, D, _, _, rfl, rfl, g1, lm, fin g1 (hy.tk g2) (hd1.tk g2) g3⟩
      | set x e =>
        refine iteBF (show inV (V.str "set") [V.str "if", V.str "when"] = false by decide) ⟨_, rfl, _, _, _, _, rfl, rfl, SqT.of hz, h0, rfl, _, rfl, iteDF (fun z => absurd (wd_ne z) (by decide : ¬ ("set" : Str) = "move")) ⟨_, rfl, _, _, _, _, rfl, rfl, SqT.of hz, h0, rfl, _, rfl, iteDF (fun z => absurd (wd_ne z) (by decide : ¬ ("set" : Str) = "show")) ⟨_, rfl, _, _, _, _, rfl, rfl, SqT.of hz, h0, by show 2 ≤ sizeLine; decide, fun t1 n1 => ⟨t1, _, rfl, .inr (SqT.of upd_same), rfl, rfl, _, rfl, iteBF (show inV (V.str "set") [V.str "pay", V.str "take"] = false by decide) ?_⟩⟩⟩⟩
        obtain ⟨g1, g2, g3⟩ := KN (o := .tup [.str "pay", .str "take"]) n1
        exact ⟨_, rfl, .inl ⟨rfl, _, SqL.of g1⟩, _, rfl, D, _, _, rfl, rfl, g1, lm, fin g1 (hy.tk g2) (hd1.tk g2) g3⟩
    · rintro σ H' ⟨o2, ys, rfl, hD, hy, K1⟩
      have e : l.take xs.length = l := List.take_of_length_le (by have := hx.length; rw [datas_map, List.length_map] at this; omega)
      rw [e] at hy
      exact ⟨_, rfl, D, ys, rfl, .inl ⟨SqL.of hD, fun t nt => k _ _ (.tup upd_same (hy.tk (TK.new nt))) (K1.then_new nt)⟩⟩
theorem lsw_all {f : Addr} {fd : FuncData} (D : C8.Def K mg "_law_swapped" s_law_swapped f fd) (b : Binds K fd ["block"] []) (T : Txt K mg C_Game C_GameError C_BadText C_BadMove C_BadEdit) : ∀ m, C8.Cal P w K mg base (m + 1) "_law_swapped" (sp_sw m) []
  | 0 => ok_lsw0 D b
  | m + 1 => ok_lsw D b T (lsw_all D b T m)
end

theorem rns_take {n : Int} {l : List Sm} {i : Nat} {s : Sm} (h : l[i]? = some s) : rns n (l.take (i + 1)) = rns n (l.take i) ++ [s.rn (n + (mvs (l.take i) : Nat))] := by
  rw [take_snoc h, rns_append]; simp [rns]
def sp_rn (m : Nat) : Sp := fun vs H Q _ => ∃ v l n, vs = [v, .int n] ∧ TD H v (.tuple (datas l)) ∧ Fit m l ∧ mvs l ≤ 1000 ∧ ∀ r H', TD H' r (.tuple (datas (rns n l))) → Keep [] H H' → Q r H'
section
variable {P : Program} {w : World} {K : PySem.W.Frag} {mg : Str → Option Value} {base : Heap} {C_Game : Addr} {C_GameError : Addr} {C_BadText : Addr} {C_BadMove : Addr} {C_BadEdit : Addr} {f_BadEdit___init : Addr}
theorem ok_rn0 {f : Addr} {fd : FuncData} (D : C8.Def K mg "renumbered" s_renumbered f fd) (b : Binds K fd ["block", "number"] []) : C8.Cal P w K mg base 1 "renumbered" (sp_rn 0) [] :=
  ⟨f, fd, ["block", "number"], [], ⟨fun vs H Q E h => (by obtain ⟨v, l, n, rfl, _⟩ := h; rfl), fun A outer s H args us vs Q E _ _ _ _ h => (by obtain ⟨v, l, n, _, _, z, _⟩ := h; exact z.elim)⟩, D.mgf, D.kp, b, .nil⟩
theorem ok_rn {f : Addr} {fd : FuncData} (D : C8.Def K mg "renumbered" s_renumbered f fd) (b : Binds K fd ["block", "number"] []) (T : Txt K mg C_Game C_GameError C_BadText C_BadMove C_BadEdit) {m k : Nat} (c_renumbered : C8.Cal P w K mg base k "renumbered" (sp_rn m) []) (c_moves_in : C8.Cal P w K mg base k "moves_in" (sp_moves m) []) : C8.Cal P w K mg base (k + 1) "renumbered" (sp_rn (m + 1)) [] := by
  refine cal0 D b .nil sc_renumbered (fun vs H Q E h => ?_) (fun cdv A outer s H vs Q E hr h => ?_)
  · obtain ⟨v, l, n, rfl, _⟩ := h
    rfl
  · obtain ⟨v, l, n, rfl, hT, hF, hM, k⟩ := h
    refine ⟨_, (pss_cons (ps_set (i := 2) sc_renumbered.nd rfl (by first | exact Or.inl rfl | exact Or.inr rfl) (pe_lst pa_nil))
(pss_cons (ps_for PassesOwn.never rfl (pi_tup (pv 0)) (pg_name (i := 3) sc_renumbered.nd rfl (by first | exact Or.inl rfl | exact Or.inr rfl))
  (pss_one (ps_if (PW.pt (pw_or (pt_cmpR op_eq (pe_ix ix_tup (pv 3) pe_int (fun _ _ => rfl)) pe_str (nomark _)) (pw_or1 (pt_cmpR op_eq (pe_ix ix_tup (pv 3) pe_int (fun _ _ => rfl)) pe_str (nomark _)))))
    (pss_cons (ps_set (i := 4) sc_renumbered.nd rfl (by first | exact Or.inl rfl | exact Or.inr rfl) (pe_c c_renumbered hr (by first | exact Nat.le_refl _ | decide | omega) rfl (pa_cons (pe_ix ix_tup (pv 3) pe_int (fun _ _ => rfl)) (pa_cons (pv 1) pa_nil))))
    (pss_cons (ps_set (i := 1) sc_renumbered.nd rfl (by first | exact Or.inl rfl | exact Or.inr rfl) (pe_op op_add (pv 1) (pe_callB call_len_seq (by rfl) T.n_len bo_len (pa_cons (pe_c c_moves_in hr (by first | exact Nat.le_refl _ | decide | omega) rfl (pa_cons (pe_ix ix_tup (pv 3) pe_int (fun _ _ => rfl)) pa_nil)) pa_nil))))
    (pss_cons (ps_expr (pe_bm PySem.F.plainAttrs_list PySem.F.slot_list_append PySem.F.type_list_append mt_append (pv 2) (pa_cons (pe_tup (pa_cons (pe_ix ix_tup (pv 3) pe_int (fun _ _ => rfl)) (pa_cons (pe_ix ix_tup (pv 3) pe_int (fun _ _ => rfl)) (pa_cons (pv 4) (pa_cons (pe_c c_renumbered hr (by first | exact Nat.le_refl _ | decide | omega) rfl (pa_cons (pe_ix ix_tup (pv 3) pe_int (fun _ _ => rfl)) (pa_cons (pv 1) pa_nil))) pa_nil))))) pa_nil)))
    (pss_one (ps_set (i := 1) sc_renumbered.nd rfl (by first | exact Or.inl rfl | exact Or.inr rfl) (pe_op op_add (pv 1) (pe_callB call_len_seq (by rfl) T.n_len bo_len (pa_cons (pe_c c_moves_in hr (by first | exact Nat.le_refl _ | decide | omega) rfl (pa_cons (pe_ix ix_tup (pv 3) pe_int (fun _ _ => rfl)) pa_nil)) pa_nil))))))))
    (pss_one (ps_if (pt_cmpR op_eq (pe_ix ix_tup (pv 3) pe_int (fun _ _ => rfl)) pe_str (nomark _))
      (pss_cons (ps_expr (pe_bm PySem.F.plainAttrs_list PySem.F.slot_list_append PySem.F.type_list_append mt_append (pv 2) (pa_cons (pe_op op_catT (pe_slice sl_tup (pv 3) po_none (po_some pe_int)) (pe_tup (pa_cons (pv 1) pa_nil))) pa_nil)))
      (pss_one (ps_set (i := 1) sc_renumbered.nd rfl (by first | exact Or.inl rfl | exact Or.inr rfl) (pe_op op_add (pv 1) pe_int))))
      (pss_one (ps_expr (pe_bm PySem.F.plainAttrs_list PySem.F.slot_list_append PySem.F.type_list_append mt_append (pv 2) (pa_cons (pv 3) pa_nil)))))))))
(pss_one (ps_ret (pe_callTy call_tuple_of (by rfl) T.n_tuple bo_tuple (pa_cons (pv 2) pa_nil)))))), ?_⟩
    obtain ⟨a, xs, rfl, ha, hx⟩ := td_view hT
    refine ⟨Nat.zero_le _, fun D nD => ?_⟩
    have K0 := Keep.new (W := []) (o := .lst []) nD
    refine ⟨_, rfl, _, rfl, ⟨_, SqT.of (K0 _ _ ha (by simp))⟩, for_tup (K := K) (a := a) (xs := xs) (fun (i : Nat) (σ : List (Option V)) (H' : Hp) => ∃ (o3 o4 : Option V) (ys : List V), σ = [some (.ref a), some (.int (n + (mvs (l.take i) : Nat))), some (.ref D), o3, o4] ∧ H' D = some (.lst ys) ∧ TDs H' ys (datas (rns n (l.take i))) ∧ Keep [] H H') ⟨none, none, [], by simp [mvs]; rfl, upd_same, .nil, K0⟩ ?_ ?_ ?_⟩
    · rintro i σ H' _ ⟨o3, o4, ys, rfl, _, _, K1⟩
      exact SqT.of (K1 _ _ ha (by simp))
    · rintro i x σ H' hxi ⟨o3, o4, ys, rfl, hD, hy, K1⟩
      obtain ⟨st, hs, hd⟩ := datas_get hx hxi
      obtain ⟨hi, hl, hf, _⟩ := hF.at hs
      have hle := mvs_le hs
      have hd1 := hd.tk K1.tk
      have hyl : ys.length = i := by
        rw [hy.length, datas_map, List.length_map, rns_len, List.length_take]; omega
      rw [rns_take hs, datas_append, mvs_take hs]
      obtain ⟨z, vs, rfl, hz, h0⟩ := st.form hd1
      generalize hc : n + ((mvs (l.take i) : Nat) : Int) = c
      have hc2 : n + ((mvs (l.take i) + st.mv : Nat) : Int) = c + (st.mv : Nat) := by omega
      rw [hc2]
      have fin : ∀ {H2 : Hp} {r : V} {o4 : Option V}, H2 D = some (.lst ys) → TDs H2 ys (datas (rns n (l.take i))) → TD H2 r (st.rn c).data → Keep [] H H2 →
          ∃ (o3 o4' : Option V) (zs : List V), [some (.ref a), some (.int (c + (st.mv : Nat))), some (.ref D), some (.ref z), o4] = [some (.ref a), some (.int (c + (st.mv : Nat))), some (.ref D), o3, o4'] ∧ upd H2 D (.lst (ys ++ [r])) D = some (.lst zs) ∧ TDs (upd H2 D (.lst (ys ++ [r]))) zs (datas (rns n (l.take i)) ++ datas [st.rn c]) ∧ Keep [] H (upd H2 D (.lst (ys ++ [r]))) := fun h1 h2 h3 h4 =>
        ⟨_, _, _, rfl, upd_same, (h2.tk (TK.lst h1)).append (.cons (h3.tk (TK.lst h1)) .nil), h4.then_own nD⟩
      have lm : ys.length < sizeLine := by rw [hyl]; exact smallL (by omega)
      rcases st.three with ⟨j, t, p, q, rfl⟩ | ⟨pl, x, s', n', rfl⟩ | ⟨⟨w1, w2, w3⟩, e0, e9⟩
      · obtain ⟨f1, f2⟩ := hf _ _ _ _ rfl
        simp only [Sm.mv] at hle
        obtain ⟨z', v0, v1, v2, v3, e, hz', d0, d1, d2, d3⟩ := td4 hd1
        cases e
        rw [hz] at hz'
        cases hz'
        cases td_str d0
        rcases (show wd j = "if" ∨ (wd j ≠ "if" ∧ wd j = "when") by
          cases j
          · exact .inr ⟨by decide, rfl⟩
          · exact .inl rfl) with e1 | ⟨e1, e2⟩
        all_goals first | refine ⟨_, rfl, _, _, _, _, rfl, rfl, SqT.of hz, rfl, rfl, _, rfl, iteDT (congrArg V.str e1) ?_⟩ | refine ⟨_, rfl, _, _, _, _, rfl, rfl, SqT.of hz, rfl, rfl, _, rfl, iteDF (fun z => e1 (V.str.inj z)) ⟨_, rfl, _, _, _, _, rfl, rfl, SqT.of hz, rfl, rfl, _, rfl, iteDT (congrArg V.str e2) ?_⟩⟩
        all_goals
          refine ⟨_, rfl, _, _, _, _, rfl, rfl, SqT.of hz, rfl, _, rfl, _, p, c, rfl, d2, f1, by omega, fun r1 H2 t1 K2 => ?_⟩
          have hz2 := K2 _ _ hz (by simp)
          refine ⟨_, rfl, _, rfl, _, _, _, _, rfl, rfl, SqT.of hz2, rfl, _, p, rfl, d2.tk K2.tk, f1, by omega, fun r2 ys2 H3 _ h3 e3 K3 => ?_⟩
          have hz3 := K3 _ _ hz2 (by simp)
          refine ⟨_, _, rfl, .inl (SqL.of h3), _, _, rfl, rfl, ?_⟩
          rw [e3]
          refine ⟨_, rfl, .inl ⟨rfl, _, SqL.of (K3 _ _ (K2 _ _ hD (by simp)) (by simp))⟩, _, rfl, _, _, _, _, rfl, rfl, SqT.of hz3, rfl, _, rfl, _, _, _, _, rfl, rfl, SqT.of hz3, rfl, _, rfl, _, rfl, _, _, _, _, rfl, rfl, SqT.of hz3, rfl, _, rfl, _, q, _, rfl, (d3.tk K2.tk).tk K3.tk, f2, by omega, fun r4 H4 t4 K4 => ?_⟩
          have hz4 := K4 _ _ hz3 (by simp)
          refine ⟨by show 4 ≤ sizeLine; decide, fun t nt => ?_⟩
          have K5 := Keep.new (W := []) (o := .tup [V.str (wd j), v1, r1, r4]) nt
          have K6 := ((K2.trans K3).trans K4).trans K5
          have hD6 := K6 _ _ hD (by simp)
          refine ⟨D, _, _, rfl, rfl, hD6, lm, ?_⟩
          have hz7 := TK.lst (o := .lst (ys ++ [.ref t])) hD6 _ _ (K5 _ _ hz4 (by simp))
          refine ⟨_, rfl, _, rfl, _, _, _, _, rfl, rfl, SqT.of hz7, rfl, _, q, rfl, (d3.tk K6.tk).tk (TK.lst hD6), f2, by omega, fun r7 ys7 H7 _ h7 e7 K7 => ?_⟩
          refine ⟨_, _, rfl, .inl (SqL.of h7), _, _, rfl, rfl, ?_⟩
          rw [e7]
          obtain ⟨_, _, zs, _, g1, g2, g3⟩ := fin (o4 := none) hD6 (hy.tk K6.tk) (r := .ref t) (.tup upd_same (.cons (.str _) (.cons (d1.tk K6.tk) (.cons (t1.tk ((K3.trans K4).trans K5).tk) (.cons (t4.tk K5.tk) .nil))))) (K1.trans K6)
          refine ⟨some (.ref z), some r1, zs, ?_, K7 _ _ g1 (by simp), g2.tk K7.tk, g3.trans K7⟩
          show _ = [some (V.ref a), some (V.int (c + ((mvs p + mvs q : Nat) : Int))), some (V.ref D), some (V.ref z), some r1]
          rw [show c + ((mvs p + mvs q : Nat) : Int) = c + (mvs p : Nat) + (mvs q : Nat) by omega]
          rfl
      · obtain ⟨z', v0, v1, v2, v3, v4, e, hz', d0, d1, d2, d3, d4⟩ := td5 hd1
        cases e
        rw [hz] at hz'
        cases hz'
        cases td_str d0
        refine ⟨_, rfl, _, _, _, _, rfl, rfl, SqT.of hz, h0, rfl, _, rfl, iteDF (fun z => absurd (wd_ne z) (by decide : ¬ ("move" : Str) = "if")) ⟨_, rfl, _, _, _, _, rfl, rfl, SqT.of hz, h0, rfl, _, rfl, iteDF (fun z => absurd (wd_ne z) (by decide : ¬ ("move" : Str) = "when")) ⟨_, rfl, _, _, _, _, rfl, rfl, SqT.of hz, h0, rfl, _, rfl, iteDT rfl ?_⟩⟩⟩
        refine ⟨_, rfl, .inl ⟨rfl, _, SqL.of hD⟩, _, rfl, _, rfl, z, _, rfl, SqT.of hz, (by rintro ⟨_, h⟩; revert h; show HT.sIx 5 5 (some 4) = 5 → False; decide), fun t2 n2 => ?_⟩
        have c5 : cutV [V.str "move", v1, v2, v3, v4] none (some 4) = [V.str "move", v1, v2, v3] := by rfl
        rw [c5]
        have g2 := TK.new (o := .tup [V.str "move", v1, v2, v3]) n2
        refine ⟨_, rfl, by show 1 ≤ sizeLine; decide, fun t3 n3 => ?_⟩
        have g3 := g2.trans (TK.new (o := .tup [.int c]) n3)
        refine ⟨t2, t3, _, _, rfl, rfl, SqT.of (TK.new n3 _ _ upd_same), SqT.of upd_same, (by intro z; cases z), by show 5 ≤ sizeLine; decide, (fun z => by cases z), fun _ t4 n4 => ?_⟩
        have g4 := g3.trans (TK.new (o := .tup ([V.str "move", v1, v2, v3] ++ [.int c])) n4)
        have L1 : ∀ {H2 : Hp} {t : Addr} {o : HO}, H2 D = some (.lst ys) → H2 t = none → upd H2 t o D = some (.lst ys) := fun h n => by rw [upd_ne (ne_of_none h n)]; exact h
        have gD := L1 (L1 (L1 hD n2) n3) n4 (o := .tup ([V.str "move", v1, v2, v3] ++ [.int c]))
        refine ⟨D, _, _, rfl, rfl, gD, lm, ?_⟩
        refine ⟨_, rfl, _, _, rfl, rfl, ?_⟩
        exact fin gD (hy.tk g4) (.tup upd_same (.cons (.str _) (.cons (d1.tk g4) (.cons (d2.tk g4) (.cons (d3.tk g4) (.cons (.int _) .nil)))))) (((K1.then_new n2).then_new n3).then_new n4)
      · refine ⟨_, rfl, _, _, _, _, rfl, rfl, SqT.of hz, h0, rfl, _, rfl, iteDF (fun z => w1 (wd_ne z)) ⟨_, rfl, _, _, _, _, rfl, rfl, SqT.of hz, h0, rfl, _, rfl, iteDF (fun z => w2 (wd_ne z)) ⟨_, rfl, _, _, _, _, rfl, rfl, SqT.of hz, h0, rfl, _, rfl, iteDF (fun z => w3 (wd_ne z)) ?_⟩⟩⟩
        refine ⟨_, rfl, .inl ⟨rfl, _, SqL.of hD⟩, _, rfl, D, _, _, rfl, rfl, hD, lm, ?_⟩
        have := fin (o4 := o4) hD hy (r := .ref z) (by rw [e9]; exact hd1) K1
        rw [e0] at this ⊢
        rw [show c + ((0 : Nat) : Int) = c by omega] at this ⊢
        exact this
    · rintro σ H' ⟨o3, o4, ys, rfl, hD, hy, K1⟩
      have e : l.take xs.length = l := List.take_of_length_le (by have := hx.length; rw [datas_map, List.length_map] at this; omega)
      rw [e] at hy
      exact ⟨_, rfl, D, ys, rfl, .inl ⟨SqL.of hD, fun t nt => k _ _ (.tup upd_same (hy.tk (TK.new nt))) (K1.then_new nt)⟩⟩
theorem rn_all {f : Addr} {fd : FuncData} (D : C8.Def K mg "renumbered" s_renumbered f fd) (b : Binds K fd ["block", "number"] []) (T : Txt K mg C_Game C_GameError C_BadText C_BadMove C_BadEdit) {f2 : Addr} {fd2 : FuncData} (D2 : C8.Def K mg "moves_in" s_moves_in f2 fd2) (b2 : Binds K fd2 ["block"] []) : ∀ m, C8.Cal P w K mg base (m + 1) "renumbered" (sp_rn m) []
  | 0 => ok_rn0 D b
  | m + 1 => ok_rn D b T (rn_all D b T D2 b2 m) (moves_all D2 b2 T m)
end

theorem wd_nin {x : Str} (h1 : x ≠ "if") (h2 : x ≠ "when") : inV (V.str x) [V.str "if", V.str "when"] = false := by
  simp [inV, eqV, h1.symm, h2.symm]
def sp_num (m : Nat) : Sp := fun vs H Q _ => ∃ v l S n, vs = [v, .ref S] ∧ H S = some (.lst [.int n]) ∧ TD H v (.tuple (datas l)) ∧ Fit m l ∧ ∀ r H', TD H' r (.tuple (datas (rns n l))) → H' S = some (.lst [.int (n + (mvs l : Nat))]) → Keep [S] H H' → Q r H'
section
variable {P : Program} {w : World} {K : PySem.W.Frag} {mg : Str → Option Value} {base : Heap} {C_Game : Addr} {C_GameError : Addr} {C_BadText : Addr} {C_BadMove : Addr} {C_BadEdit : Addr} {f_BadEdit___init : Addr}
theorem ok_num0 {f : Addr} {fd : FuncData} (D : C8.Def K mg "_law_numbered" s_law_numbered f fd) (b : Binds K fd ["block", "state"] []) : C8.Cal P w K mg base 1 "_law_numbered" (sp_num 0) [] :=
  ⟨f, fd, ["block", "state"], [], ⟨fun vs H Q E h => (by obtain ⟨v, l, S, n, rfl, _⟩ := h; rfl), fun A outer s H args us vs Q E _ _ _ _ h => (by obtain ⟨v, l, S, n, _, _, _, z, _⟩ := h; exact z.elim)⟩, D.mgf, D.kp, b, .nil⟩
theorem ok_num {f : Addr} {fd : FuncData} (D : C8.Def K mg "_law_numbered" s_law_numbered f fd) (b : Binds K fd ["block", "state"] []) (T : Txt K mg C_Game C_GameError C_BadText C_BadMove C_BadEdit) {m k : Nat} (c_law_numbered : C8.Cal P w K mg base k "_law_numbered" (sp_num m) []) : C8.Cal P w K mg base (k + 1) "_law_numbered" (sp_num (m + 1)) [] := by
  refine cal0 D b .nil sc_law_numbered (fun vs H Q E h => ?_) (fun cdv A outer s H vs Q E hr h => ?_)
  · obtain ⟨v, l, S, n, rfl, _⟩ := h
    rfl
  · obtain ⟨v, l, S, n, rfl, hS0, hT, hF, k⟩ := h
    refine ⟨_, (pss_cons (ps_set (i := 2) sc_law_numbered.nd rfl (by first | exact Or.inl rfl | exact Or.inr rfl) (pe_lst pa_nil))
(pss_cons (ps_for PassesOwn.never rfl (pi_tup (pv 0)) (pg_name (i := 3) sc_law_numbered.nd rfl (by first | exact Or.inl rfl | exact Or.inr rfl))
  (pss_cons (ps_if (pt_cmpR op_eq (pe_ix ix_tup (pv 3) pe_int (fun _ _ => rfl)) pe_str (nomark _))
    (pss_cons (ps_set (i := 3) sc_law_numbered.nd rfl (by first | exact Or.inl rfl | exact Or.inr rfl) (pe_op op_catT (pe_slice sl_tup (pv 3) po_none (po_some pe_int)) (pe_tup (pa_cons (pe_ix ix_list (pv 1) pe_int (fun _ _ => rfl)) pa_nil))))
    (pss_one (ps_asg (pe_op op_add (pe_ix ix_list (pv 1) pe_int (fun _ _ => rfl)) pe_int) (pg_sub (pv 1) pe_int set_list))))
    (pss_one (ps_if (pt_cmpR op_in_seq (pe_ix ix_tup (pv 3) pe_int (fun _ _ => rfl)) (pe_tup (pa_cons pe_str (pa_cons pe_str pa_nil))) (by rfl))
      (pss_cons (ps_set (i := 4) sc_law_numbered.nd rfl (by first | exact Or.inl rfl | exact Or.inr rfl) (pe_c c_law_numbered hr (by first | exact Nat.le_refl _ | decide | omega) rfl (pa_cons (pe_ix ix_tup (pv 3) pe_int (fun _ _ => rfl)) (pa_cons (pv 1) pa_nil))))
      (pss_one (ps_set (i := 3) sc_law_numbered.nd rfl (by first | exact Or.inl rfl | exact Or.inr rfl) (pe_tup (pa_cons (pe_ix ix_tup (pv 3) pe_int (fun _ _ => rfl)) (pa_cons (pe_ix ix_tup (pv 3) pe_int (fun _ _ => rfl)) (pa_cons (pv 4) (pa_cons (pe_c c_law_numbered hr (by first | exact Nat.le_refl _ | decide | omega) rfl (pa_cons (pe_ix ix_tup (pv 3) pe_int (fun _ _ => rfl)) (pa_cons (pv 1) pa_nil))) pa_nil))))))))
      pss_nil)))
  (pss_one (ps_expr (pe_bm PySem.F.plainAttrs_list PySem.F.slot_list_append PySem.F.type_list_append mt_append (pv 2) (pa_cons (pv 3) pa_nil))))))
(pss_one (ps_ret (pe_callTy call_tuple_of (by rfl) T.n_tuple bo_tuple (pa_cons (pv 2) pa_nil)))))), ?_⟩
    obtain ⟨a, xs, rfl, ha, hx⟩ := td_view hT
    refine ⟨Nat.zero_le _, fun D nD => ?_⟩
    have hDS : D ≠ S := fun z => by rw [z, hS0] at nD; cases nD
    have K0 := Keep.new (W := [S]) (o := .lst []) nD
    have haS : a ∉ [S] := by
      intro z; rw [List.mem_singleton.mp z, hS0] at ha; cases ha
    refine ⟨_, rfl, _, rfl, ⟨_, SqT.of (K0 _ _ ha haS)⟩, for_tup (K := K) (a := a) (xs := xs) (fun (i : Nat) (σ : List (Option V)) (H' : Hp) => ∃ (o3 o4 : Option V) (ys : List V), σ = [some (.ref a), some (.ref S), some (.ref D), o3, o4] ∧ H' D = some (.lst ys) ∧ H' S = some (.lst [.int (n + (mvs (l.take i) : Nat))]) ∧ TDs H' ys (datas (rns n (l.take i))) ∧ Keep [S] H H') ⟨none, none, [], rfl, upd_same, by rw [upd_ne hDS.symm]; simp [mvs]; exact hS0, .nil, K0⟩ ?_ ?_ ?_⟩
    · rintro i σ H' _ ⟨o3, o4, ys, rfl, _, _, _, K1⟩
      exact SqT.of (K1 _ _ ha haS)
    · rintro i x σ H' hxi ⟨o3, o4, ys, rfl, hD, hS, hy, K1⟩
      obtain ⟨st, hs, hd⟩ := datas_get hx hxi
      obtain ⟨hi, hl, hf, _⟩ := hF.at hs
      have hd1 := hd.tk (K1.tk1 hS0)
      have hyl : ys.length = i := by
        rw [hy.length, datas_map, List.length_map, rns_len, List.length_take]; omega
      rw [rns_take hs, datas_append, mvs_take hs]
      obtain ⟨z, vs, rfl, hz, h0⟩ := st.form hd1
      revert hS
      generalize hc : n + ((mvs (l.take i) : Nat) : Int) = c
      intro hS
      have hc2 : n + ((mvs (l.take i) + st.mv : Nat) : Int) = c + (st.mv : Nat) := by omega
      rw [hc2]
      have fin : ∀ {H2 : Hp} {r : V} {o4 : Option V}, H2 D = some (.lst ys) → H2 S = some (.lst [.int (c + (st.mv : Nat))]) → TDs H2 ys (datas (rns n (l.take i))) → TD H2 r (st.rn c).data → Keep [S] H H2 →
          ∃ (o3 o4' : Option V) (zs : List V), [some (.ref a), some (.ref S), some (.ref D), some r, o4] = [some (.ref a), some (.ref S), some (.ref D), o3, o4'] ∧ upd H2 D (.lst (ys ++ [r])) D = some (.lst zs) ∧ upd H2 D (.lst (ys ++ [r])) S = some (.lst [.int (c + (st.mv : Nat))]) ∧ TDs (upd H2 D (.lst (ys ++ [r]))) zs (datas (rns n (l.take i)) ++ datas [st.rn c]) ∧ Keep [S] H (upd H2 D (.lst (ys ++ [r]))) := fun h1 h5 h2 h3 h4 =>
        ⟨_, _, _, rfl, upd_same, by rw [upd_ne hDS.symm]; exact h5, (h2.tk (TK.lst h1)).append (.cons (h3.tk (TK.lst h1)) .nil), h4.then_own nD⟩
      have lm : ys.length < sizeLine := by rw [hyl]; exact smallL (by omega)
      have L1 : ∀ {H2 : Hp} {t x : Addr} {o u : HO}, H2 x = some u → H2 t = none → upd H2 t o x = some u := fun h n => by rw [upd_ne (ne_of_none h n)]; exact h
      rcases st.three with ⟨j, t, p, q, rfl⟩ | ⟨pl, x, s', n', rfl⟩ | ⟨⟨w1, w2, w3⟩, e0, e9⟩
      · obtain ⟨f1, f2⟩ := hf _ _ _ _ rfl
        obtain ⟨z', v0, v1, v2, v3, e, hz', d0, d1, d2, d3⟩ := td4 hd1
        cases e
        rw [hz] at hz'
        cases hz'
        cases td_str d0
        refine ⟨_, rfl, _, _, _, _, rfl, rfl, SqT.of hz, rfl, rfl, _, rfl, iteDF (fun z => absurd (V.str.inj z) (by cases j <;> decide)) ?_⟩
        refine ⟨_, rfl, _, _, _, _, rfl, rfl, SqT.of hz, rfl, by show 2 ≤ sizeLine; decide, fun t0 n0 => ⟨t0, _, rfl, .inr (SqT.of upd_same), rfl, rfl, _, rfl, iteBT (wd_in j) ?_⟩⟩
        have k0 := Keep.new (W := [S]) (o := .tup [.str "if", .str "when"]) n0
        have hzS : ∀ {H2 : Hp} {x : V}, H2 S = some (.lst [x]) → ∀ {zs}, H2 z = some (.tup zs) → z ∉ [S] := fun h zs h' q => by rw [List.mem_singleton.mp q, h] at h'; cases h'
        have hz1 := TK.new (o := .tup [.str "if", .str "when"]) n0 _ _ hz
        have hS1 := L1 hS n0 (o := .tup [.str "if", .str "when"])
        have hD1 := L1 hD n0 (o := .tup [.str "if", .str "when"])
        have g1 := TK.new (o := .tup [.str "if", .str "when"]) n0
        refine ⟨_, rfl, _, _, _, _, rfl, rfl, SqT.of hz1, rfl, _, rfl, _, p, S, c, rfl, hS1, d2.tk g1, f1, fun r1 H2 t1 hS2 K2 => ?_⟩
        have g2 := K2.tk1 hS1
        have hz2 := g2 _ _ hz1
        have hD2 := K2 _ _ hD1 (by simpa using hDS)
        refine ⟨_, rfl, _, _, _, _, rfl, rfl, SqT.of hz2, rfl, _, rfl, _, _, _, _, rfl, rfl, SqT.of hz2, rfl, _, rfl, _, rfl, _, _, _, _, rfl, rfl, SqT.of hz2, rfl, _, rfl, _, q, S, _, rfl, hS2, (d3.tk g1).tk g2, f2, fun r2 H3 t2 hS3 K3 => ?_⟩
        have g3 := K3.tk1 hS2
        have hD3 := K3 _ _ hD2 (by simpa using hDS)
        refine ⟨by show 4 ≤ sizeLine; decide, fun t nt => ?_⟩
        have g4 := TK.new (o := .tup [V.str (wd j), v1, r1, r2]) nt
        have hD4 := L1 hD3 nt (o := .tup [V.str (wd j), v1, r1, r2])
        have hS4 := L1 hS3 nt (o := .tup [V.str (wd j), v1, r1, r2])
        have gA := ((g1.trans g2).trans g3).trans g4
        refine ⟨_, rfl, .inl ⟨rfl, _, SqL.of hD4⟩, _, rfl, D, _, _, rfl, rfl, hD4, lm, ?_⟩
        refine fin (r := .ref t) (o4 := some r1) hD4 ?_ (hy.tk gA) (.tup upd_same (.cons (.str _) (.cons (d1.tk gA) (.cons (t1.tk (g3.trans g4)) (.cons (t2.tk g4) .nil))))) ((((K1.then_new n0).trans K2).trans K3).then_new nt)
        rw [hS4]
        show _ = some (HO.lst [V.int (c + ((mvs p + mvs q : Nat) : Int))])
        rw [show c + ((mvs p + mvs q : Nat) : Int) = c + (mvs p : Nat) + (mvs q : Nat) by omega]
      · obtain ⟨z', v0, v1, v2, v3, v4, e, hz', d0, d1, d2, d3, d4⟩ := td5 hd1
        cases e
        rw [hz] at hz'
        cases hz'
        cases td_str d0
        refine ⟨_, rfl, _, _, _, _, rfl, rfl, SqT.of hz, rfl, rfl, _, rfl, iteDT rfl ?_⟩
        refine ⟨_, rfl, _, rfl, z, _, rfl, SqT.of hz, (by rintro ⟨_, h⟩; revert h; show HT.sIx 5 5 (some 4) = 5 → False; decide), fun t2 n2 => ?_⟩
        have c5 : cutV [V.str "move", v1, v2, v3, v4] none (some 4) = [V.str "move", v1, v2, v3] := by rfl
        rw [c5]
        have g2 := TK.new (o := .tup [V.str "move", v1, v2, v3]) n2
        have hS2 := L1 hS n2 (o := .tup [V.str "move", v1, v2, v3])
        refine ⟨_, rfl, _, _, _, _, rfl, rfl, SqL.of hS2, rfl, by show 1 ≤ sizeLine; decide, fun t3 n3 => ?_⟩
        have g3 := g2.trans (TK.new (o := .tup [.int c]) n3)
        refine ⟨t2, t3, _, _, rfl, rfl, SqT.of (TK.new n3 _ _ upd_same), SqT.of upd_same, (by intro z; cases z), by show 5 ≤ sizeLine; decide, (fun z => by cases z), fun _ t4 n4 => ?_⟩
        have g4 := g3.trans (TK.new (o := .tup ([V.str "move", v1, v2, v3] ++ [.int c])) n4)
        have hS4 := L1 (L1 hS2 n3 (o := .tup [.int c])) n4 (o := .tup ([V.str "move", v1, v2, v3] ++ [.int c]))
        have hD4 := L1 (L1 (L1 hD n2 (o := .tup [V.str "move", v1, v2, v3])) n3 (o := .tup [.int c])) n4 (o := .tup ([V.str "move", v1, v2, v3] ++ [.int c]))
        refine ⟨_, rfl, _, _, _, _, rfl, rfl, SqL.of hS4, rfl, _, _, rfl, rfl, _, rfl, S, _, 0, 0, rfl, rfl, hS4, rfl, ?_⟩
        have g5 := g4.trans (TK.lst (o := .lst [.int (c + 1)]) hS4)
        have hD5 : upd (upd (upd (upd H' t2 (.tup [V.str "move", v1, v2, v3])) t3 (.tup [.int c])) t4 (.tup ([V.str "move", v1, v2, v3] ++ [.int c]))) S (.lst [.int (c + 1)]) D = some (.lst ys) := by rw [upd_ne hDS]; exact hD4
        refine ⟨_, rfl, .inl ⟨rfl, _, SqL.of hD5⟩, _, rfl, D, _, _, rfl, rfl, hD5, lm, ?_⟩
        exact fin (r := .ref t4) hD5 upd_same (hy.tk g5) ((TD.tup upd_same (.cons (.str _) (.cons (d1.tk g4) (.cons (d2.tk g4) (.cons (d3.tk g4) (.cons (.int _) .nil)))))).tk (TK.lst hS4)) ((((K1.then_new n2).then_new n3).then_new n4).then_at (by simp))
      · refine ⟨_, rfl, _, _, _, _, rfl, rfl, SqT.of hz, h0, rfl, _, rfl, iteDF (fun z => w3 (wd_ne z)) ?_⟩
        refine ⟨_, rfl, _, _, _, _, rfl, rfl, SqT.of hz, h0, by show 2 ≤ sizeLine; decide, fun t0 n0 => ⟨t0, _, rfl, .inr (SqT.of upd_same), rfl, rfl, _, rfl, iteBF (wd_nin w1 w2) ?_⟩⟩
        have g1 := TK.new (o := .tup [.str "if", .str "when"]) n0
        have hS1 := L1 hS n0 (o := .tup [.str "if", .str "when"])
        have hD1 := L1 hD n0 (o := .tup [.str "if", .str "when"])
        refine ⟨_, rfl, .inl ⟨rfl, _, SqL.of hD1⟩, _, rfl, D, _, _, rfl, rfl, hD1, lm, ?_⟩
        refine fin (r := .ref z) hD1 ?_ (hy.tk g1) (by rw [e9]; exact hd1.tk g1) (K1.then_new n0)
        rw [hS1, e0, show c + ((0 : Nat) : Int) = c by omega]
    · rintro σ H' ⟨o3, o4, ys, rfl, hD, hS, hy, K1⟩
      have e : l.take xs.length = l := List.take_of_length_le (by have := hx.length; rw [datas_map, List.length_map] at this; omega)
      rw [e] at hy hS
      exact ⟨_, rfl, D, ys, rfl, .inl ⟨SqL.of hD, fun t nt => k _ _ (.tup upd_same (hy.tk (TK.new nt))) (by rw [upd_ne (ne_of_none hS nt)]; exact hS) (K1.then_new nt)⟩⟩
theorem num_all {f : Addr} {fd : FuncData} (D : C8.Def K mg "_law_numbered" s_law_numbered f fd) (b : Binds K fd ["block", "state"] []) (T : Txt K mg C_Game C_GameError C_BadText C_BadMove C_BadEdit) : ∀ m, C8.Cal P w K mg base (m + 1) "_law_numbered" (sp_num m) []
  | 0 => ok_num0 D b
  | m + 1 => ok_num D b T (num_all D b T m)
end

def dO (p : Str × Bool) : PyData := .tuple [.str p.1, .bool p.2]
def dV (p : Str × Int) : PyData := .tuple [.str p.1, .int p.2]
def dR (p : Str × List Sm) : PyData := .tuple [.str p.1, .tuple (datas p.2)]
structure GameAt (C : Addr) (H : Hp) (g : Addr) (os vs rs : List PyData) : Prop where
  ex : ∃ dx a b c, H g = some (.ins C dx [("options", .ref a), ("variables", .ref b), ("rounds", .ref c)]) ∧ TD H (.ref a) (.tuple os) ∧ TD H (.ref b) (.tuple vs) ∧ TD H (.ref c) (.tuple rs)
theorem GameAt.keep {C : Addr} {H H' : Hp} {g : Addr} {os vs rs : List PyData} (h : GameAt C H g os vs rs) (k : Keep [] H H') : GameAt C H' g os vs rs := by
  obtain ⟨dx, a, b, c, h1, h2, h3, h4⟩ := h.ex
  exact ⟨dx, a, b, c, k _ _ h1 (by simp), h2.tk k.tk, h3.tk k.tk, h4.tk k.tk⟩
/-- at a list that is no game something is stored -/
theorem GameAt.keep1 {C : Addr} {H H' : Hp} {g p : Addr} {os vs rs : List PyData} {xs : List V} (h : GameAt C H g os vs rs) (k : Keep [p] H H') (hp : H p = some (.lst xs)) : GameAt C H' g os vs rs := by
  obtain ⟨dx, a, b, c, h1, h2, h3, h4⟩ := h.ex
  exact ⟨dx, a, b, c, k _ _ h1 (by have := ne_of h1 hp (by intro z; cases z); simpa using this), h2.tk (k.tk1 hp), h3.tk (k.tk1 hp), h4.tk (k.tk1 hp)⟩
def sp_game (C : Addr) : Sp := fun vs H Q _ => ∃ x dx a b c os vs' rs, vs = [.ref x, .ref a, .ref b, .ref c] ∧ H x = some (.ins C dx []) ∧ TD H (.ref a) (.tuple os) ∧ TD H (.ref b) (.tuple vs') ∧ TD H (.ref c) (.tuple rs) ∧ Q .non (upd H x (.ins C dx [("options", .ref a), ("variables", .ref b), ("rounds", .ref c)]))
theorem td_sq {K : PySem.W.Frag} {H : Hp} {a : Addr} {ds : List PyData} (h : TD H (.ref a) (.tuple ds)) : ∃ xs, SqT K H a xs ∧ TDs H xs ds ∧ H a = some (.tup xs) := by
  obtain ⟨b, xs, e, hb, t⟩ := td_view h
  cases e
  exact ⟨xs, SqT.of hb, t, hb⟩
theorem game_made {C : Addr} {H : Hp} {a b c : Addr} {os vs rs : List PyData} {Q : VK} {E : XK} (ta : TD H (.ref a) (.tuple os)) (tb : TD H (.ref b) (.tuple vs)) (tc : TD H (.ref c) (.tuple rs)) (k : ∀ g H', GameAt C H' g os vs rs → Keep [] H H' → Q (.ref g) H') :
    ∀ x dx, H x = none → H dx = none → dx ≠ x → sp_game C [.ref x, .ref a, .ref b, .ref c] (upd (upd H dx (.own x)) x (.ins C dx [])) (fun v H2 => v = .non ∧ Q (.ref x) H2) E := by
  intro x dx nx ndx ne
  have tk : ∀ {o : HO}, TK H (upd (upd H dx (.own x)) x o) := fun b xs h => by rw [upd_ne (ne_of_none h nx), upd_ne (ne_of_none h ndx)]; exact h
  refine ⟨x, dx, a, b, c, os, vs, rs, rfl, upd_same, ta.tk tk, tb.tk tk, tc.tk tk, rfl, ?_⟩
  rw [upd_upd]
  refine k _ _ ⟨dx, a, b, c, upd_same, ta.tk tk, tb.tk tk, tc.tk tk⟩ fun b o h _ => ?_
  rw [upd_ne (ne_of_none h nx), upd_ne (ne_of_none h ndx)]; exact h
def Shd (l : List PyData) : Prop := SeqAt.shaped (.tuple l) = true
/-- Game.__eq__ of two games with the same data -/
def sp_geq (C : Addr) : Sp := fun vs H Q _ => ∃ a b os vs' rs, vs = [.ref a, .ref b] ∧ GameAt C H a os vs' rs ∧ GameAt C H b os vs' rs ∧ Shd os ∧ Shd vs' ∧ Shd rs ∧ Q (.bl true) H
def sp_is (C : Addr) : Sp := fun vs H Q _ => ∃ g a b c os vs' rs, vs = [.ref g, .ref a, .ref b, .ref c] ∧ GameAt C H g os vs' rs ∧ TD H (.ref a) (.tuple os) ∧ TD H (.ref b) (.tuple vs') ∧ TD H (.ref c) (.tuple rs) ∧ Shd os ∧ Shd vs' ∧ Shd rs ∧ Q (.bl true) H
theorem tt_eqS {K : PySem.W.Frag} {H : Hp} {u v : V} {ds : List PyData} {Q : VK} (h1 : TD H u (.tuple ds)) (h2 : TD H v (.tuple ds)) (s : Shd ds) (q : Q (.bl true) H) : rEqD K u v H Q :=
  ⟨_, _, h1.dp, h2.dp, s, s, by rw [SeqAt.eqv_refl _ (SeqAt.canLay_of_shaped s)]; exact q⟩
section
variable {P : Program} {w : World} {K : PySem.W.Frag} {mg : Str → Option Value} {base : Heap} {C_Game : Addr} {C_GameError : Addr} {C_BadText : Addr} {C_BadMove : Addr} {C_BadEdit : Addr} {f_BadEdit___init : Addr}
theorem tyI {C : Addr} (i : InsC K C) {H : Hp} {p dx : Addr} {fs : List (Str × V)} (h : H p = some (.ins C dx fs)) : TyX K H (.ref p) (.ref C) := .base (.ins h i.cl i.ha i.hn i.htk i.hm)
theorem ok_game {f : Addr} {fd : FuncData} (M : Mk K C_Game f) (F : C8.Fun K "__init__" "Game.__init__" s_Game___init f fd) (b : Binds K fd ["self", "options", "variables", "rounds"] []) (T : Txt K mg C_Game C_GameError C_BadText C_BadMove C_BadEdit) : C8.Mak P w K mg base 1 "Game" C_Game (sp_game C_Game) [] := by
  refine mak0 M T.m_Game F b .nil sc_Game___init (fun vs H Q E h => ?_) (fun cdv A outer s H vs Q E hr h => ?_)
  · obtain ⟨x, dx, a, b, c, os, vs', rs, rfl, _⟩ := h
    rfl
  · obtain ⟨x, dx, a, b, c, os, vs', rs, rfl, hx, ta, tb, tc, k⟩ := h
    refine ⟨_, (pss_cons (ps_fld (pv 0) (pe_callTy call_tupleT (by rfl) T.n_tuple bo_tuple (pa_cons (pv 1) pa_nil)) rfl)
(pss_cons (ps_fld (pv 0) (pe_callTy call_tupleT (by rfl) T.n_tuple bo_tuple (pa_cons (pv 2) pa_nil)) rfl)
(pss_one (ps_fld (pv 0) (pe_callTy call_tupleT (by rfl) T.n_tuple bo_tuple (pa_cons (pv 3) pa_nil)) rfl)))), ?_⟩
    obtain ⟨as, sa, _, ha⟩ := td_sq (K := K) ta
    obtain ⟨bs, sb, _, hb⟩ := td_sq (K := K) tb
    obtain ⟨cs, sc, _, hc⟩ := td_sq (K := K) tc
    have up : ∀ {t : Addr} {xs : List V} {fs : List (Str × V)}, H t = some (.tup xs) → SqT K (upd H x (.ins C_Game dx fs)) t xs := fun h => SqT.of (by rw [upd_ne (ne_of h hx (by intro z; cases z))]; exact h)
    refine ⟨_, rfl, _, _, rfl, sa, _, rfl, x, C_Game, dx, [], rfl, hx, T.cl_Game, T.a_Game_options, by show 0 < 1000; decide, ?_⟩
    refine ⟨_, rfl, _, _, rfl, up hb, _, rfl, x, C_Game, dx, _, rfl, upd_same, T.cl_Game, T.a_Game_variables, by show 1 < 1000; decide, ?_⟩
    rw [upd_upd]
    refine ⟨_, rfl, _, _, rfl, up hc, _, rfl, x, C_Game, dx, _, rfl, upd_same, T.cl_Game, T.a_Game_rounds, by show 2 < 1000; decide, ?_⟩
    rw [upd_upd]; exact k
theorem ok_geq {f : Addr} {fd : FuncData} (me : Meth K C_Game "__eq__" f) (F : C8.Fun K "__eq__" "Game.__eq__" s_Game___eq f fd) (b : Binds K fd ["self", "other"] []) (T : Txt K mg C_Game C_GameError C_BadText C_BadMove C_BadEdit) : Own P w K mg base 1 C_Game "__eq__" (sp_geq C_Game) := by
  refine ⟨f, fd, ["self", "other"], me.at_, me.fn, C8.fn0 F sc_Game___eq (fun vs H Q E h => ?_) (fun cdv A outer s H vs Q E hr h => ?_), b⟩
  · obtain ⟨x, y, os, vs', rs, rfl, _⟩ := h
    rfl
  · obtain ⟨x, y, os, vs', rs, rfl, G1, G2, s1, s2, s3, k⟩ := h
    refine ⟨_, (pss_one (ps_ret (pe_and (pe_callB call_isi (by rfl) T.n_isinstance bo_isinstance (pa_cons (pv 1) (pa_cons (pe_glob (v := .ref _) rfl T.m_Game rfl) pa_nil))) (pe_and (pe_cmpR (op_eqD hr.units) (pe_fld (pv 0) rfl) (pe_fld (pv 1) rfl) (nomark _)) (pe_and (pe_cmpR (op_eqD hr.units) (pe_fld (pv 0) rfl) (pe_fld (pv 1) rfl) (nomark _)) (pe_one (pe_cmpR (op_eqD hr.units) (pe_fld (pv 0) rfl) (pe_fld (pv 1) rfl) (nomark _)))))))), ?_⟩
    obtain ⟨dx, a, b, c, h1, ta, tb, tc⟩ := G1.ex
    obtain ⟨dy, a', b', c', h2, ta', tb', tc'⟩ := G2.ex
    refine ⟨_, rfl, _, _, _, _, _, rfl, .own _, tyI T.i_Game h2, kitSelf, _, rfl, iteT ?_⟩
    refine ⟨_, rfl, x, C_Game, dx, _, _, rfl, h1, T.cl_Game, T.a_Game_options, rfl, _, rfl, y, C_Game, dy, _, _, rfl, h2, T.cl_Game, T.a_Game_options, rfl, tt_eqS ta ta' s1 ⟨_, rfl, iteT ?_⟩⟩
    refine ⟨_, rfl, x, C_Game, dx, _, _, rfl, h1, T.cl_Game, T.a_Game_variables, rfl, _, rfl, y, C_Game, dy, _, _, rfl, h2, T.cl_Game, T.a_Game_variables, rfl, tt_eqS tb tb' s2 ⟨_, rfl, iteT ?_⟩⟩
    exact ⟨_, rfl, x, C_Game, dx, _, _, rfl, h1, T.cl_Game, T.a_Game_rounds, rfl, _, rfl, y, C_Game, dy, _, _, rfl, h2, T.cl_Game, T.a_Game_rounds, rfl, tt_eqS tc tc' s3 k⟩
theorem ok_is {f : Addr} {fd : FuncData} (D : C8.Def K mg "_law_is" s_law_is f fd) (b : Binds K fd ["game", "options", "variables", "rounds"] []) (T : Txt K mg C_Game C_GameError C_BadText C_BadMove C_BadEdit) : C8.Cal P w K mg base 1 "_law_is" (sp_is C_Game) [] := by
  refine cal0 D b .nil sc_law_is (fun vs H Q E h => ?_) (fun cdv A outer s H vs Q E hr h => ?_)
  · obtain ⟨g, a, b, c, os, vs', rs, rfl, _⟩ := h
    rfl
  · obtain ⟨g, a, b, c, os, vs', rs, rfl, G, ta, tb, tc, s1, s2, s3, k⟩ := h
    refine ⟨_, (pss_cons (ps_if (pt_not (pt_val (pe_callB call_isi (by rfl) T.n_isinstance bo_isinstance (pa_cons (pv 0) (pa_cons (pe_glob (v := .ref _) rfl T.m_Game rfl) pa_nil)))))
  (pss_one (ps_ret pe_bl))
  pss_nil)
(pss_one (ps_ret (pe_and (pe_cmpR (op_eqD hr.units) (pe_fld (pv 0) rfl) (pv 1) (nomark _)) (pe_and (pe_cmpR (op_eqD hr.units) (pe_fld (pv 0) rfl) (pv 2) (nomark _)) (pe_one (pe_cmpR (op_eqD hr.units) (pe_fld (pv 0) rfl) (pv 3) (nomark _)))))))), ?_⟩
    obtain ⟨dx, a', b', c', h1, ta', tb', tc'⟩ := G.ex
    refine ⟨_, rfl, _, _, _, _, _, rfl, .own _, tyI T.i_Game h1, kitSelf, _, rfl, iteF ?_⟩
    refine ⟨_, rfl, g, C_Game, dx, _, _, rfl, h1, T.cl_Game, T.a_Game_options, rfl, _, rfl, tt_eqS ta' ta s1 ⟨_, rfl, iteT ?_⟩⟩
    refine ⟨_, rfl, g, C_Game, dx, _, _, rfl, h1, T.cl_Game, T.a_Game_variables, rfl, _, rfl, tt_eqS tb' tb s2 ⟨_, rfl, iteT ?_⟩⟩
    exact ⟨_, rfl, g, C_Game, dx, _, _, rfl, h1, T.cl_Game, T.a_Game_rounds, rfl, _, rfl, tt_eqS tc' tc s3 k⟩
end

def swR (r : Str × List Sm) : Str × List Sm := (r.1, sws r.2)
def sp_swapped (C : Addr) (m : Nat) : Sp := fun vs H Q _ => ∃ g os vs' rs, vs = [.ref g] ∧ GameAt C H g os vs' (List.map dR rs) ∧ (∀ r ∈ rs, Fit m r.2) ∧ rs.length ≤ 100 ∧ ∀ r H', GameAt C H' r os vs' ((rs.map swR).map dR) → Keep [] H H' → Q (.ref r) H'
theorem rounds_get {rs : List (Str × List Sm)} {i : Nat} {H : Hp} {xs : List V} {x : V} (t : TDs H xs (rs.map dR)) (hx : xs[i]? = some x) : ∃ r, rs[i]? = some r ∧ TD H x (dR r) := by
  have hl := t.length
  rw [List.length_map] at hl
  obtain ⟨h1, _⟩ := List.getElem?_eq_some_iff.mp hx
  have e : rs[i]? = some rs[i] := List.getElem?_eq_getElem (by omega)
  obtain ⟨v, hv, d⟩ := t.get (i := i) (d := dR (rs[i]'(by omega))) (by rw [List.getElem?_map, e]; rfl)
  rw [hx] at hv
  cases hv
  exact ⟨_, e, d⟩
section
variable {P : Program} {w : World} {K : PySem.W.Frag} {mg : Str → Option Value} {base : Heap} {C_Game : Addr} {C_GameError : Addr} {C_BadText : Addr} {C_BadMove : Addr} {C_BadEdit : Addr} {f_BadEdit___init : Addr}
theorem ok_swapped {f : Addr} {fd : FuncData} (D : C8.Def K mg "swapped" s_swapped f fd) (b : Binds K fd ["game"] []) (T : Txt K mg C_Game C_GameError C_BadText C_BadMove C_BadEdit) {m k : Nat} (hk : 1 ≤ k) (c_swapped_block : C8.Cal P w K mg base k "swapped_block" (sp_sw m) []) (c_Game : C8.Mak P w K mg base 1 "Game" C_Game (sp_game C_Game) []) : C8.Cal P w K mg base (k + 2) "swapped" (sp_swapped C_Game m) [] := by
  refine cal0 D b .nil sc_swapped (fun vs H Q E h => ?_) (fun cdv A outer s H vs Q E hr h => ?_)
  · obtain ⟨g, os, vs', rs, rfl, _⟩ := h
    rfl
  · obtain ⟨g, os, vs', rs, rfl, G, hF, hl, k⟩ := h
    refine ⟨_, (pss_cons (ps_setLc (i := 1) (own := [("name", 2), ("block", 3)]) (g := (gTup K 2 (gCons (gName 2) (gCons (gName 3) gNil)))) (tt := tYes) rfl sc_swapped.nd rfl rfl (sw_true rfl rfl rfl (by decide +kernel)) (pi_tup (pe_fld (pv 0) rfl)) (blkOk_by (N := ["game", "rounds", "name", "block"]) (sc := fnScope s_swapped) (by decide +kernel)) (fun _ _ _ _ _ => pg_tupK (K := K) (n := 2) (t := (gCons (gName 2) (gCons (gName 3) gNil))) (pgs_cons (pg_name (i := 2) sc_swapped.nd rfl (Or.inl rfl)) (pgs_cons (pg_name (i := 3) sc_swapped.nd rfl (Or.inl rfl)) pgs_nil))) (fun _ _ _ _ _ => pts_nil) (fun _ _ _ _ _ => (pe_tup (pa_cons (pv 2) (pa_cons (pe_c c_swapped_block hr (by first | exact Nat.le_refl _ | decide | omega) rfl (pa_cons (pv 3) pa_nil)) pa_nil)))))
(pss_one (ps_ret (pe_mk c_Game hr (by first | exact Nat.le_refl _ | decide | omega) rfl (pa_cons (pe_fld (pv 0) rfl) (pa_cons (pe_fld (pv 0) rfl) (pa_cons (pe_callTy call_tuple_of (by rfl) T.n_tuple bo_tuple (pa_cons (pv 1) pa_nil)) pa_nil))))))), ?_⟩
    obtain ⟨dx, a, b, c, h1, ta, tb, tc⟩ := G.ex
    obtain ⟨xs, sc, tx, hc⟩ := td_sq (K := K) tc
    refine ⟨_, rfl, g, C_Game, dx, _, _, rfl, h1, T.cl_Game, T.a_Game_rounds, rfl, c, rfl, ⟨_, sc⟩, fun D nD => ?_⟩
    have K0 := Keep.new (W := []) (o := .lst []) nD
    refine lc_tup (K := K) (a := c) (xs := xs) (fun i H' => ∃ ys, H' D = some (.lst ys) ∧ TDs H' ys (((rs.take i).map swR).map dR) ∧ Keep [] H H') ⟨[], upd_same, .nil, K0⟩ ?_ ?_ ?_
    · rintro i H' _ ⟨ys, _, _, K1⟩
      exact SqT.of (K1 _ _ hc (by simp))
    · rintro i x H' hx ⟨ys, hD, hy, K1⟩
      obtain ⟨r, hr', hd⟩ := rounds_get tx hx
      obtain ⟨z, u, v, rfl, hz, d0, d1⟩ := td2 (hd.tk K1.tk)
      cases td_str d0
      have hi : i < rs.length := (List.getElem?_eq_some_iff.mp hr').1
      have hyl : ys.length = i := by rw [hy.length, List.length_map, List.length_map, List.length_take]; omega
      refine ⟨z, _, rfl, SqT.of hz, rfl, _, _, rfl, _, _, rfl, rfl, rfl, yes_then ⟨_, rfl, _, rfl, _, r.2, rfl, d1, hF _ (List.mem_of_getElem? hr'), fun q H2 tq K2 => ⟨by show 2 ≤ sizeLine; decide, fun t nt => ?_⟩⟩⟩
      have K3 := K2.then_new (o := .tup [.str r.1, q]) nt
      have hD3 := K3 _ _ hD (by simp)
      refine ⟨_, hD3, by rw [hyl]; exact smallL (by omega), _, upd_same, ?_, (K1.trans K3).then_own nD⟩
      rw [take_snoc hr', List.map_append, List.map_append]
      exact (hy.tk (K3.tk.trans (TK.lst hD3))).append (.cons ((TD.tup upd_same (.cons (.str _) (.cons (tq.tk (TK.new nt)) .nil))).tk (TK.lst hD3)) .nil)
    · rintro H' ⟨ys, hD, hy, K1⟩
      have e : rs.take xs.length = rs := List.take_of_length_le (by have := tx.length; rw [List.length_map] at this; omega)
      rw [e] at hy
      have g1 := K1 _ _ h1 (by simp)
      refine ⟨_, rfl, g, C_Game, dx, _, _, rfl, g1, T.cl_Game, T.a_Game_options, rfl, _, rfl, g, C_Game, dx, _, _, rfl, g1, T.cl_Game, T.a_Game_variables, rfl, _, rfl, D, ys, rfl, .inl ⟨SqL.of hD, fun t nt => ?_⟩⟩
      have K2 := K1.then_new (o := .tup ys) nt
      exact game_made (ta.tk K2.tk) (tb.tk K2.tk) (.tup upd_same (hy.tk (TK.new nt))) fun r H2 G2 K3 => k _ _ G2 (K2.trans K3)
end

def mvR (rs : List (Str × List Sm)) : Nat := (rs.map fun r => mvs r.2).sum
def rnR (n : Int) : List (Str × List Sm) → List (Str × List Sm)
  | [] => []
  | (x, l) :: r => (x, rns n l) :: rnR (n + (mvs l : Nat)) r
theorem mvR_append (l r : List (Str × List Sm)) : mvR (l ++ r) = mvR l + mvR r := by simp [mvR]
theorem rnR_append : ∀ (n : Int) (l r : List (Str × List Sm)), rnR n (l ++ r) = rnR n l ++ rnR (n + (mvR l : Nat)) r
  | n, [], r => by simp [rnR, mvR]
  | n, (x, a) :: l, r => by
    rw [List.cons_append, rnR, rnR, rnR_append _ l r, List.cons_append]
    congr 2
    rw [show n + (mvs a : Int) + (mvR l : Nat) = n + ((mvR ((x, a) :: l) : Nat) : Int) by simp [mvR]; omega]
theorem rnR_len : ∀ (n : Int) (l : List (Str × List Sm)), (rnR n l).length = l.length
  | _, [] => rfl
  | _, (x, a) :: l => by rw [rnR, List.length_cons, List.length_cons, rnR_len _ l]
theorem mvR_take {l : List (Str × List Sm)} {i : Nat} {s : Str × List Sm} (h : l[i]? = some s) : mvR (l.take (i + 1)) = mvR (l.take i) + mvs s.2 := by
  rw [take_snoc h, mvR_append]; simp [mvR]
theorem mvR_le {l : List (Str × List Sm)} {i : Nat} {s : Str × List Sm} (h : l[i]? = some s) : mvR (l.take i) + mvs s.2 ≤ mvR l := by
  rw [← mvR_take h]
  have := congrArg mvR (List.take_append_drop (i + 1) l)
  rw [mvR_append] at this; omega
theorem rnR_take {n : Int} {l : List (Str × List Sm)} {i : Nat} {s : Str × List Sm} (h : l[i]? = some s) : rnR n (l.take (i + 1)) = rnR n (l.take i) ++ [(s.1, rns (n + (mvR (l.take i) : Nat)) s.2)] := by
  rw [take_snoc h, rnR_append]
  obtain ⟨x, a⟩ := s
  simp [rnR]
theorem mvR_sum : ∀ rs : List (Str × List Sm), (rs.map fun r => ((mvs r.2 : Nat) : Int)).sum = ((mvR rs : Nat) : Int)
  | [] => rfl
  | r :: l => by rw [List.map_cons, List.sum_cons, mvR_sum l]; simp [mvR]
/-- a tuple of tuples that begin with these names -/
def NT (H : Hp) (v : V) (ns : List Str) : Prop := ∃ a xs, v = .ref a ∧ H a = some (.tup xs) ∧ xs.length = ns.length ∧ ∀ (i : Nat) (x : V), xs[i]? = some x → ∃ p r n, x = .ref p ∧ H p = some (.tup (.str n :: r)) ∧ ns[i]? = some n
theorem NT.tk {H H' : Hp} (k : TK H H') {v : V} {ns : List Str} (h : NT H v ns) : NT H' v ns := by
  obtain ⟨a, xs, e, h1, h2, h3⟩ := h
  exact ⟨a, xs, e, k _ _ h1, h2, fun i x hx => by obtain ⟨p, r, n, e1, e2, e3⟩ := h3 i x hx; exact ⟨p, r, n, e1, k _ _ e2, e3⟩⟩
theorem nt_of {α : Type} {H : Hp} {v : V} {l : List α} {f : α → PyData} {g : α → Str} (hf : ∀ a, ∃ d, f a = .tuple [.str (g a), d]) (h : TD H v (.tuple (l.map f))) : NT H v (l.map g) := by
  obtain ⟨a, xs, rfl, ha, t⟩ := td_view h
  have hl := t.length
  rw [List.length_map] at hl
  refine ⟨a, xs, rfl, ha, by rw [hl, List.length_map], fun i x hx => ?_⟩
  obtain ⟨h1, _⟩ := List.getElem?_eq_some_iff.mp hx
  have e : l[i]? = some l[i] := List.getElem?_eq_getElem (by omega)
  obtain ⟨w, hw, d⟩ := t.get (i := i) (d := f (l[i]'(by omega))) (by rw [List.getElem?_map, e]; rfl)
  rw [hx] at hw
  cases hw
  obtain ⟨d', ed⟩ := hf (l[i]'(by omega))
  rw [ed] at d
  obtain ⟨z, x, y, rfl, hz, d0, _⟩ := td2 d
  cases td_str d0
  exact ⟨z, _, _, rfl, hz, by rw [List.getElem?_map, e]; rfl⟩
def clB (as bs : List Str) : Bool := (bs.map fun y => inV (V.str y) (as.map V.str)).any id
theorem strs_flat : ∀ l : List Str, (l.map V.str).all flatV = true
  | [] => rfl
  | _ :: l => by rw [List.map_cons, List.all_cons, strs_flat l]; rfl
theorem cat_td {K : PySem.W.Frag} {H : Hp} {a b : Addr} {ds es : List PyData} {Q : VK} (ta : TD H (.ref a) (.tuple ds)) (tb : TD H (.ref b) (.tuple es)) (hl : ds.length + es.length ≤ 1000) (k : ∀ t H', TD H' (.ref t) (.tuple (ds ++ es)) → Keep [] H H' → Q (.ref t) H') : rCatA K (.ref a) (.ref b) H Q := by
  obtain ⟨xs, sa, ta', ha⟩ := td_sq (K := K) ta
  obtain ⟨ys, sb, tb', hb⟩ := td_sq (K := K) tb
  have l1 := ta'.length
  have l2 := tb'.length
  refine ⟨a, b, xs, ys, rfl, rfl, sa, sb, smallM (by omega), fun z => ?_, fun _ z => ?_, fun _ _ p np => k _ _ (.tup upd_same ((ta'.append tb').tk (TK.new np))) (Keep.new np)⟩
  · subst z
    cases ta'
    exact k _ _ tb (Keep.refl _ _)
  · subst z
    cases tb'
    rw [List.append_nil] at k
    exact k _ _ ta (Keep.refl _ _)
def clG (os os2 : List (Str × Bool)) (vs vs2 : List (Str × Int)) (rs rs2 : List (Str × List Sm)) : Bool := clB (os.map Prod.fst) (os2.map Prod.fst) || (clB (vs.map Prod.fst) (vs2.map Prod.fst) || clB (rs.map Prod.fst) (rs2.map Prod.fst))
def sp_before (C CB : Addr) (m : Nat) : Sp := fun as H Q E => ∃ g g' os os2 vs vs2 rs rs2, as = [.ref g, .ref g'] ∧ GameAt C H g (List.map dO os) (List.map dV vs) (List.map dR rs) ∧ GameAt C H g' (List.map dO os2) (List.map dV vs2) (List.map dR rs2) ∧
  (∀ r ∈ rs, Fit m r.2) ∧ (∀ r ∈ rs2, Fit m r.2) ∧ os.length ≤ 100 ∧ os2.length ≤ 100 ∧ vs.length ≤ 100 ∧ vs2.length ≤ 100 ∧ rs.length ≤ 100 ∧ rs2.length ≤ 100 ∧ mvR rs ≤ 1000 ∧ mvR rs2 ≤ 1000 ∧
  (clG os os2 vs vs2 rs rs2 = false → ∀ r H', GameAt C H' r ((os ++ os2).map dO) ((vs ++ vs2).map dV) ((rs ++ rnR (mvR rs : Nat) rs2).map dR) → Keep [] H H' → Q (.ref r) H') ∧
  (clG os os2 vs vs2 rs rs2 = true → ∀ d H', H d = none → H' d = some (.xd [(("what" : Str), .str "names")]) → Keep [] H H' → E (.ref CB) (some d) H')
section
variable {P : Program} {w : World} {K : PySem.W.Frag} {mg : Str → Option Value} {base : Heap} {C_Game : Addr} {C_GameError : Addr} {C_BadText : Addr} {C_BadMove : Addr} {C_BadEdit : Addr} {f_BadEdit___init : Addr}
theorem ok_before {f : Addr} {fd : FuncData} (D : C8.Def K mg "before" s_before f fd) (b : Binds K fd ["game", "other"] []) (T : Txt K mg C_Game C_GameError C_BadText C_BadMove C_BadEdit) (X_BadEdit : SupX_BadEdit.Txt P K mg "BadEdit" C_BadEdit f_BadEdit___init) {m k : Nat} (hk : 3 ≤ k) (c_renumbered : C8.Cal P w K mg base k "renumbered" (sp_rn m) []) (c_moves_in : C8.Cal P w K mg base k "moves_in" (sp_moves m) []) (c_Game : C8.Mak P w K mg base 1 "Game" C_Game (sp_game C_Game) []) : CalX P w K mg base (k + 1) "before" (sp_before C_Game C_BadEdit m) [] := by
  refine CalX.of D (fnx D.fn sc_before (fun vs H Q E h => ?_) (fun cdv A outer s H vs Q E hr h => ?_)) b .nil
  · obtain ⟨g, g', os, os2, vs, vs2, rs, rs2, rfl, _⟩ := h
    rfl
  · obtain ⟨g, g', os, os2, vs, vs2, rs, rs2, rfl, G1, G2, F1, F2, l1, l2, l3, l4, l5, l6, l7, l8, k1, k2⟩ := h
    refine ⟨_, (pss_cons (ps_for (passes_of rfl) rfl (pi_tup (pe_tup (pa_cons (pe_tup (pa_cons (pe_fld (pv 0) rfl) (pa_cons (pe_fld (pv 1) rfl) pa_nil))) (pa_cons (pe_tup (pa_cons (pe_fld (pv 0) rfl) (pa_cons (pe_fld (pv 1) rfl) pa_nil))) (pa_cons (pe_tup (pa_cons (pe_fld (pv 0) rfl) (pa_cons (pe_fld (pv 1) rfl) pa_nil))) pa_nil))))) (pg_tup (by rfl) (pgs_cons (pg_name (i := 2) sc_before.nd rfl (by first | exact Or.inl rfl | exact Or.inr rfl)) (pgs_cons (pg_name (i := 3) sc_before.nd rfl (by first | exact Or.inl rfl | exact Or.inr rfl)) pgs_nil)))
  (pss_cons (ps_set (i := 4) sc_before.nd rfl (by first | exact Or.inl rfl | exact Or.inr rfl) (pe_lc (own := [("entry", 9)]) (g := gName 9) (tt := tYes) rfl sc_before.nd (pi_tup (pv 2)) (blkOk_by (N := ["game", "other", "own", "more", "names", "number", "rounds", "name", "block", "entry"]) (sc := fnScope s_before) (by decide +kernel)) (fun _ _ _ _ _ => pg_name (i := 9) sc_before.nd rfl (Or.inl rfl)) (fun _ _ _ _ _ => pts_nil) (fun _ _ _ _ _ => (pe_ix (ix_tupK (K := K)) (pv 9) pe_int (fun _ _ => rfl)))))
  (pss_one (ps_if (pt_val (pe_callB (cr_any rfl) (by rfl) T.n_any bo_any (pa_cons (pe_lc (own := [("entry", 9)]) (g := gName 9) (tt := tYes) rfl sc_before.nd (pi_tup (pv 3)) (blkOk_by (N := ["game", "other", "own", "more", "names", "number", "rounds", "name", "block", "entry"]) (sc := fnScope s_before) (by decide +kernel)) (fun _ _ _ _ _ => pg_name (i := 9) sc_before.nd rfl (Or.inl rfl)) (fun _ _ _ _ _ => pts_nil) (fun _ _ _ _ _ => (pe_cmpR (op_in_seqK (K := K)) (pe_ix (ix_tupK (K := K)) (pv 9) pe_int (fun _ _ => rfl)) (pv 4) (by rfl)))) pa_nil)))
    (pss_one (SupX_BadEdit.ps_raiseE rfl X_BadEdit hr (takes_of rfl rfl rfl rfl) (pa_cons pe_str pa_nil)))
    pss_nil))))
(pss_cons (ps_set (i := 5) sc_before.nd rfl (by first | exact Or.inl rfl | exact Or.inr rfl) (pe_callB (cr_sum rfl) (by rfl) T.n_sum bo_sum (pa_cons (pe_lc (own := [("name", 7), ("block", 8)]) (g := (gTup K 2 (gCons (gName 7) (gCons (gName 8) gNil)))) (tt := tYes) rfl sc_before.nd (pi_tup (pe_fld (pv 0) rfl)) (blkOk_by (N := ["game", "other", "own", "more", "names", "number", "rounds", "name", "block", "entry"]) (sc := fnScope s_before) (by decide +kernel)) (fun _ _ _ _ _ => pg_tupK (K := K) (n := 2) (t := (gCons (gName 7) (gCons (gName 8) gNil))) (pgs_cons (pg_name (i := 7) sc_before.nd rfl (Or.inl rfl)) (pgs_cons (pg_name (i := 8) sc_before.nd rfl (Or.inl rfl)) pgs_nil))) (fun _ _ _ _ _ => pts_nil) (fun _ _ _ _ _ => (pe_callB (call_len_seqK (K := K)) (by rfl) T.n_len bo_len (pa_cons (pe_c c_moves_in hr (by first | exact Nat.le_refl _ | decide | omega) rfl (pa_cons (pv 8) pa_nil)) pa_nil)))) pa_nil)))
(pss_cons (ps_set (i := 6) sc_before.nd rfl (by first | exact Or.inl rfl | exact Or.inr rfl) (pe_lst pa_nil))
(pss_cons (ps_for (passes_of rfl) rfl (pi_tup (pe_fld (pv 1) rfl)) (pg_tup (by rfl) (pgs_cons (pg_name (i := 7) sc_before.nd rfl (by first | exact Or.inl rfl | exact Or.inr rfl)) (pgs_cons (pg_name (i := 8) sc_before.nd rfl (by first | exact Or.inl rfl | exact Or.inr rfl)) pgs_nil)))
  (pss_cons (ps_expr (pe_bm PySem.F.plainAttrs_list PySem.F.slot_list_append PySem.F.type_list_append mt_append (pv 6) (pa_cons (pe_tup (pa_cons (pv 7) (pa_cons (pe_c c_renumbered hr (by first | exact Nat.le_refl _ | decide | omega) rfl (pa_cons (pv 8) (pa_cons (pv 5) pa_nil))) pa_nil))) pa_nil)))
  (pss_one (ps_set (i := 5) sc_before.nd rfl (by first | exact Or.inl rfl | exact Or.inr rfl) (pe_op op_add (pv 5) (pe_callB call_len_seq (by rfl) T.n_len bo_len (pa_cons (pe_c c_moves_in hr (by first | exact Nat.le_refl _ | decide | omega) rfl (pa_cons (pv 8) pa_nil)) pa_nil)))))))
(pss_one (ps_ret (pe_mk c_Game hr (by first | exact Nat.le_refl _ | decide | omega) rfl (pa_cons (pe_op op_catA (pe_fld (pv 0) rfl) (pe_fld (pv 1) rfl)) (pa_cons (pe_op op_catA (pe_fld (pv 0) rfl) (pe_fld (pv 1) rfl)) (pa_cons (pe_op op_catA (pe_fld (pv 0) rfl) (pe_callTy call_tuple_of (by rfl) T.n_tuple bo_tuple (pa_cons (pv 6) pa_nil))) pa_nil)))))))))), ?_⟩
    obtain ⟨dx, a, b, c, h1, ta, tb, tc⟩ := G1.ex
    obtain ⟨dy, a', b', c', h2, ta', tb', tc'⟩ := G2.ex
    refine ⟨_, rfl, g, C_Game, dx, _, _, rfl, h1, T.cl_Game, T.a_Game_options, rfl, _, rfl, g', C_Game, dy, _, _, rfl, h2, T.cl_Game, T.a_Game_options, rfl, by show 2 ≤ sizeLine; decide, fun t1 n1 => ?_⟩
    have K1 := Keep.new (W := []) (o := .tup [.ref a, .ref a']) n1
    refine ⟨_, rfl, g, C_Game, dx, _, _, rfl, K1 _ _ h1 (by simp), T.cl_Game, T.a_Game_variables, rfl, _, rfl, g', C_Game, dy, _, _, rfl, K1 _ _ h2 (by simp), T.cl_Game, T.a_Game_variables, rfl, by show 2 ≤ sizeLine; decide, fun t2 n2 => ?_⟩
    have K2 := K1.then_new (o := .tup [.ref b, .ref b']) n2
    refine ⟨_, rfl, g, C_Game, dx, _, _, rfl, K2 _ _ h1 (by simp), T.cl_Game, T.a_Game_rounds, rfl, _, rfl, g', C_Game, dy, _, _, rfl, K2 _ _ h2 (by simp), T.cl_Game, T.a_Game_rounds, rfl, by show 2 ≤ sizeLine; decide, fun t3 n3 => ⟨by show 3 ≤ sizeLine; decide, fun t nt => ?_⟩⟩
    have K3 := K2.then_new (o := .tup [.ref c, .ref c']) n3
    have K4 := K3.then_new (o := .tup [.ref t1, .ref t2, .ref t3]) nt
    have M2 := Keep.new (W := []) (o := .tup [.ref b, .ref b']) n2
    have M3 := Keep.new (W := []) (o := .tup [.ref c, .ref c']) n3
    have M4 := Keep.new (W := []) (o := .tup [.ref t1, .ref t2, .ref t3]) nt
    have hT1 := M4 _ _ (M3 _ _ (M2 _ _ (upd_same (H := H) (a := t1) (o := .tup [.ref a, .ref a'])) (by simp)) (by simp)) (by simp)
    have hT2 := M4 _ _ (M3 _ _ (upd_same (a := t2) (o := .tup [.ref b, .ref b'])) (by simp)) (by simp)
    have hT3 := M4 _ _ (upd_same (a := t3) (o := .tup [.ref c, .ref c'])) (by simp)
    have hd : ∀ p : Str × Bool, ∃ d, dO p = .tuple [.str p.1, d] := fun p => ⟨_, rfl⟩
    have hd2 : ∀ p : Str × Int, ∃ d, dV p = .tuple [.str p.1, d] := fun p => ⟨_, rfl⟩
    have hd3 : ∀ p : Str × List Sm, ∃ d, dR p = .tuple [.str p.1, d] := fun p => ⟨_, rfl⟩
    have N0 : ∀ (i : Nat) (x : V), [V.ref t1, V.ref t2, V.ref t3][i]? = some x → ∃ p u v as bs, x = .ref p ∧ ∀ H', Keep [] (upd (upd (upd (upd H t1 (.tup [.ref a, .ref a'])) t2 (.tup [.ref b, .ref b'])) t3 (.tup [.ref c, .ref c'])) t (.tup [.ref t1, .ref t2, .ref t3])) H' →
        H' p = some (.tup [u, v]) ∧ NT H' u as ∧ NT H' v bs ∧ as.length ≤ 100 ∧ bs.length ≤ 100 ∧ [clB (os.map Prod.fst) (os2.map Prod.fst), clB (vs.map Prod.fst) (vs2.map Prod.fst), clB (rs.map Prod.fst) (rs2.map Prod.fst)][i]? = some (clB as bs) := by
      intro i x hx
      rcases i with _ | _ | _ | i
      · simp at hx; subst hx
        refine ⟨t1, .ref a, .ref a', _, _, rfl, fun H' K' => ⟨K' _ _ hT1 (by simp), nt_of hd (ta.tk (K4.trans K').tk), nt_of hd (ta'.tk (K4.trans K').tk), by simpa using l1, by simpa using l2, rfl⟩⟩
      · simp at hx; subst hx
        refine ⟨t2, .ref b, .ref b', _, _, rfl, fun H' K' => ⟨K' _ _ hT2 (by simp), nt_of hd2 (tb.tk (K4.trans K').tk), nt_of hd2 (tb'.tk (K4.trans K').tk), by simpa using l3, by simpa using l4, rfl⟩⟩
      · simp at hx; subst hx
        refine ⟨t3, .ref c, .ref c', _, _, rfl, fun H' K' => ⟨K' _ _ hT3 (by simp), nt_of hd3 (tc.tk (K4.trans K').tk), nt_of hd3 (tc'.tk (K4.trans K').tk), by simpa using l5, by simpa using l6, rfl⟩⟩
      · simp at hx
    have hT := upd_same (H := upd (upd (upd H t1 (.tup [.ref a, .ref a'])) t2 (.tup [.ref b, .ref b'])) t3 (.tup [.ref c, .ref c'])) (a := t) (o := .tup [.ref t1, .ref t2, .ref t3])
    clear hT1 hT2 hT3 M4
    revert N0 K4 hT
    generalize upd (upd (upd (upd H t1 (.tup [.ref a, .ref a'])) t2 (.tup [.ref b, .ref b'])) t3 (.tup [.ref c, .ref c'])) t (.tup [.ref t1, .ref t2, .ref t3]) = H4
    intro K4 N0 hT
    have cl : ∀ {i : Nat} {x : Bool}, [clB (os.map Prod.fst) (os2.map Prod.fst), clB (vs.map Prod.fst) (vs2.map Prod.fst), clB (rs.map Prod.fst) (rs2.map Prod.fst)][i]? = some x → x = true → clG os os2 vs vs2 rs rs2 = true := by
      intro i x hx e
      unfold clG
      rcases i with _ | _ | _ | i <;> simp at hx <;> rw [hx, e] <;> simp
    refine ⟨t, rfl, ⟨_, SqT.of hT⟩, for_tup (K := K) (a := t) (xs := [.ref t1, .ref t2, .ref t3]) (fun (i : Nat) (σ : List (Option V)) (H' : Hp) => ∃ (o2 o3 o4 : Option V), σ = [some (.ref g), some (.ref g'), o2, o3, o4, none, none, none, none, none] ∧ Keep [] H4 H' ∧ ∀ j x, j < i → [clB (os.map Prod.fst) (os2.map Prod.fst), clB (vs.map Prod.fst) (vs2.map Prod.fst), clB (rs.map Prod.fst) (rs2.map Prod.fst)][j]? = some x → x = false) ⟨none, none, none, rfl, Keep.refl _ _, fun j x h => absurd h (Nat.not_lt_zero _)⟩ ?_ ?_ ?_⟩
    · rintro i σ H' _ ⟨o2, o3, o4, rfl, K5, _⟩
      exact SqT.of (K5 _ _ hT (by simp))
    · rintro i x σ H5 hx ⟨o2, o3, o4, rfl, K5, hno⟩
      obtain ⟨p, u, v, as, bs, rfl, hp⟩ := N0 i x hx
      obtain ⟨hp1, nu, nv, la, lb, hcl⟩ := hp H5 K5
      refine ⟨p, _, rfl, SqT.of hp1, rfl, _, _, rfl, _, _, rfl, rfl, ?_⟩
      obtain ⟨ua, us, rfl, hua, hul, hu⟩ := nu
      obtain ⟨va, vs', rfl, hva, hvl, hv⟩ := nv
      refine ⟨_, rfl, ua, rfl, ⟨_, SqT.of hua⟩, fun D1 nD1 => ?_⟩
      refine lc_tup (K := K) (a := ua) (xs := us) (fun i H' => H' D1 = some (.lst ((as.take i).map V.str)) ∧ Keep [] H5 H') ⟨upd_same, Keep.new nD1⟩ ?_ ?_ ?_
      · rintro i H' _ ⟨_, k⟩
        exact SqT.of (k _ _ hua (by simp))
      · rintro i x H' hx ⟨hD, k⟩
        obtain ⟨p', r, n, rfl, hp', hn⟩ := hu i x hx
        have hi : i < as.length := (List.getElem?_eq_some_iff.mp hn).1
        refine ⟨rfl, yes_then ⟨_, rfl, _, _, _, _, rfl, rfl, SqT.of (k _ _ hp' (by simp)), atI_nat (j := 0) rfl, _, hD, by rw [List.length_map, List.length_take]; exact smallL (by omega), ?_, k.then_own nD1⟩⟩
        rw [upd_same, take_snoc hn, List.map_append]; rfl
      rintro H6 ⟨hD1, K6⟩
      rw [hul, List.take_length] at hD1
      refine ⟨_, rfl, va, rfl, ⟨_, SqT.of (K6 _ _ hva (by simp))⟩, fun D2 nD2 => ?_⟩
      refine lc_tup (K := K) (a := va) (xs := vs') (fun i H' => H' D2 = some (.lst (((bs.take i).map fun y => inV (V.str y) (as.map V.str)).map V.bl)) ∧ Keep [] H6 H') ⟨upd_same, Keep.new nD2⟩ ?_ ?_ ?_
      · rintro i H' _ ⟨_, k⟩
        exact SqT.of (k _ _ (K6 _ _ hva (by simp)) (by simp))
      · rintro i x H' hx ⟨hD, k⟩
        obtain ⟨p', r, n, rfl, hp', hn⟩ := hv i x hx
        have hi : i < bs.length := (List.getElem?_eq_some_iff.mp hn).1
        refine ⟨rfl, yes_then ⟨_, rfl, _, _, _, _, rfl, rfl, SqT.of (k _ _ (K6 _ _ hp' (by simp)) (by simp)), atI_nat (j := 0) rfl, _, rfl, D1, _, rfl, .inl (SqL.of (k _ _ hD1 (by simp))), rfl, strs_flat _, _, hD, by rw [List.length_map, List.length_map, List.length_take]; exact smallL (by omega), ?_, k.then_own nD2⟩⟩
        rw [upd_same, take_snoc hn, List.map_append, List.map_append]; rfl
      rintro H7 ⟨hD2, K7⟩
      rw [hvl, List.take_length] at hD2
      have K57 := K6.trans K7
      refine ⟨D2, _, rfl, SqL.of hD2, _, rfl, iteB (fun e => ?_) (fun e => ?_)⟩
      · exact ⟨_, rfl, fun d nd => k2 (cl hcl e) d _ (((K4.trans K5).trans K57).free nd) upd_same (((K4.trans K5).trans K57).then_new nd)⟩
      · refine ⟨_, _, _, rfl, K5.trans K57, fun j y hj hy => ?_⟩
        rcases Nat.lt_or_ge j i with z | z
        · exact hno j y z hy
        · have : j = i := by omega
          subst this
          rw [hcl] at hy
          cases hy
          exact e
    · rintro σ H5 ⟨o2, o3, o4, rfl, K5, hno⟩
      have hcl : clG os os2 vs vs2 rs rs2 = false := by
        unfold clG
        rw [hno 0 _ (by show 0 < 3; decide) rfl, hno 1 _ (by show 1 < 3; decide) rfl, hno 2 _ (by show 2 < 3; decide) rfl]; rfl
      have K45 := K4.trans K5
      have k1 := k1 hcl
      have h1' := K45 _ _ h1 (by simp)
      have h2' := K45 _ _ h2 (by simp)
      obtain ⟨xs, _, tx, hc⟩ := td_sq (K := K) (tc.tk K45.tk)
      obtain ⟨ys, _, ty, hc2⟩ := td_sq (K := K) (tc'.tk K45.tk)
      refine ⟨_, rfl, g, C_Game, dx, _, _, rfl, h1', T.cl_Game, T.a_Game_rounds, rfl, c, rfl, ⟨_, SqT.of hc⟩, fun D1 nD1 => ?_⟩
      refine lc_tup (K := K) (a := c) (xs := xs) (fun i H' => H' D1 = some (.lst (((rs.take i).map fun r => ((mvs r.2 : Nat) : Int)).map V.int)) ∧ Keep [] H5 H') ⟨upd_same, Keep.new nD1⟩ ?_ ?_ ?_
      · rintro i H' _ ⟨_, k⟩
        exact SqT.of (k _ _ hc (by simp))
      · rintro i x H' hx ⟨hD, k⟩
        obtain ⟨r, hr', hd⟩ := rounds_get tx hx
        obtain ⟨z, u, v, rfl, hz, d0, d1⟩ := td2 (hd.tk k.tk)
        cases td_str d0
        have hi : i < rs.length := (List.getElem?_eq_some_iff.mp hr').1
        have hm := mvR_le hr'
        refine ⟨z, _, rfl, SqT.of hz, rfl, _, _, rfl, _, _, rfl, rfl, rfl, yes_then ⟨_, rfl, _, r.2, rfl, d1, F1 _ (List.mem_of_getElem? hr'), by omega, fun q ys2 H2 nq hq eq K2 => ⟨_, _, rfl, .inl (SqL.of hq), _, K2 _ _ hD (by simp), by rw [List.length_map, List.length_map, List.length_take]; exact smallL (by omega), ?_, (k.trans K2).then_own nD1⟩⟩⟩
        rw [upd_same, take_snoc hr', List.map_append, List.map_append, eq]; rfl
      rintro H6 ⟨hD1, K6⟩
      have e : rs.take xs.length = rs := List.take_of_length_le (by have := tx.length; rw [List.length_map] at this; omega)
      rw [e] at hD1
      refine ⟨D1, _, rfl, SqL.of hD1, ?_⟩
      have es : (rs.map fun r => ((mvs r.2 : Nat) : Int)).sum = ((mvR rs : Nat) : Int) := mvR_sum rs
      rw [es]
      refine ⟨Nat.zero_le _, fun D2 nD2 => ?_⟩
      have K7 := K6.then_new (o := .lst []) nD2
      refine ⟨_, rfl, g', C_Game, dy, _, _, rfl, K7 _ _ h2' (by simp), T.cl_Game, T.a_Game_rounds, rfl, c', rfl, ⟨_, SqT.of (K7 _ _ hc2 (by simp))⟩, for_tup (K := K) (a := c') (xs := ys) (fun (i : Nat) (σ : List (Option V)) (H' : Hp) => ∃ (o7 o8 : Option V) (zs : List V), σ = [some (.ref g), some (.ref g'), o2, o3, o4, some (.int ((mvR rs : Nat) + (mvR (rs2.take i) : Nat) : Int)), some (.ref D2), o7, o8, none] ∧ H' D2 = some (.lst zs) ∧ TDs H' zs ((rnR (mvR rs : Nat) (rs2.take i)).map dR) ∧ Keep [] H5 H') ⟨none, none, [], by simp [mvR], upd_same, .nil, K7⟩ ?_ ?_ ?_⟩
      · rintro i σ H' _ ⟨o7, o8, zs, rfl, _, _, k⟩
        exact SqT.of (k _ _ hc2 (by simp))
      · rintro i x σ H' hx ⟨o7, o8, zs, rfl, hD, hz, k⟩
        obtain ⟨r, hr', hd⟩ := rounds_get ty hx
        obtain ⟨z, u, v, rfl, hzz, d0, d1⟩ := td2 (hd.tk k.tk)
        cases td_str d0
        have hi : i < rs2.length := (List.getElem?_eq_some_iff.mp hr').1
        have hm := mvR_le hr'
        have hF := F2 _ (List.mem_of_getElem? hr')
        have hzl : zs.length = i := by rw [hz.length, List.length_map, rnR_len, List.length_take]; omega
        have nD : H5 D2 = none := K6.free nD2
        refine ⟨z, _, rfl, SqT.of hzz, rfl, _, _, rfl, _, _, rfl, rfl, _, rfl, .inl ⟨rfl, _, SqL.of hD⟩, _, rfl, _, rfl, _, rfl, _, r.2, _, rfl, d1, hF, by omega, fun q H2 tq K2 => ⟨by show 2 ≤ sizeLine; decide, fun t nt => ?_⟩⟩
        have K3 := K2.then_new (o := .tup [.str r.1, q]) nt
        have hD3 := K3 _ _ hD (by simp)
        refine ⟨D2, _, _, rfl, rfl, hD3, by rw [hzl]; exact smallL (by omega), ?_⟩
        refine ⟨_, rfl, _, rfl, _, r.2, rfl, (d1.tk K3.tk).tk (TK.lst hD3), hF, by omega, fun q2 ys2 H4 nq hq eq K8 => ?_⟩
        refine ⟨_, _, rfl, .inl (SqL.of hq), _, _, rfl, rfl, ?_⟩
        rw [eq]
        refine ⟨some (.str r.1), some v, _, ?_, K8 _ _ upd_same (by simp), ?_, ((k.trans K3).then_own nD).trans K8⟩
        · rw [mvR_take hr', show ((mvR rs : Nat) : Int) + ((mvR (rs2.take i) + mvs r.2 : Nat) : Int) = (mvR rs : Nat) + (mvR (rs2.take i) : Nat) + (mvs r.2 : Nat) by omega]
          rfl
        · rw [rnR_take hr', List.map_append]
          exact ((hz.tk (K3.tk.trans (TK.lst hD3))).append (.cons ((TD.tup upd_same (.cons (.str _) (.cons (tq.tk (TK.new nt)) .nil))).tk (TK.lst hD3)) .nil)).tk K8.tk
      · rintro σ H7 ⟨o7, o8, zs, rfl, hD, hz, K8⟩
        have e : rs2.take ys.length = rs2 := List.take_of_length_le (by have := ty.length; rw [List.length_map] at this; omega)
        rw [e] at hz
        have hzl : zs.length = rs2.length := by rw [hz.length, List.length_map, rnR_len]
        have K9 := K45.trans K8
        have g1 := K9 _ _ h1 (by simp)
        have g2 := K9 _ _ h2 (by simp)
        refine ⟨_, rfl, g, C_Game, dx, _, _, rfl, g1, T.cl_Game, T.a_Game_options, rfl, _, rfl, g', C_Game, dy, _, _, rfl, g2, T.cl_Game, T.a_Game_options, rfl, cat_td (ta.tk K9.tk) (ta'.tk K9.tk) (by rw [List.length_map, List.length_map]; omega) fun u1 H8 tu1 K10 => ?_⟩
        have g1 := K10 _ _ g1 (by simp)
        have g2 := K10 _ _ g2 (by simp)
        refine ⟨_, rfl, g, C_Game, dx, _, _, rfl, g1, T.cl_Game, T.a_Game_variables, rfl, _, rfl, g', C_Game, dy, _, _, rfl, g2, T.cl_Game, T.a_Game_variables, rfl, cat_td ((tb.tk K9.tk).tk K10.tk) ((tb'.tk K9.tk).tk K10.tk) (by rw [List.length_map, List.length_map]; omega) fun u2 H9 tu2 K11 => ?_⟩
        have g1 := K11 _ _ g1 (by simp)
        have hD9 := K11 _ _ (K10 _ _ hD (by simp)) (by simp)
        refine ⟨_, rfl, g, C_Game, dx, _, _, rfl, g1, T.cl_Game, T.a_Game_rounds, rfl, _, rfl, D2, zs, rfl, .inl ⟨SqL.of hD9, fun t nt => ?_⟩⟩
        have K12 := Keep.new (W := []) (o := .tup zs) nt
        have KA := (K10.trans K11).trans K12
        refine cat_td ((tc.tk K9.tk).tk KA.tk) (.tup upd_same (hz.tk KA.tk)) (by rw [List.length_map, List.length_map, rnR_len]; omega) fun u3 H10 tu3 K13 => ?_
        have KB := (K11.trans K12).trans K13
        rw [← List.map_append] at tu1 tu2 tu3
        exact game_made (tu1.tk KB.tk) (tu2.tk (K12.trans K13).tk) tu3 fun r H' G K' => k1 r H' G (((K9.trans KA).trans K13).trans K')
end

/-- for at, x in enumerate(list) -/
theorem for_enum {K : PySem.W.Frag} {a : Addr} {xs : List V} {g : TG} {tb : TS} {D : Ends} {σ : St} {H : Hp} (Pv : Nat → St → Hp → Prop) (h0 : Pv 0 σ H) (hl : ∀ i σ H, i ≤ xs.length → Pv i σ H → SqL K H a xs)
    (hs : ∀ (i : Nat) x σ H T, xs[i]? = some x → Pv i σ H → H T = none → g (.ref T) σ (upd H T (.tup [.int (i : Nat), x])) fun σ2 H2 => tb { D with nx := Pv (i + 1), ct := Pv (i + 1), bk := D.nx } σ2 H2) (hd : ∀ σ H, Pv xs.length σ H → D.nx σ H) :
    ∃ W : Nat → Nat → St → Hp → Prop, (∃ m, W 0 m σ H) ∧ ∀ i m σ H, W i m σ H →
      ((Ite K a).stop i H ∧ D.nx σ H) ∨ ((Ite K a).go i H ∧ ∃ N : St → Hp → Prop, (∀ σ' H', N σ' H' → ∃ m', m' < m ∧ W (i + 1) m' σ' H') ∧ ∀ x H', (Ite K a).yld i H x H' → g x σ H' fun σ2 H2 => tb { D with nx := N, ct := N, bk := D.nx } σ2 H2) := by
  refine ⟨fun i m σ H => m = xs.length - i ∧ i ≤ xs.length ∧ Pv i σ H, ⟨xs.length, by simp, Nat.zero_le _, h0⟩, ?_⟩
  rintro i m σ H ⟨rfl, hi, p⟩
  have q := hl i σ H hi p
  by_cases hlt : i < xs.length
  · refine .inr ⟨⟨xs, xs[i], q, List.getElem?_eq_getElem hlt⟩, Pv (i + 1), fun σ' H' p' => ⟨xs.length - (i + 1), by omega, rfl, hlt, p'⟩, fun x H' y => ?_⟩
    obtain ⟨T, x', rfl, hT, rfl, hx⟩ := y
    exact hs i x' σ H T (hx xs q) p hT
  · have e : i = xs.length := by omega
    subst e
    exact .inl ⟨⟨xs, q, Nat.le_refl _⟩, hd σ H p⟩
/-- a raising def that does not raise here -/
theorem calNr {P : Program} {w : World} {K : PySem.W.Frag} {mg : Str → Option Value} {base : Heap} {k : Nat} {x : Str} {sp : Sp} {dvs : List V} (c : CalX P w K mg base k x sp dvs) : C8.Cal P w K mg base k x (fun vs H Q _ => sp vs H Q C8.E0) dvs := by
  obtain ⟨f, fd, ps, ds, F, r⟩ := c.ex
  refine ⟨f, fd, ps, ds, ⟨fun vs H Q E h => F.len _ _ _ _ h, fun A outer s H args us vs Q E hr e0 hb hv h => codeAny_mono (F.run A outer s H args us vs Q C8.E0 hr e0 hb hv h) fun r s' q => ?_⟩, r⟩
  cases r with
  | ok f => cases f <;> exact q
  | error e =>
    obtain ⟨_, _, _, _, _, _, _, _, _, _, _, _, z⟩ := q
    exact z.elim
/-- every name is an option's, none is there twice -/
theorem cutToS {xs : List Str} {k : Nat} (h : k ≤ xs.length) : cutV (xs.map V.str) none (some (k : Int)) = (xs.take k).map V.str := by
  unfold cutV
  rw [HT.sIx_nat, HT.sIx_none, List.length_map, Nat.min_eq_left h, List.map_take]
  show ((xs.map V.str).drop 0).take (k - 0) = _
  rw [List.drop_zero, Nat.sub_zero]
def okN (os : List (Str × Bool)) (ns : List Str) : Bool := (List.range ns.length).all fun i => match ns[i]? with
  | some n => inV (.str n) ((os.map Prod.fst).map V.str) && !inV (.str n) ((ns.take i).map V.str)
  | none => true
def swO (ns : List Str) (p : Str × Bool) : Str × Bool := (p.1, p.2 != inV (.str p.1) (ns.map V.str))
def sp_switched (C CB : Addr) : Sp := fun as H Q E => ∃ g os vs rs l ns, as = [.ref g, .ref l] ∧ GameAt C H g (List.map dO os) vs rs ∧ H l = some (.lst (List.map V.str ns)) ∧ os.length ≤ 100 ∧ ns.length ≤ 100 ∧
  (okN os ns = true → ∀ r H', GameAt C H' r ((os.map (swO ns)).map dO) vs rs → Keep [] H H' → Q (.ref r) H') ∧
  (okN os ns = false → ∀ d H', H d = none → H' d = some (.xd [(("what" : Str), .str "options")]) → Keep [] H H' → E (.ref CB) (some d) H')
theorem opts_get {rs : List (Str × Bool)} {i : Nat} {H : Hp} {xs : List V} {x : V} (t : TDs H xs (rs.map dO)) (hx : xs[i]? = some x) : ∃ r, rs[i]? = some r ∧ TD H x (dO r) := by
  have hl := t.length
  rw [List.length_map] at hl
  obtain ⟨h1, _⟩ := List.getElem?_eq_some_iff.mp hx
  have e : rs[i]? = some rs[i] := List.getElem?_eq_getElem (by omega)
  obtain ⟨v, hv, d⟩ := t.get (i := i) (d := dO (rs[i]'(by omega))) (by rw [List.getElem?_map, e]; rfl)
  rw [hx] at hv
  cases hv
  exact ⟨_, e, d⟩
section
variable {P : Program} {w : World} {K : PySem.W.Frag} {mg : Str → Option Value} {base : Heap} {C_Game : Addr} {C_GameError : Addr} {C_BadText : Addr} {C_BadMove : Addr} {C_BadEdit : Addr} {f_BadEdit___init : Addr}
theorem ok_switched {f : Addr} {fd : FuncData} (D : C8.Def K mg "switched" s_switched f fd) (b : Binds K fd ["game", "names"] []) (T : Txt K mg C_Game C_GameError C_BadText C_BadMove C_BadEdit) (X_BadEdit : SupX_BadEdit.Txt P K mg "BadEdit" C_BadEdit f_BadEdit___init) (c_Game : C8.Mak P w K mg base 1 "Game" C_Game (sp_game C_Game) []) : CalX P w K mg base 3 "switched" (sp_switched C_Game C_BadEdit) [] := by
  refine CalX.of D (fnx D.fn sc_switched (fun vs H Q E h => ?_) (fun cdv A outer s H vs Q E hr h => ?_)) b .nil
  · obtain ⟨g, os, vs, rs, l, ns, rfl, _⟩ := h
    rfl
  · obtain ⟨g, os, vs, rs, l, ns, rfl, G, hl, l1, l2, k1, k2⟩ := h
    refine ⟨_, (pss_cons (ps_setLc (i := 2) (own := [("name", 4), ("on", 5)]) (g := (gTup K 2 (gCons (gName 4) (gCons (gName 5) gNil)))) (tt := tYes) rfl sc_switched.nd rfl rfl (sw_true rfl rfl rfl (by decide +kernel)) (pi_tup (pe_fld (pv 0) rfl)) (blkOk_by (N := ["game", "names", "known", "at", "name", "on"]) (sc := fnScope s_switched) (by decide +kernel)) (fun _ _ _ _ _ => pg_tupK (K := K) (n := 2) (t := (gCons (gName 4) (gCons (gName 5) gNil))) (pgs_cons (pg_name (i := 4) sc_switched.nd rfl (Or.inl rfl)) (pgs_cons (pg_name (i := 5) sc_switched.nd rfl (Or.inl rfl)) pgs_nil))) (fun _ _ _ _ _ => pts_nil) (fun _ _ _ _ _ => (pv 4)))
(pss_cons (ps_for (passes_of rfl) rfl (pi_enum (by rfl) T.n_enumerate (pa_cons (pv 1) pa_nil)) (pg_tup (by rfl) (pgs_cons (pg_name (i := 3) sc_switched.nd rfl (by first | exact Or.inl rfl | exact Or.inr rfl)) (pgs_cons (pg_name (i := 4) sc_switched.nd rfl (by first | exact Or.inl rfl | exact Or.inr rfl)) pgs_nil)))
  (pss_one (ps_if (PW.pt (pw_or (pt_cmpR op_notIn_seq (pv 4) (pv 2) (by rfl)) (pw_or1 (pt_cmpR op_in_seq (pv 4) (pe_slice sl_list (pv 1) po_none (po_some (pv 3))) (by rfl)))))
    (pss_one (SupX_BadEdit.ps_raiseE rfl X_BadEdit hr (takes_of rfl rfl rfl rfl) (pa_cons pe_str pa_nil)))
    pss_nil)))
(pss_one (ps_ret (pe_mk c_Game hr (by first | exact Nat.le_refl _ | decide | omega) rfl (pa_cons (pe_callTy call_tuple_of (by rfl) T.n_tuple bo_tuple (pa_cons (pe_lc (own := [("name", 4), ("on", 5)]) (g := (gTup K 2 (gCons (gName 4) (gCons (gName 5) gNil)))) (tt := tYes) rfl sc_switched.nd (pi_tup (pe_fld (pv 0) rfl)) (blkOk_by (N := ["game", "names", "known", "at", "name", "on"]) (sc := fnScope s_switched) (by decide +kernel)) (fun _ _ _ _ _ => pg_tupK (K := K) (n := 2) (t := (gCons (gName 4) (gCons (gName 5) gNil))) (pgs_cons (pg_name (i := 4) sc_switched.nd rfl (Or.inl rfl)) (pgs_cons (pg_name (i := 5) sc_switched.nd rfl (Or.inl rfl)) pgs_nil))) (fun _ _ _ _ _ => pts_nil) (fun _ _ _ _ _ => (pe_tup (pa_cons (pv 4) (pa_cons (pe_cmpR op_ne (pv 5) (pe_cmpR (op_in_seqK (K := K)) (pv 4) (pv 1) (by rfl)) (nomark _)) pa_nil))))) pa_nil)) (pa_cons (pe_fld (pv 0) rfl) (pa_cons (pe_fld (pv 0) rfl) pa_nil)))))))), ?_⟩
    obtain ⟨dx, a, b, c, h1, ta, tb, tc⟩ := G.ex
    obtain ⟨xs, _, tx, ha⟩ := td_sq (K := K) ta
    have hxl : xs.length = os.length := by have := tx.length; rw [List.length_map] at this; exact this
    refine ⟨_, rfl, g, C_Game, dx, _, _, rfl, h1, T.cl_Game, T.a_Game_options, rfl, a, rfl, ⟨_, SqT.of ha⟩, fun D1 nD1 => ?_⟩
    refine lc_tup (K := K) (a := a) (xs := xs) (fun i H' => H' D1 = some (.lst (((os.take i).map Prod.fst).map V.str)) ∧ Keep [] H H') ⟨upd_same, Keep.new nD1⟩ ?_ ?_ ?_
    · rintro i H' _ ⟨_, k⟩
      exact SqT.of (k _ _ ha (by simp))
    · rintro i x H' hx ⟨hD, k⟩
      obtain ⟨r, hr', hd⟩ := opts_get tx hx
      obtain ⟨z, u, v, rfl, hz, d0, d1⟩ := td2 (hd.tk k.tk)
      cases td_str d0
      have hi : i < os.length := (List.getElem?_eq_some_iff.mp hr').1
      refine ⟨z, _, rfl, SqT.of hz, rfl, _, _, rfl, _, _, rfl, rfl, rfl, yes_then ⟨_, rfl, _, hD, by rw [List.length_map, List.length_map, List.length_take]; exact smallL (by omega), ?_, k.then_own nD1⟩⟩
      rw [upd_same, take_snoc hr', List.map_append, List.map_append]; rfl
    rintro H1 ⟨hD1, K1⟩
    rw [hxl, List.take_length] at hD1
    have hl1 := K1 _ _ hl (by simp)
    have h1' := K1 _ _ h1 (by simp)
    refine ⟨_, rfl, l, _, rfl, SqL.of hl1, for_enum (K := K) (a := l) (xs := ns.map V.str) (fun (i : Nat) (σ : List (Option V)) (H' : Hp) => ∃ (o3 o4 : Option V), σ = [some (.ref g), some (.ref l), some (.ref D1), o3, o4, none] ∧ Keep [] H1 H' ∧ ∀ (j : Nat) n, j < i → ns[j]? = some n → (inV (.str n) ((os.map Prod.fst).map V.str) && !inV (.str n) ((ns.take j).map V.str)) = true) ⟨none, none, rfl, Keep.refl _ _, fun j n h => absurd h (Nat.not_lt_zero _)⟩ ?_ ?_ ?_⟩
    · rintro i σ H' _ ⟨o3, o4, rfl, k, _⟩
      exact SqL.of (k _ _ hl1 (by simp))
    · rintro i x σ H' t hx ⟨o3, o4, rfl, k, hno⟩ nt
      obtain ⟨n, hn, rfl⟩ := strs_get hx
      have hi : i < ns.length := (List.getElem?_eq_some_iff.mp hn).1
      have k2' := k.then_new (o := .tup [.int (i : Nat), .str n]) nt
      refine ⟨t, _, rfl, SqT.of upd_same, rfl, _, _, rfl, _, _, rfl, rfl, _, rfl, _, rfl, D1, _, rfl, .inl (SqL.of (k2' _ _ hD1 (by simp))), rfl, strs_flat _, _, rfl, iteB (fun e => ?_) (fun e => ?_)⟩
      · have e : (!inV (.str n) ((os.map Prod.fst).map V.str)) = true := e
        have bad : okN os ns = false := by
          rw [Bool.eq_false_iff]
          intro h
          have h := List.all_eq_true.mp h i (List.mem_range.mpr hi)
          rw [hn] at h
          simp only [Bool.and_eq_true] at h
          rw [h.1] at e; cases e
        have kk := K1.trans k2'
        exact ⟨_, rfl, fun d nd => k2 bad d _ (kk.free nd) upd_same (kk.then_new nd)⟩
      · have e : (!inV (.str n) ((os.map Prod.fst).map V.str)) = false := e
        refine ⟨_, rfl, _, rfl, _, rfl, _, rfl, l, _, rfl, SqL.of (k2' _ _ hl1 (by simp)), fun p np => ?_⟩
        rw [cutToS (Nat.le_of_lt hi)]
        have k3 := k2'.then_new (o := .lst ((ns.take i).map V.str)) np
        refine ⟨p, _, rfl, .inl (SqL.of upd_same), rfl, strs_flat _, _, rfl, iteB (fun e2 => ?_) (fun e2 => ?_)⟩
        · have e2 : inV (.str n) ((ns.take i).map V.str) = true := e2
          have bad : okN os ns = false := by
            rw [Bool.eq_false_iff]
            intro h
            have h := List.all_eq_true.mp h i (List.mem_range.mpr hi)
            rw [hn] at h
            simp only [Bool.and_eq_true] at h
            rw [e2] at h
            cases h.2
          have kk := K1.trans k3
          exact ⟨_, rfl, fun d nd => k2 bad d _ (kk.free nd) upd_same (kk.then_new nd)⟩
        · have e2 : inV (.str n) ((ns.take i).map V.str) = false := e2
          refine ⟨_, _, rfl, k3, fun j n' hj hn' => ?_⟩
          rcases Nat.lt_or_ge j i with z | z
          · exact hno j n' z hn'
          · have : j = i := by omega
            subst this
            rw [hn] at hn'
            cases hn'
            rw [e2]
            rw [Bool.not_eq_false'] at e
            rw [e]; rfl
    · rintro σ H2 ⟨o3, o4, rfl, k, hno⟩
      have good : okN os ns = true := by
        refine List.all_eq_true.mpr fun i hi => ?_
        have hi := List.mem_range.mp hi
        have e : ns[i]? = some ns[i] := List.getElem?_eq_getElem hi
        rw [e]
        exact hno i _ (by rw [List.length_map]; exact hi) e
      have KK := K1.trans k
      have h2 := KK _ _ h1 (by simp)
      have ha2 := KK _ _ ha (by simp)
      have hl2 := KK _ _ hl (by simp)
      refine ⟨_, rfl, g, C_Game, dx, _, _, rfl, h2, T.cl_Game, T.a_Game_options, rfl, a, rfl, ⟨_, SqT.of ha2⟩, fun D2 nD2 => ?_⟩
      refine lc_tup (K := K) (a := a) (xs := xs) (fun i H' => (∃ ys, H' D2 = some (.lst ys) ∧ TDs H' ys (((os.take i).map (swO ns)).map dO)) ∧ Keep [] H2 H') ⟨⟨[], upd_same, .nil⟩, Keep.new nD2⟩ ?_ ?_ ?_
      · rintro i H' _ ⟨_, k⟩
        exact SqT.of (k _ _ ha2 (by simp))
      · rintro i x H' hx ⟨⟨ys, hD, hy⟩, k⟩
        obtain ⟨r, hr', hd⟩ := opts_get tx hx
        obtain ⟨z, u, v, rfl, hz, d0, d1⟩ := td2 (hd.tk (KK.trans k).tk)
        cases td_str d0
        cases td_bl d1
        have hi : i < os.length := (List.getElem?_eq_some_iff.mp hr').1
        have hyl : ys.length = i := by rw [hy.length, List.length_map, List.length_map, List.length_take]; omega
        refine ⟨z, _, rfl, SqT.of hz, rfl, _, _, rfl, _, _, rfl, rfl, rfl, yes_then ⟨_, rfl, _, rfl, _, rfl, _, rfl, l, _, rfl, .inl (SqL.of (k _ _ hl2 (by simp))), rfl, strs_flat _, rfl, by show 2 ≤ sizeLine; decide, fun t nt => ?_⟩⟩
        have hD3 : upd H' t (.tup [.str r.1, .bl (!decide (V.bl r.2 = V.bl (inV (.str r.1) (ns.map V.str))))]) D2 = some (.lst ys) := by rw [upd_ne (ne_of_none hD nt)]; exact hD
        refine ⟨_, hD3, by rw [hyl]; exact smallL (by omega), ⟨_, upd_same, ?_⟩, (k.then_new nt).then_own nD2⟩
        rw [take_snoc hr', List.map_append, List.map_append]
        refine ((hy.tk (TK.new nt)).tk (TK.lst hD3)).append (.cons (TD.tk (TK.lst hD3) (.tup upd_same (.cons (.str _) (.cons ?_ .nil)))) .nil)
        have eb : (!decide (V.bl r.2 = V.bl (inV (.str r.1) (ns.map V.str)))) = (r.2 != inV (.str r.1) (ns.map V.str)) := by
          cases r.2 <;> cases inV (.str r.1) (ns.map V.str) <;> rfl
        rw [eb]
        exact .bl _
      · rintro H3 ⟨⟨ys, hD, hy⟩, k3⟩
        rw [hxl, List.take_length] at hy
        refine ⟨D2, ys, rfl, .inl ⟨SqL.of hD, fun t nt => ?_⟩⟩
        have k4 := k3.then_new (o := .tup ys) nt
        have h3 := k4 _ _ h2 (by simp)
        have k5 := KK.trans k4
        exact ⟨_, rfl, g, C_Game, dx, _, _, rfl, h3, T.cl_Game, T.a_Game_variables, rfl, _, rfl, g, C_Game, dx, _, _, rfl, h3, T.cl_Game, T.a_Game_rounds, rfl, game_made (.tup upd_same (hy.tk (TK.new nt))) (tb.tk k5.tk) (tc.tk k5.tk) fun r H' G K' => k1 good r H' G (k5.trans K')⟩
end

def sp_cell (K : PySem.W.Frag) : Sp := fun vs H Q _ => ∃ (a : Addr) (ns : List Int) (k : Nat), vs = [.ref a, .int k] ∧ SqL K H a (ns.map V.int) ∧ Q (.int (ns.getD k 0)) H
def sp_row : Sp := fun vs H Q _ => ∃ (c : Int) (n s : Nat), vs = [.int c, .int n, .int s] ∧ n ≤ 1000 ∧ 0 < s ∧ s ≤ 1000000 ∧ ∀ l (zs : List Int) H', H l = none → H' l = some (.lst (zs.map V.int)) → zs.length = n → (∀ z ∈ zs, 0 ≤ z ∧ z < s) → Keep [] H H' → Q (.ref l) H'
/-- a stage: who, how many, who is shown it -/
abbrev Stg := Int × Int × Int
def dS (s : Stg) : PyData := .tuple [.int s.1, .int s.2.1, .int s.2.2]
def prodS (l : List Stg) : Int := (l.map fun s => s.2.1).prod
structure GoodS (l : List Stg) : Prop where
  ok : ∀ s ∈ l, 0 ≤ s.1 ∧ s.1 ≤ 2 ∧ 1 ≤ s.2.1 ∧ 0 ≤ s.2.2 ∧ s.2.2 ≤ 3
  pr : prodS l ≤ 6
theorem prodS_snoc (l : List Stg) (s : Stg) : prodS (l ++ [s]) = prodS l * s.2.1 := by simp [prodS, List.prod_append]
theorem prodS_pos : ∀ {l : List Stg}, (∀ s ∈ l, 0 ≤ s.1 ∧ s.1 ≤ 2 ∧ 1 ≤ s.2.1 ∧ 0 ≤ s.2.2 ∧ s.2.2 ≤ 3) → 1 ≤ prodS l
  | [], _ => by simp [prodS]
  | s :: l, h => by
    have h1 := (h s (List.mem_cons_self ..)).2.2.1
    have h2 := prodS_pos (l := l) fun q hq => h q (List.mem_cons_of_mem _ hq)
    have e : prodS (s :: l) = s.2.1 * prodS l := by simp [prodS]
    rw [e]
    exact Int.mul_le_mul h1 h2 (by omega) (by omega)
theorem GoodS.take {l : List Stg} (h : GoodS l) (n : Nat) : GoodS (l.take n) := by
  refine ⟨fun s hs => h.ok s (List.mem_of_mem_take hs), ?_⟩
  have h1 := prodS_pos (l := l.drop n) fun s hs => h.ok s (List.mem_of_mem_drop hs)
  have h2 := prodS_pos (l := l.take n) fun s hs => h.ok s (List.mem_of_mem_take hs)
  have e : prodS (l.take n) * prodS (l.drop n) = prodS l := by
    unfold prodS
    rw [← List.prod_append, ← List.map_append, List.take_append_drop]
  have h3 := h.pr
  rw [← e] at h3
  have : prodS (l.take n) * 1 ≤ prodS (l.take n) * prodS (l.drop n) := Int.mul_le_mul_of_nonneg_left h1 (by omega)
  omega
def sp_stages (K : PySem.W.Frag) : Sp := fun vs H Q _ => ∃ (a : Addr) (ns : List Int), vs = [.ref a, .int 6] ∧ SqL K H a (ns.map V.int) ∧ ∀ l xs sts H', H l = none → H' l = some (.lst xs) → TDs H' xs (sts.map dS) → GoodS sts → sts.length ≤ 4 → Keep [] H H' → Q (.ref l) H'
section
variable {P : Program} {w : World} {K : PySem.W.Frag} {mg : Str → Option Value} {base : Heap} {C_Game : Addr} {C_GameError : Addr} {C_BadText : Addr} {C_BadMove : Addr} {C_BadEdit : Addr} {f_BadEdit___init : Addr}
theorem ok_cell {f : Addr} {fd : FuncData} (D : C8.Def K mg "_law_cell" s_law_cell f fd) (b : Binds K fd ["script", "k"] []) (T : Txt K mg C_Game C_GameError C_BadText C_BadMove C_BadEdit) : C8.Cal P w K mg base 1 "_law_cell" (sp_cell K) [] := by
  refine cal0 D b .nil sc_law_cell (fun vs H Q E h => ?_) (fun cdv A outer s H vs Q E hr h => ?_)
  · obtain ⟨a, ns, k, rfl, _⟩ := h
    rfl
  · obtain ⟨a, ns, k, rfl, hS, g⟩ := h
    refine ⟨_, (pss_cons (ps_if (pt_cmpR op_lt (pv 1) (pe_callB call_len_seq (by rfl) T.n_len bo_len (pa_cons (pv 0) pa_nil)) (nomark _))
  (pss_one (ps_ret (pe_ix ix_list (pv 0) (pv 1) (fun _ _ => rfl))))
  pss_nil)
(pss_one (ps_ret pe_int))), ?_⟩
    refine ⟨_, rfl, _, rfl, _, _, rfl, .inl hS, _, _, rfl, rfl, _, rfl, iteD (fun h => ?_) (fun h => ?_)⟩
    all_goals rw [List.length_map] at h
    rotate_left
    · have e : ns.getD k 0 = 0 := by rw [List.getD_eq_getElem?_getD, List.getElem?_eq_none (by omega)]; rfl
      rw [e] at g; exact g
    have hk : k < ns.length := by omega
    have e : ns.getD k 0 = ns[k] := by rw [List.getD_eq_getElem?_getD, List.getElem?_eq_getElem hk]; rfl
    rw [e] at g
    exact ⟨_, rfl, _, rfl, _, _, _, _, rfl, rfl, hS, atI_nat (by rw [List.getElem?_map, List.getElem?_eq_getElem hk]; rfl), g⟩
theorem ok_row {f : Addr} {fd : FuncData} (D : C8.Def K mg "_law_row" s_law_row f fd) (b : Binds K fd ["cell", "count", "size"] []) (T : Txt K mg C_Game C_GameError C_BadText C_BadMove C_BadEdit) : C8.Cal P w K mg base 1 "_law_row" sp_row [] := by
  refine cal0 D b .nil sc_law_row (fun vs H Q E h => ?_) (fun cdv A outer s H vs Q E hr h => ?_)
  · obtain ⟨c, n, s, rfl, _⟩ := h
    rfl
  · obtain ⟨c, n, sz, rfl, hn, hs, hs2, k⟩ := h
    refine ⟨_, (pss_cons (ps_set (i := 3) sc_law_row.nd rfl (by first | exact Or.inl rfl | exact Or.inr rfl) (pv 0))
(pss_cons (ps_set (i := 4) sc_law_row.nd rfl (by first | exact Or.inl rfl | exact Or.inr rfl) (pe_lst pa_nil))
(pss_cons (ps_for PassesOwn.never rfl (pi_range1 (by rfl) T.n_range (pa_cons (pv 1) pa_nil)) (pg_name (i := 5) sc_law_row.nd rfl (by first | exact Or.inl rfl | exact Or.inr rfl))
  (pss_one (ps_if (pt_cmpR op_ge (pv 0) (pe_op op_pow pe_int pe_int) (nomark _))
    (pss_cons (ps_expr (pe_bm PySem.F.plainAttrs_list PySem.F.slot_list_append PySem.F.type_list_append mt_append (pv 4) (pa_cons (pe_op op_mod (pe_callTy call_int1 (by rfl) T.n_int bo_int (pa_cons (pv 3) pa_nil)) (pv 2)) pa_nil)))
    (pss_one (ps_set (i := 3) sc_law_row.nd rfl (by first | exact Or.inl rfl | exact Or.inr rfl) (pe_op op_fdiv (pv 3) (pv 2)))))
    (pss_cons (ps_set (i := 3) sc_law_row.nd rfl (by first | exact Or.inl rfl | exact Or.inr rfl) (pe_op op_mod (pe_callTy call_int1 (by rfl) T.n_int bo_int (pa_cons (pe_op op_add (pe_op op_mul (pv 3) pe_int) pe_int) pa_nil)) pe_int))
    (pss_one (ps_expr (pe_bm PySem.F.plainAttrs_list PySem.F.slot_list_append PySem.F.type_list_append mt_append (pv 4) (pa_cons (pe_op op_mod (pe_op op_mod (pe_callTy call_int1 (by rfl) T.n_int bo_int (pa_cons (pe_op op_add (pe_op op_mul (pv 3) pe_int) (pe_op op_mul (pv 5) pe_int)) pa_nil)) pe_int) (pv 2)) pa_nil))))))))
(pss_one (ps_ret (pv 4)))))), ?_⟩
    refine ⟨_, rfl, Nat.zero_le _, fun D nD => ?_⟩
    have K0 := Keep.new (W := []) (o := .lst []) nD
    refine ⟨_, rfl, _, rfl, by omega, by omega, for_range (lo := 0) (n := ((n : Nat) : Int).toNat) (fun (i : Nat) (σ : List (Option V)) (H' : Hp) => ∃ (st : Int) (zs : List Int) (o5 : Option V), σ = [some (.int c), some (.int n), some (.int sz), some (.int st), some (.ref D), o5] ∧ H' D = some (.lst (zs.map V.int)) ∧ zs.length = i ∧ (∀ z ∈ zs, 0 ≤ z ∧ z < sz) ∧ Keep [] H H') ⟨c, [], none, rfl, upd_same, rfl, (by simp), K0⟩ ?_ ?_⟩
    · rintro i σ H' hi ⟨st, zs, o5, rfl, hD, hl, hz, K1⟩
      rw [Int.toNat_natCast] at hi
      have lm : (zs.map V.int).length < sizeLine := by rw [List.length_map, hl]; exact smallL (by omega)
      have sn : ∀ z : Int, (∀ y ∈ zs ++ [z % sz], 0 ≤ y ∧ y < sz) := fun z y hy => by
        rcases List.mem_append.mp hy with hy | hy
        · exact hz y hy
        · rw [List.mem_singleton.mp hy]
          exact ⟨Int.emod_nonneg _ (by omega), Int.emod_lt_of_pos _ (by omega)⟩
      refine ⟨_, rfl, _, _, rfl, rfl, ⟨by decide, by decide, by decide⟩, _, _, rfl, rfl, _, rfl, iteD (fun _ => ?_) (fun _ => ?_)⟩
      · refine ⟨_, rfl, .inl ⟨rfl, _, SqL.of hD⟩, _, rfl, .inl ⟨_, rfl, _, rfl, _, _, rfl, rfl, by show (0 : Int) < sz; omega, D, _, _, rfl, rfl, hD, lm, ?_⟩⟩
        refine ⟨_, rfl, _, rfl, _, _, rfl, rfl, ⟨by omega, by omega⟩, ?_⟩
        exact ⟨_, zs ++ [st % sz], _, rfl, by rw [List.map_append]; exact upd_same, by rw [List.length_append, hl]; rfl, sn st, K1.then_own nD⟩
      · refine ⟨_, rfl, _, _, rfl, rfl, .inr ⟨by decide, by decide⟩, _, _, rfl, rfl, .inl ⟨_, rfl, _, _, rfl, rfl, by show (0 : Int) < 2147483647; decide, ?_⟩⟩
        refine ⟨_, rfl, .inl ⟨rfl, _, SqL.of hD⟩, _, rfl, _, _, rfl, rfl, .inr ⟨by decide, by decide⟩, _, rfl, _, _, rfl, rfl, .inr ⟨by decide, by decide⟩, _, _, rfl, rfl, .inl ⟨_, rfl, _, _, rfl, rfl, by show (0 : Int) < 2147483647; decide, _, rfl, _, _, rfl, rfl, by show (0 : Int) < sz; omega, D, _, _, rfl, rfl, hD, lm, ?_⟩⟩
        exact ⟨_, zs ++ [((((st * 48271 + 12345) % 2147483647) * 69621 + (0 + (i : Int)) * 7919) % 2147483647) % (sz : Int)], _, rfl, by rw [List.map_append]; exact upd_same, by rw [List.length_append, hl]; rfl, sn _, K1.then_own nD⟩
    · rintro σ H' ⟨st, zs, o5, rfl, hD, hl, hz, K1⟩
      rw [Int.toNat_natCast] at hl
      exact ⟨_, rfl, k D zs H' nD hD hl hz K1⟩
theorem ok_stages {f : Addr} {fd : FuncData} (D : C8.Def K mg "_law_stages" s_law_stages f fd) (b : Binds K fd ["script", "most"] []) (T : Txt K mg C_Game C_GameError C_BadText C_BadMove C_BadEdit) (c_law_cell : C8.Cal P w K mg base 1 "_law_cell" (sp_cell K) []) (c_law_row : C8.Cal P w K mg base 1 "_law_row" sp_row []) : C8.Cal P w K mg base 2 "_law_stages" (sp_stages K) [] := by
  refine cal0 D b .nil sc_law_stages (fun vs H Q E h => ?_) (fun cdv A outer s H vs Q E hr h => ?_)
  · obtain ⟨a, ns, rfl, _⟩ := h
    rfl
  · obtain ⟨a, ns, rfl, hS, k⟩ := h
    refine ⟨_, (pss_cons (ps_set (i := 2) sc_law_stages.nd rfl (by first | exact Or.inl rfl | exact Or.inr rfl) (pe_lst pa_nil))
(pss_cons (ps_set (i := 3) sc_law_stages.nd rfl (by first | exact Or.inl rfl | exact Or.inr rfl) pe_int)
(pss_cons (ps_set (i := 4) sc_law_stages.nd rfl (by first | exact Or.inl rfl | exact Or.inr rfl) (pe_c c_law_row hr (by first | exact Nat.le_refl _ | decide | omega) rfl (pa_cons (pe_c c_law_cell hr (by first | exact Nat.le_refl _ | decide | omega) rfl (pa_cons (pv 0) (pa_cons pe_int pa_nil))) (pa_cons pe_int (pa_cons pe_int pa_nil)))))
(pss_cons (ps_for PassesOwn.never rfl (pi_range1 (by rfl) T.n_range (pa_cons (pe_op op_mod (pe_callTy call_int1 (by rfl) T.n_int bo_int (pa_cons (pe_ix ix_list (pv 4) pe_int (fun _ _ => rfl)) pa_nil)) pe_int) pa_nil)) (pg_name (i := 5) sc_law_stages.nd rfl (by first | exact Or.inl rfl | exact Or.inr rfl))
  (pss_cons (ps_set (i := 6) sc_law_stages.nd rfl (by first | exact Or.inl rfl | exact Or.inr rfl) (pe_op op_add pe_int (pe_op op_mod (pe_callTy call_int1 (by rfl) T.n_int bo_int (pa_cons (pe_ix ix_list (pv 4) (pe_op op_add (pe_op op_mul pe_int (pv 5)) pe_int) (fun _ _ => rfl)) pa_nil)) pe_int)))
  (pss_cons (ps_if (pt_cmpR op_gt (pe_op op_mul (pv 3) (pv 6)) (pv 1) (nomark _))
    (pss_one (ps_set (i := 6) sc_law_stages.nd rfl (by first | exact Or.inl rfl | exact Or.inr rfl) pe_int))
    pss_nil)
  (pss_cons (ps_set (i := 3) sc_law_stages.nd rfl (by first | exact Or.inl rfl | exact Or.inr rfl) (pe_op op_mul (pv 3) (pv 6)))
  (pss_cons (ps_set (i := 7) sc_law_stages.nd rfl (by first | exact Or.inl rfl | exact Or.inr rfl) (pe_ix ix_tup (pe_tup (pa_cons pe_int (pa_cons pe_int (pa_cons pe_int (pa_cons pe_int (pa_cons pe_int pa_nil)))))) (pe_op op_mod (pe_callTy call_int1 (by rfl) T.n_int bo_int (pa_cons (pe_ix ix_list (pv 4) (pe_op op_add (pe_op op_mul pe_int (pv 5)) pe_int) (fun _ _ => rfl)) pa_nil)) pe_int) (fun _ _ => rfl)))
  (pss_one (ps_expr (pe_bm PySem.F.plainAttrs_list PySem.F.slot_list_append PySem.F.type_list_append mt_append (pv 2) (pa_cons (pe_tup (pa_cons (pe_op op_mod (pe_callTy call_int1 (by rfl) T.n_int bo_int (pa_cons (pe_ix ix_list (pv 4) (pe_op op_add (pe_op op_mul pe_int (pv 5)) pe_int) (fun _ _ => rfl)) pa_nil)) pe_int) (pa_cons (pv 6) (pa_cons (pv 7) pa_nil)))) pa_nil)))))))))
(pss_one (ps_ret (pv 2))))))), ?_⟩
    refine ⟨Nat.zero_le _, fun D nD => ?_⟩
    have K0 := Keep.new (W := []) (o := .lst []) nD
    refine ⟨_, rfl, a, ns, 0, rfl, K0.seqL hS (by simp), _, 20, 60, rfl, by decide, by decide, by decide, fun L ds H1 nL hL dl dz K1 => ?_⟩
    have hD1 := K1 _ _ (upd_same (H := H) (a := D) (o := .lst [])) (by simp)
    have hLD : L ≠ D := fun z => by rw [z, upd_same] at nL; cases nL
    have dig : ∀ j : Nat, j < 20 → ∃ z : Int, atI (ds.map V.int) (j : Int) = some (.int z) ∧ 0 ≤ z ∧ z < 60 := fun j hj => by
      have h : j < ds.length := by omega
      exact ⟨ds[j], atI_nat (by rw [List.getElem?_map, List.getElem?_eq_getElem h]; rfl), dz _ (List.getElem_mem h)⟩
    obtain ⟨z0, e0, g0, g1⟩ := dig 0 (by decide)
    refine ⟨_, rfl, _, _, _, _, rfl, rfl, SqL.of hL, e0, .inl ⟨_, rfl, _, _, rfl, rfl, by show (0 : Int) < 5; decide, ?_⟩⟩
    refine ⟨_, rfl, by omega, by omega, for_range (lo := 0) (n := (z0 % 5).toNat) (fun (i : Nat) (σ : List (Option V)) (H' : Hp) => ∃ (sts : List Stg) (xs : List V) (o5 o6 o7 : Option V), σ = [some (.ref a), some (.int 6), some (.ref D), some (.int (prodS sts)), some (.ref L), o5, o6, o7] ∧ H' D = some (.lst xs) ∧ TDs H' xs (sts.map dS) ∧ GoodS sts ∧ sts.length = i ∧ H' L = some (.lst (ds.map V.int)) ∧ Keep [] H H') ⟨[], [], none, none, none, rfl, hD1, .nil, ⟨by simp, by decide⟩, rfl, hL, K0.trans K1⟩ ?_ ?_⟩
    · rintro i σ H' hi ⟨sts, xs, o5, o6, o7, rfl, hD, hx, hG, hl, hL2, K3⟩
      have e00 : (0 : Int) + (i : Int) = (i : Int) := by omega
      rw [e00]
      have hi4 : i < 4 := by omega
      obtain ⟨z1, e1, a1, b1⟩ := dig (4 * i + 1) (by omega)
      obtain ⟨z2, e2, a2, b2⟩ := dig (4 * i + 2) (by omega)
      obtain ⟨z3, e3, a3, b3⟩ := dig (4 * i + 3) (by omega)
      push_cast at e1 e2 e3
      have hp := prodS_pos hG.ok
      have hp6 := hG.pr
      have lm : xs.length < sizeLine := by rw [hx.length, List.length_map, hl]; exact smallL (by omega)
      have hq1 : 0 ≤ z1 % 3 := by omega
      have hq2 : z1 % 3 ≤ 2 := by omega
      have hat : ∃ sh : Int, atI [V.int 0, V.int 0, V.int 1, V.int 2, V.int 3] (z2 % 5) = some (.int sh) ∧ 0 ≤ sh ∧ sh ≤ 3 := by
        have h5 : z2 % 5 = 0 ∨ z2 % 5 = 1 ∨ z2 % 5 = 2 ∨ z2 % 5 = 3 ∨ z2 % 5 = 4 := by omega
        rcases h5 with h | h | h | h | h <;> rw [h]
        · exact ⟨0, rfl, by decide, by decide⟩
        · exact ⟨0, rfl, by decide, by decide⟩
        · exact ⟨1, rfl, by decide, by decide⟩
        · exact ⟨2, rfl, by decide, by decide⟩
        · exact ⟨3, rfl, by decide, by decide⟩
      obtain ⟨sh, hsh, s0, s3⟩ := hat
      have fin : ∀ {H2 : Hp} {size : Int} {t : Addr}, 1 ≤ size → prodS sts * size ≤ 6 → H2 D = some (.lst xs) → TDs H2 xs (sts.map dS) → TD H2 (.ref t) (dS (z3 % 3, size, sh)) → H2 L = some (.lst (ds.map V.int)) → Keep [] H H2 →
          ∃ (sts' : List Stg) (xs' : List V) (o5 o6 o7 : Option V), [some (.ref a), some (.int 6), some (.ref D), some (.int (prodS sts * size)), some (.ref L), some (.int i), some (.int size), some (.int sh)] = [some (.ref a), some (.int 6), some (.ref D), some (.int (prodS sts')), some (.ref L), o5, o6, o7] ∧ upd H2 D (.lst (xs ++ [.ref t])) D = some (.lst xs') ∧ TDs (upd H2 D (.lst (xs ++ [.ref t]))) xs' (sts'.map dS) ∧ GoodS sts' ∧ sts'.length = i + 1 ∧ upd H2 D (.lst (xs ++ [.ref t])) L = some (.lst (ds.map V.int)) ∧ Keep [] H (upd H2 D (.lst (xs ++ [.ref t]))) := by
        intro H2 size t q1 q2 q3 q4 q5 q6 q7
        refine ⟨sts ++ [(z3 % 3, size, sh)], _, _, _, _, by rw [prodS_snoc], upd_same, ?_, ⟨?_, by rw [prodS_snoc]; exact q2⟩, by rw [List.length_append, hl]; rfl, ?_, q7.then_own nD⟩
        · rw [List.map_append]
          exact (q4.tk (TK.lst q3)).append (.cons (q5.tk (TK.lst q3)) .nil)
        · intro y hy
          rcases List.mem_append.mp hy with hy | hy
          · exact hG.ok y hy
          · rw [List.mem_singleton.mp hy]
            exact ⟨by show 0 ≤ z3 % 3; omega, by show z3 % 3 ≤ 2; omega, q1, s0, s3⟩
        · rw [upd_ne hLD]; exact q6
      refine ⟨_, rfl, _, rfl, _, _, rfl, rfl, .inl ⟨by decide, by decide⟩, _, _, rfl, rfl, _, _, _, _, rfl, rfl, SqL.of hL2, e1, .inl ⟨_, rfl, _, _, rfl, rfl, by show (0 : Int) < 3; decide, _, _, rfl, rfl, _, rfl, _, rfl, _, _, rfl, rfl, .inl ⟨by omega, by omega⟩, _, rfl, _, _, rfl, rfl, _, rfl, iteD (fun hgt => ?_) (fun hgt => ?_)⟩⟩
      all_goals
        refine ⟨_, rfl, _, rfl, _, _, rfl, rfl, .inl ⟨by omega, by omega⟩, by show 5 ≤ sizeLine; decide, fun t nt => ?_⟩
        have M1 := Keep.new (W := []) (o := .tup [.int 0, .int 0, .int 1, .int 2, .int 3]) nt
        refine ⟨_, rfl, _, rfl, _, _, rfl, rfl, .inl ⟨by decide, by decide⟩, _, _, rfl, rfl, _, _, _, _, rfl, rfl, SqL.of (M1 _ _ hL2 (by simp)), e2, .inl ⟨_, rfl, _, _, rfl, rfl, by show (0 : Int) < 5; decide, _, _, _, _, rfl, rfl, SqT.of upd_same, hsh, ?_⟩⟩
        refine ⟨_, rfl, .inl ⟨rfl, _, SqL.of (M1 _ _ hD (by simp))⟩, _, rfl, _, rfl, _, _, rfl, rfl, .inl ⟨by decide, by decide⟩, _, _, rfl, rfl, _, _, _, _, rfl, rfl, SqL.of (M1 _ _ hL2 (by simp)), e3, .inl ⟨_, rfl, _, _, rfl, rfl, by show (0 : Int) < 3; decide, _, rfl, _, rfl, by show 3 ≤ sizeLine; decide, fun t2 n2 => ?_⟩⟩
        have M2 := fun {o : HO} => M1.then_new (o := o) n2
        refine ⟨D, _, _, rfl, rfl, M2 _ _ hD (by simp), lm, ?_⟩
        refine fin (t := t2) (by omega) (by omega) (M2 _ _ hD (by simp)) (hx.tk (Keep.tk M2)) (.tup upd_same (.cons (.int _) (.cons (.int _) (.cons (.int _) .nil)))) (M2 _ _ hL2 (by simp)) (K3.trans M2)
    · rintro σ H' ⟨sts, xs, o5, o6, o7, rfl, hD, hx, hG, hl, hL2, K3⟩
      exact ⟨_, rfl, k D xs sts H' nD hD hx hG (by omega) K3⟩
end

theorem paired_len {α β : Type} {F : α → β → Prop} : ∀ {as : List α} {bs : List β}, Paired F as bs → as.length = bs.length
  | _, _, .nil => rfl
  | _, _, .cons _ t => by rw [List.length_cons, List.length_cons, paired_len t]
theorem paired_at {α β : Type} {F : α → β → Prop} : ∀ {as : List α} {bs : List β}, Paired F as bs → ∀ {i : Nat} {a : α}, as[i]? = some a → ∃ b, bs[i]? = some b ∧ F a b
  | _, _, .nil, i, a, h => by simp at h
  | _, _, .cons f t, 0, a, h => by simp at h; subst h; exact ⟨_, rfl, f⟩
  | _, _, .cons f t, i + 1, a, h => by
    obtain ⟨b, h1, h2⟩ := paired_at t (i := i) (by simpa using h)
    exact ⟨b, by simpa using h1, h2⟩
theorem paired_snoc {α β : Type} {F : α → β → Prop} {a : α} {b : β} (e : F a b) : ∀ {as : List α} {bs : List β}, Paired F as bs → Paired F (as ++ [a]) (bs ++ [b])
  | _, _, .nil => .cons e .nil
  | _, _, .cons h t => .cons h (paired_snoc e t)
def more1 (z : Int) (p : List Int) : List (List Int) := (List.range z.toNat).map fun (k : Nat) => p ++ [(k : Int)]
def stepP (acc : List (List Int)) (z : Int) : List (List Int) := acc.flatMap (more1 z)
def pathsZ (zs : List Int) : List (List Int) := zs.foldl stepP [[]]
theorem pathsZ_snoc (zs : List Int) (z : Int) : pathsZ (zs ++ [z]) = stepP (pathsZ zs) z := by simp [pathsZ, List.foldl_append]
theorem more1_len (z : Int) (p : List Int) : (more1 z p).length = z.toNat := by simp [more1]
theorem stepP_len (acc : List (List Int)) (z : Int) : (stepP acc z).length = acc.length * z.toNat := by
  unfold stepP
  induction acc with
  | nil => simp
  | cons a l ih => rw [List.flatMap_cons, List.length_append, ih, more1_len, List.length_cons, Nat.succ_mul]; omega
/-- as many as the sizes' product, each as long as there are sizes -/
theorem pathsZ_ok {sts : List Stg} (h : ∀ s ∈ sts, 1 ≤ s.2.1) : ∀ n, ((pathsZ ((sts.take n).map fun s => s.2.1)).length : Int) = prodS (sts.take n) ∧ ∀ p ∈ pathsZ ((sts.take n).map fun s => s.2.1), p.length = (sts.take n).length
  | 0 => ⟨rfl, fun p hp => by rw [List.mem_singleton.mp hp]; rfl⟩
  | n + 1 => by
    obtain ⟨h1, h2⟩ := pathsZ_ok h n
    cases e : sts[n]? with
    | none => rw [List.take_add_one, e]; simp only [Option.toList, List.append_nil]; exact ⟨h1, h2⟩
    | some s =>
      have hs := h s (List.mem_of_getElem? e)
      rw [take_snoc e, List.map_append, List.map_singleton, pathsZ_snoc, prodS_snoc]
      refine ⟨?_, fun p hp => ?_⟩
      · rw [stepP_len]
        push_cast
        rw [h1, Int.toNat_of_nonneg (by omega)]
      · obtain ⟨q, hq, hp⟩ := List.mem_flatMap.mp hp
        obtain ⟨k, _, rfl⟩ := List.mem_map.mp hp
        rw [List.length_append, List.length_append, h2 q hq]; rfl
def PA (H : Hp) (ps : List Addr) (ls : List (List Int)) : Prop := Paired (fun p (l : List Int) => H p = some (.lst (l.map V.int))) ps ls
theorem PA.keep {H H' : Hp} {ps : List Addr} {ls : List (List Int)} (h : PA H ps ls) (k : Keep [] H H') : PA H' ps ls := L2.Paired.mapP h fun _ _ e => k _ _ e (by simp)
/-- a list that was none of them -/
theorem PA.own {H : Hp} {ps : List Addr} {ls : List (List Int)} {L : Addr} {o : HO} (h : PA H ps ls) (n : L ∉ ps) : PA (upd H L o) ps ls := by
  induction h with
  | nil => exact .nil
  | cons e t ih =>
    refine .cons ?_ (ih fun z => n (List.mem_cons_of_mem _ z))
    rw [upd_ne (fun z => n (by rw [z]; exact List.mem_cons_self ..))]
    exact e
def sp_paths : Sp := fun vs H Q _ => ∃ (a : Addr) (xs : List V) (sts : List Stg), vs = [.ref a] ∧ H a = some (.lst xs) ∧ TDs H xs (sts.map dS) ∧ GoodS sts ∧ sts.length ≤ 4 ∧ ∀ l ps H', H l = none → (∀ p ∈ ps, H p = none) → H' l = some (.lst (ps.map V.ref)) → PA H' ps (pathsZ (sts.map fun s => s.2.1)) → Keep [] H H' → Q (.ref l) H'
theorem stgs_get {sts : List Stg} {i : Nat} {H : Hp} {xs : List V} {x : V} (t : TDs H xs (sts.map dS)) (hx : xs[i]? = some x) : ∃ s, sts[i]? = some s ∧ ∃ z, x = .ref z ∧ H z = some (.tup [.int s.1, .int s.2.1, .int s.2.2]) := by
  have hl := t.length
  rw [List.length_map] at hl
  obtain ⟨h1, _⟩ := List.getElem?_eq_some_iff.mp hx
  have e : sts[i]? = some sts[i] := List.getElem?_eq_getElem (by omega)
  obtain ⟨v, hv, d⟩ := t.get (i := i) (d := dS (sts[i]'(by omega))) (by rw [List.getElem?_map, e]; rfl)
  rw [hx] at hv
  cases hv
  obtain ⟨z, u, v, w, rfl, hz, d0, d1, d2⟩ := td3 d
  cases td_int d0
  cases td_int d1
  cases td_int d2
  exact ⟨_, e, z, rfl, hz⟩
section
variable {P : Program} {w : World} {K : PySem.W.Frag} {mg : Str → Option Value} {base : Heap} {C_Game : Addr} {C_GameError : Addr} {C_BadText : Addr} {C_BadMove : Addr} {C_BadEdit : Addr} {f_BadEdit___init : Addr}
theorem ok_paths {f : Addr} {fd : FuncData} (D : C8.Def K mg "_law_paths" s_law_paths f fd) (b : Binds K fd ["stages"] []) (T : Txt K mg C_Game C_GameError C_BadText C_BadMove C_BadEdit) : C8.Cal P w K mg base 1 "_law_paths" sp_paths [] := by
  refine cal0 D b .nil sc_law_paths (fun vs H Q E h => ?_) (fun cdv A outer s H vs Q E hr h => ?_)
  · obtain ⟨a, xs, sts, rfl, _⟩ := h
    rfl
  · obtain ⟨a, xs, sts, rfl, ha, hx, hG, h4, k⟩ := h
    refine ⟨_, (pss_cons (ps_set (i := 1) sc_law_paths.nd rfl (by first | exact Or.inl rfl | exact Or.inr rfl) (pe_lst (pa_cons (pe_lst pa_nil) pa_nil)))
(pss_cons (ps_for PassesOwn.never rfl (pi_list (pv 0)) (pg_name (i := 2) sc_law_paths.nd rfl (by first | exact Or.inl rfl | exact Or.inr rfl))
  (pss_cons (ps_set (i := 3) sc_law_paths.nd rfl (by first | exact Or.inl rfl | exact Or.inr rfl) (pe_lst pa_nil))
  (pss_cons (ps_for PassesOwn.never rfl (pi_list (pv 1)) (pg_name (i := 4) sc_law_paths.nd rfl (by first | exact Or.inl rfl | exact Or.inr rfl))
    (pss_one (ps_for PassesOwn.never rfl (pi_range1 (by rfl) T.n_range (pa_cons (pe_ix ix_tup (pv 2) pe_int (fun _ _ => rfl)) pa_nil)) (pg_name (i := 5) sc_law_paths.nd rfl (by first | exact Or.inl rfl | exact Or.inr rfl))
      (pss_one (ps_expr (pe_bm PySem.F.plainAttrs_list PySem.F.slot_list_append PySem.F.type_list_append mt_append (pv 3) (pa_cons (pe_op op_cat (pv 4) (pe_lst (pa_cons (pv 5) pa_nil))) pa_nil)))))))
  (pss_one (ps_set (i := 1) sc_law_paths.nd rfl (by first | exact Or.inl rfl | exact Or.inr rfl) (pv 3))))))
(pss_one (ps_ret (pv 1))))), ?_⟩
    have hxl : xs.length = sts.length := by rw [hx.length, List.length_map]
    refine ⟨Nat.zero_le _, fun p0 n0 => ⟨by show 1 ≤ sizeLine; decide, fun P0 nP0 => ?_⟩⟩
    have K0 := Keep.new (W := []) (o := .lst []) n0
    have K00 := K0.then_new (o := .lst [.ref p0]) nP0
    refine ⟨_, rfl, a, rfl, ⟨_, SqL.of (K00 _ _ ha (by simp))⟩, for_list (K := K) (a := a) (xs := xs) (fun (i : Nat) (σ : List (Option V)) (H' : Hp) => ∃ (L : Addr) (ps : List Addr) (o2 o3 o4 o5 : Option V), σ = [some (.ref a), some (.ref L), o2, o3, o4, o5] ∧ H' L = some (.lst (ps.map V.ref)) ∧ PA H' ps (pathsZ ((sts.take i).map fun s => s.2.1)) ∧ Keep [] H H' ∧ H L = none ∧ ∀ p ∈ ps, H p = none)
      ⟨P0, [p0], none, none, none, none, rfl, upd_same, .cons (by rw [upd_ne (ne_of_none upd_same nP0)]; exact upd_same) .nil, K00, K0.free nP0, fun p hp => by rw [List.mem_singleton.mp hp]; exact n0⟩ ?_ ?_ ?_⟩
    · rintro i σ H' _ ⟨L, ps, o2, o3, o4, o5, rfl, _, _, K1, _⟩
      exact SqL.of (K1 _ _ ha (by simp))
    · rintro i x σ H1 hxi ⟨L, ps, o2, o3, o4, o5, rfl, hL, hP, K1, hL0, hP0⟩
      obtain ⟨st, hst, z, rfl, hz⟩ := stgs_get (hx.tk K1.tk) hxi
      have hi : i < sts.length := (List.getElem?_eq_some_iff.mp hst).1
      have ok := hG.ok st (List.mem_of_getElem? hst)
      have hGt := hG.take i
      obtain ⟨pl, pe⟩ := pathsZ_ok (fun q hq => (hG.ok q hq).2.2.1) i
      have hGt1 := hG.take (i + 1)
      obtain ⟨pl1, _⟩ := pathsZ_ok (fun q hq => (hG.ok q hq).2.2.1) (i + 1)
      have e1 : pathsZ ((sts.take (i + 1)).map fun s => s.2.1) = stepP (pathsZ ((sts.take i).map fun s => s.2.1)) st.2.1 := by
        rw [take_snoc hst, List.map_append, List.map_singleton, pathsZ_snoc]
      rw [e1] at pl1 ⊢
      have hpr := hGt1.pr
      revert hP pl pe pl1
      generalize pathsZ ((sts.take i).map fun s => s.2.1) = acc
      intro hP pl pe pl1
      have hps := paired_len hP
      refine ⟨Nat.zero_le _, fun Lg nLg => ?_⟩
      have M0 := Keep.new (W := []) (o := .lst []) nLg
      have bound : ∀ (j k : Nat), j < acc.length → k ≤ st.2.1.toNat → ((acc.take j).flatMap (more1 st.2.1)).length + k ≤ 6 := by
        intro j k hj hk
        have h1 : ((acc.take j).flatMap (more1 st.2.1)).length = j * st.2.1.toNat := by
          have := stepP_len (acc.take j) st.2.1
          unfold stepP at this
          rw [this, List.length_take, Nat.min_eq_left (by omega)]
        have h2 : (stepP acc st.2.1).length ≤ 6 := by omega
        rw [stepP_len] at h2
        have h3 : j * st.2.1.toNat + st.2.1.toNat = (j + 1) * st.2.1.toNat := by rw [Nat.succ_mul]
        have h4 : (j + 1) * st.2.1.toNat ≤ acc.length * st.2.1.toNat := Nat.mul_le_mul_right _ (by omega)
        omega
      refine ⟨_, rfl, L, rfl, ⟨_, SqL.of (M0 _ _ hL (by simp))⟩, for_list (K := K) (a := L) (xs := ps.map V.ref) (fun (j : Nat) (σ : List (Option V)) (H' : Hp) => ∃ (qs : List Addr) (o4 o5 : Option V), σ = [some (.ref a), some (.ref L), some (.ref z), some (.ref Lg), o4, o5] ∧ H' Lg = some (.lst (qs.map V.ref)) ∧ Lg ∉ qs ∧ PA H' qs ((acc.take j).flatMap (more1 st.2.1)) ∧ Keep [] H1 H' ∧ ∀ q ∈ qs, H q = none)
        ⟨[], o4, o5, rfl, upd_same, by simp, .nil, M0, by simp⟩ ?_ ?_ ?_⟩
      · rintro j σ H' _ ⟨qs, o4, o5, rfl, _, _, _, M1, _⟩
        exact SqL.of (M1 _ _ hL (by simp))
      · rintro j x σ H2 hxj ⟨qs, o4, o5, rfl, hLg, hnq, hQ, M1, hq0⟩
        obtain ⟨pp, hpp, rfl⟩ : ∃ pp, ps[j]? = some pp ∧ x = .ref pp := by
          rw [List.getElem?_map] at hxj
          cases e : ps[j]? with
          | none => rw [e] at hxj; cases hxj
          | some pp => rw [e] at hxj; exact ⟨pp, rfl, (Option.some.inj hxj).symm⟩
        obtain ⟨path, hpath, hpl⟩ := paired_at hP hpp
        have hj : j < acc.length := (List.getElem?_eq_some_iff.mp hpath).1
        have plen := pe path (List.mem_of_getElem? hpath)
        rw [List.length_take] at plen
        have e2 : (acc.take (j + 1)).flatMap (more1 st.2.1) = (acc.take j).flatMap (more1 st.2.1) ++ more1 st.2.1 path := by
          rw [take_snoc hpath, List.flatMap_append]; simp
        rw [e2]
        have hz2 := M1 _ _ hz (by simp)
        have hz6 := bound j st.2.1.toNat hj (Nat.le_refl _)
        refine ⟨_, rfl, _, _, _, _, rfl, rfl, SqT.of hz2, rfl, _, rfl, by omega, by omega, for_range (lo := 0) (n := st.2.1.toNat) (fun (k : Nat) (σ : List (Option V)) (H' : Hp) => ∃ (qs : List Addr) (o5 : Option V), σ = [some (.ref a), some (.ref L), some (.ref z), some (.ref Lg), some (.ref pp), o5] ∧ H' Lg = some (.lst (qs.map V.ref)) ∧ Lg ∉ qs ∧ PA H' qs ((acc.take j).flatMap (more1 st.2.1) ++ (List.range k).map fun (k : Nat) => path ++ [(k : Int)]) ∧ Keep [] H1 H' ∧ ∀ q ∈ qs, H q = none)
          ⟨qs, o5, rfl, hLg, hnq, by rw [List.range_zero, List.map_nil, List.append_nil]; exact hQ, M1, hq0⟩ ?_ ?_⟩
        · rintro k σ H3 hk ⟨qs, o5, rfl, hLg, hnq, hQ, M3, hq0⟩
          have e0 : (0 : Int) + (k : Int) = (k : Int) := by omega
          rw [e0]
          have hql := paired_len hQ
          rw [List.length_append, List.length_map, List.length_range] at hql
          have hb := bound j k hj (by omega)
          have hp3 := M3 _ _ hpl (by simp)
          refine ⟨_, rfl, .inl ⟨rfl, _, SqL.of hLg⟩, _, rfl, _, rfl, by show 1 ≤ sizeLine; decide, fun t nt => ?_⟩
          have M4 := Keep.new (W := []) (o := .lst [.int k]) nt
          refine ⟨pp, t, _, _, rfl, rfl, M4 _ _ hp3 (by simp), upd_same, by rw [List.length_map]; show path.length + 1 ≤ _; exact smallM (by omega), fun r nr => ?_⟩
          have M5 := M4.then_new (o := .lst (path.map V.int ++ [.int k])) nr
          have hLg5 := M5 _ _ hLg (by simp)
          refine ⟨Lg, _, _, rfl, rfl, hLg5, by rw [List.length_map]; exact smallL (by omega), ?_⟩
          have hrL : Lg ≠ r := ne_of_none (M4 _ _ hLg (by simp)) nr
          refine ⟨qs ++ [r], _, rfl, by rw [List.map_append]; exact upd_same, ?_, ?_, (M3.trans M5).then_own nLg, ?_⟩
          · intro zz
            rcases List.mem_append.mp zz with zz | zz
            · exact hnq zz
            · exact hrL (List.mem_singleton.mp zz)
          · rw [List.range_succ, List.map_append, ← List.append_assoc]
            refine paired_snoc (F := fun p (l : List Int) => upd _ Lg _ p = some (.lst (l.map V.int))) ?_ ((hQ.keep M5).own hnq)
            rw [upd_ne hrL.symm, upd_same, List.map_append]; rfl
          · intro q hq
            rcases List.mem_append.mp hq with hq | hq
            · exact hq0 q hq
            · rw [List.mem_singleton.mp hq]; exact ((K1.trans M3).trans M4).free nr
        · rintro σ H3 ⟨qs, o5, rfl, hLg, hnq, hQ, M3, hq0⟩
          exact ⟨qs, _, _, rfl, hLg, hnq, hQ, M3, hq0⟩
      · rintro σ H2 ⟨qs, o4, o5, rfl, hLg, hnq, hQ, M1, hq0⟩
        rw [List.length_map, hps, List.take_length] at hQ
        exact ⟨_, rfl, Lg, qs, _, _, _, _, rfl, hLg, hQ, K1.trans M1, K1.free nLg, hq0⟩
    · rintro σ H' ⟨L, ps, o2, o3, o4, o5, rfl, hL, hP, K1, hL0, hP0⟩
      rw [hxl, List.take_length] at hP
      exact ⟨_, rfl, k L ps H' hL0 hP0 hL hP K1⟩
end

def turnS (s : Stg) : Stg := (if s.1 = 0 then s.1 else 3 - s.1, s.2.1, if s.2.2 = 1 ∨ s.2.2 = 2 then 3 - s.2.2 else s.2.2)
def chN (nm : Str) (k : Nat) : Str := ⟨#[nm.cps.toList.getD k 0]⟩
theorem chN_at {nm : Str} {k : Nat} (h : k < nm.cps.toList.length) : atI nm.cps.toList (k : Int) = some (nm.cps.toList.getD k 0) := by
  refine atI_nat ?_
  rw [List.getElem?_eq_getElem h, List.getD_eq_getElem?_getD, List.getElem?_eq_getElem h]; rfl
def stgD (sts : List Stg) (k : Nat) : Stg := sts[k]?.getD (0, 1, 0)
def sizesOf (nm : Str) (sts : List Stg) : List (Str × Int) := (List.range sts.length).map fun k => (chN nm k, (stgD sts k).2.1)
theorem stgD_eq {sts : List Stg} {k : Nat} {s : Stg} (h : sts[k]? = some s) : stgD sts k = s := by unfold stgD; rw [h]; rfl
def sp_turned : Sp := fun vs H Q _ => ∃ (a : Addr) (xs : List V) (sts : List Stg), vs = [.ref a] ∧ H a = some (.lst xs) ∧ TDs H xs (sts.map dS) ∧ sts.length ≤ 4 ∧ ∀ l ys H', H' l = some (.lst ys) → TDs H' ys ((sts.map turnS).map dS) → Keep [] H H' → Q (.ref l) H'
def sp_sizes : Sp := fun vs H Q _ => ∃ (a : Addr) (xs : List V) (sts : List Stg) (nm : Str), vs = [.ref a, .str nm] ∧ H a = some (.lst xs) ∧ TDs H xs (sts.map dS) ∧ sts.length ≤ 3 ∧ nm.cps.toList.length = 3 ∧ nm.length ≤ 1000 ∧ ∀ r H', TD H' (.ref r) (.tuple ((sizesOf nm sts).map dV)) → Keep [] H H' → Q (.ref r) H'
section
variable {P : Program} {w : World} {K : PySem.W.Frag} {mg : Str → Option Value} {base : Heap} {C_Game : Addr} {C_GameError : Addr} {C_BadText : Addr} {C_BadMove : Addr} {C_BadEdit : Addr} {f_BadEdit___init : Addr}
theorem ok_turned {f : Addr} {fd : FuncData} (D : C8.Def K mg "_law_turned" s_law_turned f fd) (b : Binds K fd ["stages"] []) (T : Txt K mg C_Game C_GameError C_BadText C_BadMove C_BadEdit) : C8.Cal P w K mg base 1 "_law_turned" sp_turned [] := by
  refine cal0 D b .nil sc_law_turned (fun vs H Q E h => ?_) (fun cdv A outer s H vs Q E hr h => ?_)
  · obtain ⟨a, xs, sts, rfl, _⟩ := h
    rfl
  · obtain ⟨a, xs, sts, rfl, ha, hx, h4, k⟩ := h
    refine ⟨_, (pss_cons (ps_set (i := 1) sc_law_turned.nd rfl (by first | exact Or.inl rfl | exact Or.inr rfl) (pe_lst pa_nil))
(pss_cons (ps_for PassesOwn.never rfl (pi_list (pv 0)) (pg_name (i := 2) sc_law_turned.nd rfl (by first | exact Or.inl rfl | exact Or.inr rfl))
  (pss_cons (ps_set (i := 3) sc_law_turned.nd rfl (by first | exact Or.inl rfl | exact Or.inr rfl) (pe_ix ix_tup (pv 2) pe_int (fun _ _ => rfl)))
  (pss_cons (ps_if (pt_cmpR op_ne (pv 3) pe_int (nomark _))
    (pss_one (ps_set (i := 3) sc_law_turned.nd rfl (by first | exact Or.inl rfl | exact Or.inr rfl) (pe_op op_sub pe_int (pv 3))))
    pss_nil)
  (pss_cons (ps_set (i := 4) sc_law_turned.nd rfl (by first | exact Or.inl rfl | exact Or.inr rfl) (pe_ix ix_tup (pv 2) pe_int (fun _ _ => rfl)))
  (pss_cons (ps_if (PW.pt (pw_or (pt_cmpR op_eq (pv 4) pe_int (nomark _)) (pw_or1 (pt_cmpR op_eq (pv 4) pe_int (nomark _)))))
    (pss_one (ps_set (i := 4) sc_law_turned.nd rfl (by first | exact Or.inl rfl | exact Or.inr rfl) (pe_op op_sub pe_int (pv 4))))
    pss_nil)
  (pss_one (ps_expr (pe_bm PySem.F.plainAttrs_list PySem.F.slot_list_append PySem.F.type_list_append mt_append (pv 1) (pa_cons (pe_tup (pa_cons (pv 3) (pa_cons (pe_ix ix_tup (pv 2) pe_int (fun _ _ => rfl)) (pa_cons (pv 4) pa_nil)))) pa_nil)))))))))
(pss_one (ps_ret (pv 1))))), ?_⟩
    have hxl : xs.length = sts.length := by rw [hx.length, List.length_map]
    refine ⟨Nat.zero_le _, fun D nD => ?_⟩
    have K0 := Keep.new (W := []) (o := .lst []) nD
    refine ⟨_, rfl, a, rfl, ⟨_, SqL.of (K0 _ _ ha (by simp))⟩, for_list (K := K) (a := a) (xs := xs) (fun (i : Nat) (σ : List (Option V)) (H' : Hp) => ∃ (ys : List V) (o2 o3 o4 : Option V), σ = [some (.ref a), some (.ref D), o2, o3, o4] ∧ H' D = some (.lst ys) ∧ TDs H' ys (((sts.take i).map turnS).map dS) ∧ Keep [] H H') ⟨[], none, none, none, rfl, upd_same, .nil, K0⟩ ?_ ?_ ?_⟩
    · rintro i σ H' _ ⟨ys, o2, o3, o4, rfl, _, _, K1⟩
      exact SqL.of (K1 _ _ ha (by simp))
    · rintro i x σ H' hxi ⟨ys, o2, o3, o4, rfl, hD, hy, K1⟩
      obtain ⟨st, hst, z, rfl, hz⟩ := stgs_get (hx.tk K1.tk) hxi
      have hi : i < sts.length := (List.getElem?_eq_some_iff.mp hst).1
      have lm : ys.length < sizeLine := by rw [hy.length, List.length_map, List.length_map, List.length_take]; exact smallL (by omega)
      have fin : ∀ {t : Addr} {p' sh' : Int}, turnS st = (p', st.2.1, sh') → H' t = none → (upd H' t (.tup [.int p', .int st.2.1, .int sh'])) D = some (.lst ys) ∧ ∃ (zs : List V) (o2 o3 o4 : Option V), [some (.ref a), some (.ref D), some (.ref z), some (.int p'), some (.int sh')] = [some (.ref a), some (.ref D), o2, o3, o4] ∧ upd (upd H' t (.tup [.int p', .int st.2.1, .int sh'])) D (.lst (ys ++ [.ref t])) D = some (.lst zs) ∧ TDs (upd (upd H' t (.tup [.int p', .int st.2.1, .int sh'])) D (.lst (ys ++ [.ref t]))) zs (((sts.take (i + 1)).map turnS).map dS) ∧ Keep [] H (upd (upd H' t (.tup [.int p', .int st.2.1, .int sh'])) D (.lst (ys ++ [.ref t]))) := by
        intro t p' sh' e nt
        have hD2 : (upd H' t (.tup [.int p', .int st.2.1, .int sh'])) D = some (.lst ys) := by rw [upd_ne (ne_of_none hD nt)]; exact hD
        refine ⟨hD2, _, _, _, _, rfl, upd_same, ?_, (K1.then_new nt).then_own nD⟩
        rw [take_snoc hst, List.map_append, List.map_append]
        refine ((hy.tk (TK.new nt)).tk (TK.lst hD2)).append (.cons (TD.tk (TK.lst hD2) ?_) .nil)
        show TD _ _ (dS (turnS st))
        rw [e]
        exact .tup upd_same (.cons (.int _) (.cons (.int _) (.cons (.int _) .nil)))
      have tS : ∀ {p' sh' : Int}, (if st.1 = 0 then st.1 else 3 - st.1) = p' → (if st.2.2 = 1 ∨ st.2.2 = 2 then 3 - st.2.2 else st.2.2) = sh' → turnS st = (p', st.2.1, sh') := fun e1 e2 => by unfold turnS; rw [e1, e2]
      refine ⟨_, rfl, _, _, _, _, rfl, rfl, SqT.of hz, rfl, _, rfl, rfl, _, rfl, iteN (fun hp => ⟨_, rfl, _, _, rfl, rfl, ?_⟩) (fun hp => ?_)⟩
      all_goals
        refine ⟨_, rfl, _, _, _, _, rfl, rfl, SqT.of hz, rfl, _, rfl, rfl, _, rfl, iteD (fun e1 => ⟨_, rfl, _, _, rfl, rfl, ?_⟩) (fun n1 => ⟨_, rfl, rfl, _, rfl, iteD (fun e2 => ⟨_, rfl, _, _, rfl, rfl, ?_⟩) (fun n2 => ?_)⟩)⟩
      all_goals
        refine ⟨_, rfl, .inl ⟨rfl, _, SqL.of hD⟩, _, rfl, _, rfl, _, _, _, _, rfl, rfl, SqT.of hz, rfl, _, rfl, by show 3 ≤ sizeLine; decide, fun t nt => ?_⟩
      · obtain ⟨g1, g2⟩ := fin (tS (if_neg (fun z => hp (by rw [z]))) (if_pos (.inl (V.int.inj e1)))) nt
        exact ⟨D, _, _, rfl, rfl, g1, lm, g2⟩
      · obtain ⟨g1, g2⟩ := fin (tS (if_neg (fun z => hp (by rw [z]))) (if_pos (.inr (V.int.inj e2)))) nt
        exact ⟨D, _, _, rfl, rfl, g1, lm, g2⟩
      · obtain ⟨g1, g2⟩ := fin (tS (if_neg (fun z => hp (by rw [z]))) (if_neg (fun z => z.elim (fun z => n1 (by rw [z])) (fun z => n2 (by rw [z]))))) nt
        exact ⟨D, _, _, rfl, rfl, g1, lm, g2⟩
      · obtain ⟨g1, g2⟩ := fin (tS (if_pos (V.int.inj hp)) (if_pos (.inl (V.int.inj e1)))) nt
        exact ⟨D, _, _, rfl, rfl, g1, lm, g2⟩
      · obtain ⟨g1, g2⟩ := fin (tS (if_pos (V.int.inj hp)) (if_pos (.inr (V.int.inj e2)))) nt
        exact ⟨D, _, _, rfl, rfl, g1, lm, g2⟩
      · obtain ⟨g1, g2⟩ := fin (tS (if_pos (V.int.inj hp)) (if_neg (fun z => z.elim (fun z => n1 (by rw [z])) (fun z => n2 (by rw [z]))))) nt
        exact ⟨D, _, _, rfl, rfl, g1, lm, g2⟩
    · rintro σ H' ⟨ys, o2, o3, o4, rfl, hD, hy, K1⟩
      rw [hxl, List.take_length] at hy
      exact ⟨_, rfl, k D ys H' hD hy K1⟩
theorem ok_sizes {f : Addr} {fd : FuncData} (D : C8.Def K mg "_law_sizes" s_law_sizes f fd) (b : Binds K fd ["stages", "names"] []) (T : Txt K mg C_Game C_GameError C_BadText C_BadMove C_BadEdit) : C8.Cal P w K mg base 1 "_law_sizes" sp_sizes [] := by
  refine cal0 D b .nil sc_law_sizes (fun vs H Q E h => ?_) (fun cdv A outer s H vs Q E hr h => ?_)
  · obtain ⟨a, xs, sts, nm, rfl, _⟩ := h
    rfl
  · obtain ⟨a, xs, sts, nm, rfl, ha, hx, h3, hn, hn2, k⟩ := h
    refine ⟨_, (pss_one (ps_ret (pe_callTy call_tuple_of (by rfl) T.n_tuple bo_tuple (pa_cons (pe_lc (own := [("k", 2)]) (g := gName 2) (tt := tYes) rfl sc_law_sizes.nd (pi_range1 (by rfl) T.n_range (pa_cons (pe_callB call_len_seq (by rfl) T.n_len bo_len (pa_cons (pv 0) pa_nil)) pa_nil)) (blkOk_by (N := ["stages", "names", "k"]) (sc := fnScope s_law_sizes) (by decide +kernel)) (fun _ _ _ _ _ => pg_name (i := 2) sc_law_sizes.nd rfl (Or.inl rfl)) (fun _ _ _ _ _ => pts_nil) (fun _ _ _ _ _ => (pe_tup (pa_cons (pe_ix ix_str (pv 1) (pv 2) (fun _ _ => rfl)) (pa_cons (pe_ix (ix_tupK (K := K)) (pe_ix (ix_listK (K := K)) (pv 0) (pv 2) (fun _ _ => rfl)) pe_int (fun _ _ => rfl)) pa_nil))))) pa_nil)))), ?_⟩
    have hxl : xs.length = sts.length := by rw [hx.length, List.length_map]
    refine ⟨_, rfl, _, _, rfl, .inl (SqL.of ha), _, rfl, by omega, by omega, fun D nD => ?_⟩
    refine lc_range (lo := 0) (n := ((xs.length : Nat) : Int).toNat) (fun i H' => (∃ ys, H' D = some (.lst ys) ∧ TDs H' ys (((List.range i).map fun k => (chN nm k, (stgD sts k).2.1)).map dV)) ∧ Keep [] H H') ⟨⟨[], upd_same, .nil⟩, Keep.new nD⟩ ?_ ?_
    · rintro i H' hi ⟨⟨ys, hD, hy⟩, K1⟩
      rw [Int.toNat_natCast] at hi
      have e0 : (0 : Int) + (i : Int) = (i : Int) := by omega
      rw [e0]
      have hxi : xs[i]? = some xs[i] := List.getElem?_eq_getElem hi
      obtain ⟨st, hst, z, ez, hz⟩ := stgs_get (hx.tk K1.tk) hxi
      rw [ez] at hxi
      have hyl : ys.length = i := by rw [hy.length, List.length_map, List.length_map, List.length_range]
      refine ⟨rfl, yes_then ⟨_, rfl, _, rfl, _, _, _, rfl, rfl, smallM (Nat.le_trans hn2 (by decide)), chN_at (by omega), _, rfl, _, rfl, _, _, _, _, rfl, rfl, SqL.of (K1 _ _ ha (by simp)), atI_nat hxi, _, _, _, _, rfl, rfl, SqT.of hz, rfl, by show 2 ≤ sizeLine; decide, fun t nt => ?_⟩⟩
      have hD2 : upd H' t (.tup [.str (chN nm i), .int st.2.1]) D = some (.lst ys) := by rw [upd_ne (ne_of_none hD nt)]; exact hD
      refine ⟨ys, hD2, by rw [hyl]; exact smallL (by omega), ⟨_, upd_same, ?_⟩, (K1.then_new nt).then_own nD⟩
      rw [List.range_succ, List.map_append, List.map_append]
      refine ((hy.tk (TK.new nt)).tk (TK.lst hD2)).append (.cons (TD.tk (TK.lst hD2) ?_) .nil)
      show TD _ _ (dV (chN nm i, (stgD sts i).2.1))
      rw [stgD_eq hst]
      exact .tup upd_same (.cons (.str _) (.cons (.int _) .nil))
    · rintro H' ⟨⟨ys, hD, hy⟩, K1⟩
      rw [Int.toNat_natCast, hxl] at hy
      exact ⟨D, ys, rfl, .inl ⟨SqL.of hD, fun t nt => k t _ (.tup upd_same (hy.tk (TK.new nt))) (K1.then_new nt)⟩⟩
end

def vrN (nm : Str) (k : Nat) : PyData := .tuple [.str "variable", .str (chN nm k)]
def numD (i : Int) : PyData := .tuple [.str "number", .int i]
def stS (nm : Str) (k : Nat) (num : Int) (s : Stg) : List Sm := (if s.1 = 0 then [Sm.drw (chN nm k) s.2.1] else [Sm.mov s.1 (chN nm k) s.2.1 num]) ++ (if s.2.2 = 0 then [] else [Sm.shw (s.2.2 % 3) (vrN nm k)])
def numOf (sts : List Stg) : Int := (sts.map fun s => if s.1 = 0 then (0 : Int) else 1).sum
def headB (nm : Str) (sts : List Stg) (n : Nat) : List Sm := (List.range n).flatMap fun k => stS nm k (numOf (sts.take k)) (stgD sts k)
def valB (nm op : Str) (c : Int) (path : List Int) : Nat → PyData
  | 0 => .tuple [.str "pick", .str op, numD (if c < 0 then -c else c), numD 0]
  | n + 1 => .tuple [.str "*", .tuple [.str "=", vrN nm n, numD (path.getD n 0)], valB nm op c path n]
def payS (nm op : Str) (paid : List Int) (ps : List (List Int)) (n k : Nat) : Sm := if paid.getD k 0 < 0 then .tak (valB nm op (paid.getD k 0) (ps.getD k []) n) else .pay (valB nm op (paid.getD k 0) (ps.getD k []) n)
def payB (nm op : Str) (paid : List Int) (ps : List (List Int)) (n m : Nat) : List Sm := (List.range m).map fun k => payS nm op paid ps n k
def szs (sts : List Stg) : List Int := sts.map fun s => s.2.1
def blockOf (nm op : Str) (paid : List Int) (sts : List Stg) : List Sm := headB nm sts sts.length ++ payB nm op paid (pathsZ (szs sts)) sts.length (pathsZ (szs sts)).length
theorem numOf_take {sts : List Stg} {i : Nat} {s : Stg} (h : sts[i]? = some s) : numOf (sts.take (i + 1)) = numOf (sts.take i) + (if s.1 = 0 then 0 else 1) := by
  rw [take_snoc h]; simp [numOf]
def sp_block : Sp := fun vs H Q _ => ∃ (a pa : Addr) (xs : List V) (sts : List Stg) (paid : List Int) (nm op : Str), vs = [.ref a, .ref pa, .str nm, .int 0, .str op] ∧ H a = some (.lst xs) ∧ TDs H xs (sts.map dS) ∧ GoodS sts ∧ sts.length ≤ 3 ∧ H pa = some (.lst (paid.map V.int)) ∧ paid.length = (pathsZ (szs sts)).length ∧ op ≠ "" ∧ nm.cps.toList.length = 3 ∧ nm.length ≤ 1000 ∧
  ∀ r H', TD H' (.ref r) (.tuple (datas (blockOf nm op paid sts))) → Keep [] H H' → Q (.ref r) H'
section
variable {P : Program} {w : World} {K : PySem.W.Frag} {mg : Str → Option Value} {base : Heap} {C_Game : Addr} {C_GameError : Addr} {C_BadText : Addr} {C_BadMove : Addr} {C_BadEdit : Addr} {f_BadEdit___init : Addr}
theorem ok_block {f : Addr} {fd : FuncData} (D : C8.Def K mg "_law_block" s_law_block f fd) (b : Binds K fd ["stages", "paid", "names", "first", "option"] []) (T : Txt K mg C_Game C_GameError C_BadText C_BadMove C_BadEdit) (c_law_paths : C8.Cal P w K mg base 1 "_law_paths" sp_paths []) : C8.Cal P w K mg base 2 "_law_block" sp_block [] := by
  refine cal0 D b .nil sc_law_block (fun vs H Q E h => ?_) (fun cdv A outer s H vs Q E hr h => ?_)
  · obtain ⟨a, pa, xs, sts, paid, nm, op, rfl, _⟩ := h
    rfl
  · obtain ⟨a, pa, xs, sts, paid, nm, op, rfl, ha, hx, hG, h3, hpa, hpl, hop, hn, hn2, k⟩ := h
    refine ⟨_, (pss_cons (ps_set (i := 5) sc_law_block.nd rfl (by first | exact Or.inl rfl | exact Or.inr rfl) (pe_lst pa_nil))
(pss_cons (ps_set (i := 6) sc_law_block.nd rfl (by first | exact Or.inl rfl | exact Or.inr rfl) (pv 3))
(pss_cons (ps_for PassesOwn.never rfl (pi_range1 (by rfl) T.n_range (pa_cons (pe_callB call_len_seq (by rfl) T.n_len bo_len (pa_cons (pv 0) pa_nil)) pa_nil)) (pg_name (i := 7) sc_law_block.nd rfl (by first | exact Or.inl rfl | exact Or.inr rfl))
  (pss_cons (ps_set (i := 8) sc_law_block.nd rfl (by first | exact Or.inl rfl | exact Or.inr rfl) (pe_ix ix_list (pv 0) (pv 7) (fun _ _ => rfl)))
  (pss_cons (ps_if (pt_cmpR op_eq (pe_ix ix_tup (pv 8) pe_int (fun _ _ => rfl)) pe_int (nomark _))
    (pss_one (ps_expr (pe_bm PySem.F.plainAttrs_list PySem.F.slot_list_append PySem.F.type_list_append mt_append (pv 5) (pa_cons (pe_tup (pa_cons pe_str (pa_cons (pe_ix ix_str (pv 2) (pv 7) (fun _ _ => rfl)) (pa_cons (pe_ix ix_tup (pv 8) pe_int (fun _ _ => rfl)) pa_nil)))) pa_nil))))
    (pss_cons (ps_expr (pe_bm PySem.F.plainAttrs_list PySem.F.slot_list_append PySem.F.type_list_append mt_append (pv 5) (pa_cons (pe_tup (pa_cons pe_str (pa_cons (pe_ix ix_tup (pv 8) pe_int (fun _ _ => rfl)) (pa_cons (pe_ix ix_str (pv 2) (pv 7) (fun _ _ => rfl)) (pa_cons (pe_ix ix_tup (pv 8) pe_int (fun _ _ => rfl)) (pa_cons (pv 6) pa_nil)))))) pa_nil)))
    (pss_one (ps_set (i := 6) sc_law_block.nd rfl (by first | exact Or.inl rfl | exact Or.inr rfl) (pe_op op_add (pv 6) pe_int)))))
  (pss_one (ps_if (pt_cmpR op_ne (pe_ix ix_tup (pv 8) pe_int (fun _ _ => rfl)) pe_int (nomark _))
    (pss_one (ps_expr (pe_bm PySem.F.plainAttrs_list PySem.F.slot_list_append PySem.F.type_list_append mt_append (pv 5) (pa_cons (pe_tup (pa_cons pe_str (pa_cons (pe_op op_mod (pe_callTy call_int1 (by rfl) T.n_int bo_int (pa_cons (pe_ix ix_tup (pv 8) pe_int (fun _ _ => rfl)) pa_nil)) pe_int) (pa_cons (pe_tup (pa_cons pe_str (pa_cons (pe_ix ix_str (pv 2) (pv 7) (fun _ _ => rfl)) pa_nil))) pa_nil)))) pa_nil))))
    pss_nil)))))
(pss_cons (ps_set (i := 9) sc_law_block.nd rfl (by first | exact Or.inl rfl | exact Or.inr rfl) (pe_c c_law_paths hr (by first | exact Nat.le_refl _ | decide | omega) rfl (pa_cons (pv 0) pa_nil)))
(pss_cons (ps_for PassesOwn.never rfl (pi_range1 (by rfl) T.n_range (pa_cons (pe_callB call_len_seq (by rfl) T.n_len bo_len (pa_cons (pv 9) pa_nil)) pa_nil)) (pg_name (i := 7) sc_law_block.nd rfl (by first | exact Or.inl rfl | exact Or.inr rfl))
  (pss_cons (ps_set (i := 10) sc_law_block.nd rfl (by first | exact Or.inl rfl | exact Or.inr rfl) (pe_tup (pa_cons pe_str (pa_cons (pe_callB call_abs (by rfl) T.n_abs bo_abs (pa_cons (pe_ix ix_list (pv 1) (pv 7) (fun _ _ => rfl)) pa_nil)) pa_nil))))
  (pss_cons (ps_if (pt_cmpR op_ne (pv 4) pe_str (nomark _))
    (pss_one (ps_set (i := 10) sc_law_block.nd rfl (by first | exact Or.inl rfl | exact Or.inr rfl) (pe_tup (pa_cons pe_str (pa_cons (pv 4) (pa_cons (pv 10) (pa_cons (pe_tup (pa_cons pe_str (pa_cons pe_int pa_nil))) pa_nil)))))))
    pss_nil)
  (pss_cons (ps_for PassesOwn.never rfl (pi_range1 (by rfl) T.n_range (pa_cons (pe_callB call_len_seq (by rfl) T.n_len bo_len (pa_cons (pv 0) pa_nil)) pa_nil)) (pg_name (i := 11) sc_law_block.nd rfl (by first | exact Or.inl rfl | exact Or.inr rfl))
    (pss_one (ps_set (i := 10) sc_law_block.nd rfl (by first | exact Or.inl rfl | exact Or.inr rfl) (pe_tup (pa_cons pe_str (pa_cons (pe_tup (pa_cons pe_str (pa_cons (pe_tup (pa_cons pe_str (pa_cons (pe_ix ix_str (pv 2) (pv 11) (fun _ _ => rfl)) pa_nil))) (pa_cons (pe_tup (pa_cons pe_str (pa_cons (pe_ix ix_list (pe_ix ix_list (pv 9) (pv 7) (fun _ _ => rfl)) (pv 11) (fun _ _ => rfl)) pa_nil))) pa_nil)))) (pa_cons (pv 10) pa_nil)))))))
  (pss_cons (ps_set (i := 12) sc_law_block.nd rfl (by first | exact Or.inl rfl | exact Or.inr rfl) pe_str)
  (pss_cons (ps_if (pt_cmpR op_lt (pe_ix ix_list (pv 1) (pv 7) (fun _ _ => rfl)) pe_int (nomark _))
    (pss_one (ps_set (i := 12) sc_law_block.nd rfl (by first | exact Or.inl rfl | exact Or.inr rfl) pe_str))
    pss_nil)
  (pss_one (ps_expr (pe_bm PySem.F.plainAttrs_list PySem.F.slot_list_append PySem.F.type_list_append mt_append (pv 5) (pa_cons (pe_tup (pa_cons (pv 12) (pa_cons (pv 10) pa_nil))) pa_nil))))))))))
(pss_one (ps_ret (pe_callTy call_tuple_of (by rfl) T.n_tuple bo_tuple (pa_cons (pv 5) pa_nil))))))))), ?_⟩
    have hxl : xs.length = sts.length := by rw [hx.length, List.length_map]
    refine ⟨Nat.zero_le _, fun D nD => ?_⟩
    have K0 := Keep.new (W := []) (o := .lst []) nD
    have hnm : nm.length ≤ sizeLine := smallM (Nat.le_trans hn2 (by decide))
    have chA : ∀ {i : Nat}, i < sts.length → atI nm.cps.toList (i : Int) = some (nm.cps.toList.getD i 0) := fun h => chN_at (by omega)
    have oA := SqL.of (K := K) (K0 _ _ ha (by simp))
    refine ⟨_, rfl, _, rfl, _, _, rfl, .inl oA, _, rfl, by omega, by omega, for_range (lo := 0) (n := ((xs.length : Nat) : Int).toNat) (fun (i : Nat) (σ : List (Option V)) (H' : Hp) => ∃ (ys : List V) (o7 o8 : Option V), σ = [some (.ref a), some (.ref pa), some (.str nm), some (.int 0), some (.str op), some (.ref D), some (.int (numOf (sts.take i))), o7, o8, none, none, none, none] ∧ H' D = some (.lst ys) ∧ ys.length ≤ 2 * i ∧ TDs H' ys (datas (headB nm sts i)) ∧ Keep [] H H') ⟨[], none, none, rfl, upd_same, by simp, .nil, K0⟩ ?_ ?_⟩
    · rintro i σ H1 hi ⟨ys, o7, o8, rfl, hD, hyl, hy, K1⟩
      rw [Int.toNat_natCast] at hi
      have e0 : (0 : Int) + (i : Int) = (i : Int) := by omega
      rw [e0]
      have hxi : xs[i]? = some xs[i] := List.getElem?_eq_getElem hi
      obtain ⟨st, hst, z, ez, hz⟩ := stgs_get (hx.tk K1.tk) hxi
      rw [ez] at hxi
      have hi' : i < sts.length := by omega
      have ch := chA hi'
      have ha1 := K1 _ _ ha (by simp)
      have e1 : headB nm sts (i + 1) = headB nm sts i ++ stS nm i (numOf (sts.take i)) st := by
        unfold headB
        rw [List.range_succ, List.flatMap_append]
        simp [stgD_eq hst]
      rw [e1, numOf_take hst, datas_append]
      refine ⟨_, rfl, _, rfl, _, _, _, _, rfl, rfl, SqL.of ha1, atI_nat hxi, ?_⟩
      have hn0 : H D = none := nD
      refine ⟨_, rfl, _, _, _, _, rfl, rfl, SqT.of hz, rfl, rfl, _, rfl, iteD (fun hp => ?_) (fun hp => ?_)⟩
      · refine ⟨_, rfl, .inl ⟨rfl, _, SqL.of hD⟩, _, rfl, _, rfl, _, _, _, rfl, rfl, hnm, ch, _, rfl, _, _, _, _, rfl, rfl, SqT.of hz, rfl, by show 3 ≤ sizeLine; decide, fun t nt => ?_⟩
        have hD2 : upd H1 t (.tup [.str "draw", .str ⟨#[nm.cps.toList.getD i 0]⟩, .int st.2.1]) D = some (.lst ys) := by rw [upd_ne (ne_of_none hD nt)]; exact hD
        refine ⟨D, _, _, rfl, rfl, hD2, smallL (by omega), ?_⟩
        have K2 := (K1.then_new (o := .tup [.str "draw", .str ⟨#[nm.cps.toList.getD i 0]⟩, .int st.2.1]) nt).then_own (o := .lst (ys ++ [.ref t])) nD
        have hy2 := ((hy.tk (TK.new (o := .tup [.str "draw", .str ⟨#[nm.cps.toList.getD i 0]⟩, .int st.2.1]) nt)).tk (TK.lst (o := .lst (ys ++ [.ref t])) hD2)).append (.cons (TD.tk (TK.lst hD2) (TD.tup (ds := [.str "draw", .str (chN nm i), .int st.2.1]) upd_same (.cons (.str _) (.cons (.str _) (.cons (.int _) .nil))))) .nil)
        have hz2 := TK.lst (o := .lst (ys ++ [.ref t])) hD2 _ _ (TK.new (o := .tup [.str "draw", .str ⟨#[nm.cps.toList.getD i 0]⟩, .int st.2.1]) nt _ _ hz)
        have hD3 := upd_same (H := upd H1 t (.tup [.str "draw", .str ⟨#[nm.cps.toList.getD i 0]⟩, .int st.2.1])) (a := D) (o := .lst (ys ++ [.ref t]))
        have hL : stS nm i (numOf (sts.take i)) st = [Sm.drw (chN nm i) st.2.1] ++ (if st.2.2 = 0 then [] else [Sm.shw (st.2.2 % 3) (vrN nm i)]) := by unfold stS; rw [if_pos (V.int.inj hp)]
        have en : numOf (sts.take i) + (if st.1 = 0 then 0 else 1) = numOf (sts.take i) := by rw [if_pos (V.int.inj hp)]; omega
        revert K2 hy2 hz2 hD3
        generalize upd (upd H1 t (.tup [.str "draw", .str ⟨#[nm.cps.toList.getD i 0]⟩, .int st.2.1])) D (.lst (ys ++ [.ref t])) = H2
        intro K2 hy2 hz2 hD3
        rw [hL, en, datas_append, ← List.append_assoc]
        have hyl2 : (ys ++ [V.ref t]).length ≤ 2 * i + 1 := by rw [List.length_append]; show ys.length + 1 ≤ _; omega
        refine ⟨_, rfl, _, _, _, _, rfl, rfl, SqT.of hz2, rfl, rfl, _, rfl, iteN (fun hs => ?_) (fun hs => ?_)⟩
        · refine ⟨_, rfl, .inl ⟨rfl, _, SqL.of hD3⟩, _, rfl, _, _, _, _, rfl, rfl, SqT.of hz2, rfl, .inl ⟨_, rfl, _, _, rfl, rfl, by show (0 : Int) < 3; decide, _, rfl, _, rfl, _, _, _, rfl, rfl, hnm, ch, by show 2 ≤ sizeLine; decide, fun t2 n2 => ⟨by show 3 ≤ sizeLine; decide, fun t3 n3 => ?_⟩⟩⟩
          have g1 := TK.new (o := .tup [.str "variable", .str ⟨#[nm.cps.toList.getD i 0]⟩]) n2
          have g2 := g1.trans (TK.new (o := .tup [.str "show", .int (st.2.2 % 3), .ref t2]) n3)
          have hD5 : upd (upd H2 t2 (.tup [.str "variable", .str ⟨#[nm.cps.toList.getD i 0]⟩])) t3 (.tup [.str "show", .int (st.2.2 % 3), .ref t2]) D = some (.lst (ys ++ [.ref t])) := by
            have h := ne_of_none hD3 n2
            have h2 := ne_of_none (H := upd H2 t2 (.tup [.str "variable", .str ⟨#[nm.cps.toList.getD i 0]⟩])) (by rw [upd_ne h]; exact hD3) n3
            rw [upd_ne h2, upd_ne h]; exact hD3
          refine ⟨D, _, _, rfl, rfl, hD5, smallL (by omega), ?_⟩
          rw [if_neg (fun z => hs (by rw [z]))]
          refine ⟨_, _, _, rfl, upd_same, by rw [List.length_append]; show (ys ++ [V.ref t]).length + 1 ≤ _; omega, ((hy2.tk g2).tk (TK.lst hD5)).append (.cons (TD.tk (TK.lst hD5) ?_) .nil), ((K2.then_new n2).then_new n3).then_own nD⟩
          exact .tup upd_same (.cons (.str _) (.cons (.int _) (.cons ((TD.tup (ds := [.str "variable", .str (chN nm i)]) upd_same (.cons (.str _) (.cons (.str _) .nil))).tk (TK.new n3)) .nil)))
        · rw [if_pos (V.int.inj hs)]
          exact ⟨_, _, _, rfl, hD3, by omega, by rw [show datas ([] : List Sm) = [] from rfl, List.append_nil]; exact hy2, K2⟩
      · refine ⟨_, rfl, .inl ⟨rfl, _, SqL.of hD⟩, _, rfl, _, _, _, _, rfl, rfl, SqT.of hz, rfl, _, rfl, _, rfl, _, _, _, rfl, rfl, hnm, ch, _, rfl, _, _, _, _, rfl, rfl, SqT.of hz, rfl, _, rfl, by show 5 ≤ sizeLine; decide, fun t nt => ?_⟩
        have hD2 : upd H1 t (.tup [.str "move", .int st.1, .str ⟨#[nm.cps.toList.getD i 0]⟩, .int st.2.1, .int (numOf (sts.take i))]) D = some (.lst ys) := by rw [upd_ne (ne_of_none hD nt)]; exact hD
        refine ⟨D, _, _, rfl, rfl, hD2, smallL (by omega), ?_⟩
        refine ⟨_, rfl, _, _, rfl, rfl, ?_⟩
        have K2 := (K1.then_new (o := .tup [.str "move", .int st.1, .str ⟨#[nm.cps.toList.getD i 0]⟩, .int st.2.1, .int (numOf (sts.take i))]) nt).then_own (o := .lst (ys ++ [.ref t])) nD
        have hy2 := ((hy.tk (TK.new (o := .tup [.str "move", .int st.1, .str ⟨#[nm.cps.toList.getD i 0]⟩, .int st.2.1, .int (numOf (sts.take i))]) nt)).tk (TK.lst (o := .lst (ys ++ [.ref t])) hD2)).append (.cons (TD.tk (TK.lst hD2) (TD.tup (ds := [.str "move", .int st.1, .str (chN nm i), .int st.2.1, .int (numOf (sts.take i))]) upd_same (.cons (.str _) (.cons (.int _) (.cons (.str _) (.cons (.int _) (.cons (.int _) .nil))))))) .nil)
        have hz2 := TK.lst (o := .lst (ys ++ [.ref t])) hD2 _ _ (TK.new (o := .tup [.str "move", .int st.1, .str ⟨#[nm.cps.toList.getD i 0]⟩, .int st.2.1, .int (numOf (sts.take i))]) nt _ _ hz)
        have hD3 := upd_same (H := upd H1 t (.tup [.str "move", .int st.1, .str ⟨#[nm.cps.toList.getD i 0]⟩, .int st.2.1, .int (numOf (sts.take i))])) (a := D) (o := .lst (ys ++ [.ref t]))
        have hp' : ¬ st.1 = 0 := fun z => hp (by rw [z])
        have hL : stS nm i (numOf (sts.take i)) st = [Sm.mov st.1 (chN nm i) st.2.1 (numOf (sts.take i))] ++ (if st.2.2 = 0 then [] else [Sm.shw (st.2.2 % 3) (vrN nm i)]) := by unfold stS; rw [if_neg hp']
        have en : numOf (sts.take i) + (if st.1 = 0 then 0 else 1) = numOf (sts.take i) + 1 := by rw [if_neg hp']
        revert K2 hy2 hz2 hD3
        generalize upd (upd H1 t (.tup [.str "move", .int st.1, .str ⟨#[nm.cps.toList.getD i 0]⟩, .int st.2.1, .int (numOf (sts.take i))])) D (.lst (ys ++ [.ref t])) = H2
        intro K2 hy2 hz2 hD3
        rw [hL, en, datas_append, ← List.append_assoc]
        have hyl2 : (ys ++ [V.ref t]).length ≤ 2 * i + 1 := by rw [List.length_append]; show ys.length + 1 ≤ _; omega
        refine ⟨_, rfl, _, _, _, _, rfl, rfl, SqT.of hz2, rfl, rfl, _, rfl, iteN (fun hs => ?_) (fun hs => ?_)⟩
        · refine ⟨_, rfl, .inl ⟨rfl, _, SqL.of hD3⟩, _, rfl, _, _, _, _, rfl, rfl, SqT.of hz2, rfl, .inl ⟨_, rfl, _, _, rfl, rfl, by show (0 : Int) < 3; decide, _, rfl, _, rfl, _, _, _, rfl, rfl, hnm, ch, by show 2 ≤ sizeLine; decide, fun t2 n2 => ⟨by show 3 ≤ sizeLine; decide, fun t3 n3 => ?_⟩⟩⟩
          have g1 := TK.new (o := .tup [.str "variable", .str ⟨#[nm.cps.toList.getD i 0]⟩]) n2
          have g2 := g1.trans (TK.new (o := .tup [.str "show", .int (st.2.2 % 3), .ref t2]) n3)
          have hD5 : upd (upd H2 t2 (.tup [.str "variable", .str ⟨#[nm.cps.toList.getD i 0]⟩])) t3 (.tup [.str "show", .int (st.2.2 % 3), .ref t2]) D = some (.lst (ys ++ [.ref t])) := by
            have h := ne_of_none hD3 n2
            have h2 := ne_of_none (H := upd H2 t2 (.tup [.str "variable", .str ⟨#[nm.cps.toList.getD i 0]⟩])) (by rw [upd_ne h]; exact hD3) n3
            rw [upd_ne h2, upd_ne h]; exact hD3
          refine ⟨D, _, _, rfl, rfl, hD5, smallL (by omega), ?_⟩
          rw [if_neg (fun z => hs (by rw [z]))]
          refine ⟨_, _, _, rfl, upd_same, by rw [List.length_append]; show (ys ++ [V.ref t]).length + 1 ≤ _; omega, ((hy2.tk g2).tk (TK.lst hD5)).append (.cons (TD.tk (TK.lst hD5) ?_) .nil), ((K2.then_new n2).then_new n3).then_own nD⟩
          exact .tup upd_same (.cons (.str _) (.cons (.int _) (.cons ((TD.tup (ds := [.str "variable", .str (chN nm i)]) upd_same (.cons (.str _) (.cons (.str _) .nil))).tk (TK.new n3)) .nil)))
        · rw [if_pos (V.int.inj hs)]
          exact ⟨_, _, _, rfl, hD3, by omega, by rw [show datas ([] : List Sm) = [] from rfl, List.append_nil]; exact hy2, K2⟩
    · rintro σ H1 ⟨ys, o7, o8, rfl, hD, hyl, hy, K1⟩
      rw [Int.toNat_natCast, hxl] at hy hyl
      have hD0 : D ≠ a := fun z => by rw [z, ha] at nD; cases nD
      refine ⟨_, rfl, a, xs, sts, rfl, K1 _ _ ha (by simp), hx.tk K1.tk, hG, by omega, fun Lp ps H2 nLp nps hLp hP K2 => ?_⟩
      have hD2 := K2 _ _ hD (by simp)
      have hps := paired_len hP
      have hDps : D ∉ ps := fun z => by rw [nps D z] at hD; cases hD
      have hDL : Lp ≠ D := fun z => by rw [z, hD] at nLp; cases nLp
      obtain ⟨pl, pe⟩ := pathsZ_ok (fun q hq => (hG.ok q hq).2.2.1) sts.length
      rw [List.take_length] at pl pe
      have hpr := hG.pr
      change PA H2 ps (pathsZ (szs sts)) at hP
      change ps.length = (pathsZ (szs sts)).length at hps
      change ((pathsZ (szs sts)).length : Int) = _ at pl
      change ∀ p ∈ pathsZ (szs sts), _ at pe
      refine ⟨_, rfl, _, _, rfl, .inl (SqL.of hLp), _, rfl, by rw [List.length_map]; omega, by rw [List.length_map]; omega, for_range (lo := 0) (n := (((ps.map V.ref).length : Nat) : Int).toNat) (fun (i : Nat) (σ : List (Option V)) (H' : Hp) => ∃ (ys : List V) (o6 o7 o10 o11 o12 : Option V), σ = [some (.ref a), some (.ref pa), some (.str nm), some (.int 0), some (.str op), some (.ref D), o6, o7, o8, some (.ref Lp), o10, o11, o12] ∧ H' D = some (.lst ys) ∧ ys.length ≤ 2 * sts.length + i ∧ TDs H' ys (datas (headB nm sts sts.length ++ payB nm op paid (pathsZ (szs sts)) sts.length i)) ∧ H' Lp = some (.lst (ps.map V.ref)) ∧ PA H' ps (pathsZ (szs sts)) ∧ Keep [] H H') ⟨ys, _, _, _, _, _, rfl, hD2, by omega, by rw [show payB nm op paid (pathsZ (szs sts)) sts.length 0 = [] from rfl, List.append_nil]; exact hy.tk K2.tk, hLp, hP, K1.trans K2⟩ ?_ ?_⟩
      · rintro i σ H3 hi ⟨ys, o6, o7, o10, o11, o12, rfl, hD, hyl, hy, hLp, hP, K3⟩
        rw [Int.toNat_natCast, List.length_map] at hi
        have e0 : (0 : Int) + (i : Int) = (i : Int) := by omega
        rw [e0]
        have hpi : paid[i]? = some paid[i] := List.getElem?_eq_getElem (by omega)
        have hpd : paid.getD i 0 = paid[i] := by rw [List.getD_eq_getElem?_getD, hpi]; rfl
        have apa : atI (paid.map V.int) (i : Int) = some (.int paid[i]) := atI_nat (by rw [List.getElem?_map, hpi]; rfl)
        generalize paid[i] = c at hpd apa
        have hpa3 := K3 _ _ hpa (by simp)
        have hpsi : ps[i]? = some ps[i] := List.getElem?_eq_getElem hi
        obtain ⟨path, hpath, hpp⟩ := paired_at hP hpsi
        have plen := pe path (List.mem_of_getElem? hpath)
        refine ⟨_, rfl, _, rfl, _, _, _, _, rfl, rfl, SqL.of hpa3, apa, ?_⟩
        refine ⟨_, rfl, by show 2 ≤ sizeLine; decide, fun t nt => ?_⟩
        have hop' : ¬ V.str op = V.str "" := fun z => hop (V.str.inj z)
        refine ⟨_, rfl, rfl, _, rfl, iteNT hop' ?_⟩
        refine ⟨_, rfl, _, rfl, by show 2 ≤ sizeLine; decide, fun t2 n2 => ⟨by show 4 ≤ sizeLine; decide, fun t3 n3 => ?_⟩⟩
        have M1 := Keep.new (W := []) (o := .tup [.str "number", .int (if c < 0 then -c else c)]) nt
        have M2 := Keep.new (W := []) (o := .tup [.str "number", .int 0]) n2
        have M3 := Keep.new (W := []) (o := .tup [.str "pick", .str op, .ref t, .ref t2]) n3
        have M13 := (M1.trans M2).trans M3
        have v0 : TD (upd (upd (upd H3 t (.tup [.str "number", .int (if c < 0 then -c else c)])) t2 (.tup [.str "number", .int 0])) t3 (.tup [.str "pick", .str op, .ref t, .ref t2])) (.ref t3) (valB nm op c path 0) :=
          .tup upd_same (.cons (.str _) (.cons (.str _) (.cons (TD.tup (ds := [.str "number", .int _]) (M3 _ _ (M2 _ _ upd_same (by simp)) (by simp)) (.cons (.str _) (.cons (.int _) .nil))) (.cons (TD.tup (ds := [.str "number", .int _]) (M3 _ _ upd_same (by simp)) (.cons (.str _) (.cons (.int _) .nil))) .nil))))
        revert v0 M13
        generalize upd (upd (upd H3 t (.tup [.str "number", .int (if c < 0 then -c else c)])) t2 (.tup [.str "number", .int 0])) t3 (.tup [.str "pick", .str op, .ref t, .ref t2]) = H4
        intro M13 v0
        have hxs4 := SqL.of (K := K) (M13 _ _ (K3 _ _ ha (by simp)) (by simp))
        refine ⟨_, rfl, _, _, rfl, .inl hxs4, _, rfl, by omega, by omega, for_range (lo := 0) (n := ((xs.length : Nat) : Int).toNat) (fun (j : Nat) (σ : List (Option V)) (H' : Hp) => ∃ (v : V) (o11 : Option V), σ = [some (.ref a), some (.ref pa), some (.str nm), some (.int 0), some (.str op), some (.ref D), o6, some (.int i), o8, some (.ref Lp), some v, o11, o12] ∧ TD H' v (valB nm op c path j) ∧ Keep [] H3 H') ⟨_, _, rfl, v0, M13⟩ ?_ ?_⟩
        · rintro j σ H5 hj ⟨v, o11, rfl, hv, M5⟩
          rw [Int.toNat_natCast] at hj
          have e0 : (0 : Int) + (j : Int) = (j : Int) := by omega
          rw [e0]
          have hpj : path[j]? = some path[j] := List.getElem?_eq_getElem (by omega)
          have hpjd : path.getD j 0 = path[j] := by rw [List.getD_eq_getElem?_getD, hpj]; rfl
          have apj : atI (path.map V.int) (j : Int) = some (.int path[j]) := atI_nat (by rw [List.getElem?_map, hpj]; rfl)
          refine ⟨_, rfl, _, rfl, _, _, _, rfl, rfl, hnm, chA (by omega), by show 2 ≤ sizeLine; decide, fun u1 m1 => ?_⟩
          have N1 := Keep.new (W := []) (o := .tup [.str "variable", .str ⟨#[nm.cps.toList.getD j 0]⟩]) m1
          have hLp5 := N1 _ _ (M5 _ _ hLp (by simp)) (by simp)
          have hpp5 := N1 _ _ (M5 _ _ hpp (by simp)) (by simp)
          refine ⟨_, rfl, _, rfl, _, _, _, _, rfl, rfl, SqL.of hLp5, atI_nat (by rw [List.getElem?_map, hpsi]; rfl), _, rfl, _, _, _, _, rfl, rfl, SqL.of hpp5, apj, by show 2 ≤ sizeLine; decide, fun u2 m2 => ⟨by show 3 ≤ sizeLine; decide, fun u3 m3 => ⟨_, rfl, by show 3 ≤ sizeLine; decide, fun u4 m4 => ?_⟩⟩⟩
          have N2 := Keep.new (W := []) (o := .tup [.str "number", .int path[j]]) m2
          have N3 := Keep.new (W := []) (o := .tup [.str "=", .ref u1, .ref u2]) m3
          have N4 := Keep.new (W := []) (o := .tup [.str "*", .ref u3, v]) m4
          have NA := ((N1.trans N2).trans N3).trans N4
          refine ⟨_, _, rfl, ?_, M5.trans NA⟩
          show TD _ _ (.tuple [.str "*", .tuple [.str "=", vrN nm j, numD (path.getD j 0)], valB nm op c path j])
          rw [hpjd]
          exact .tup upd_same (.cons (.str _) (.cons (TD.tup (N4 _ _ upd_same (by simp)) (.cons (.str _) (.cons (TD.tup (ds := [.str "variable", .str (chN nm j)]) (N4 _ _ (N3 _ _ (N2 _ _ upd_same (by simp)) (by simp)) (by simp)) (.cons (.str _) (.cons (.str _) .nil))) (.cons (TD.tup (ds := [.str "number", .int _]) (N4 _ _ (N3 _ _ upd_same (by simp)) (by simp)) (.cons (.str _) (.cons (.int _) .nil))) .nil)))) (.cons (hv.tk NA.tk) .nil)))
        · rintro σ H5 ⟨v, o11, rfl, hv, M5⟩
          rw [Int.toNat_natCast, hxl] at hv
          have hpa5 := M5 _ _ hpa3 (by simp)
          have hD5 := M5 _ _ hD (by simp)
          have e1 : payB nm op paid (pathsZ (szs sts)) sts.length (i + 1) = payB nm op paid (pathsZ (szs sts)) sts.length i ++ [payS nm op paid (pathsZ (szs sts)) sts.length i] := by
            unfold payB
            rw [List.range_succ, List.map_append]; rfl
          have hpg : (pathsZ (szs sts)).getD i [] = path := by rw [List.getD_eq_getElem?_getD, hpath]; rfl
          have hps0 : payS nm op paid (pathsZ (szs sts)) sts.length i = if c < 0 then Sm.tak (valB nm op c path sts.length) else Sm.pay (valB nm op c path sts.length) := by
            unfold payS; rw [hpd, hpg]
          rw [e1, hps0, ← List.append_assoc, datas_append]
          have hDLp : upd H5 D (.lst []) Lp = some (.lst (ps.map V.ref)) := by rw [upd_ne hDL]; exact M5 _ _ hLp (by simp)
          refine ⟨_, rfl, _, rfl, _, _, _, _, rfl, rfl, SqL.of hpa5, apa, _, _, rfl, rfl, _, rfl, iteD (fun hc => ?_) (fun hc => ?_)⟩
          all_goals
            refine ⟨_, rfl, .inl ⟨rfl, _, SqL.of hD5⟩, _, rfl, _, rfl, by show 2 ≤ sizeLine; decide, fun t nt => ?_⟩
            have gD := fun {o : HO} => Keep.new (W := []) (o := o) nt _ _ hD5 (by simp)
            have gL := fun {o : HO} => Keep.new (W := []) (o := o) nt _ _ (M5 _ _ hLp (by simp)) (by simp)
            refine ⟨D, _, _, rfl, rfl, gD, smallL (by omega), ?_⟩
            refine ⟨_, _, _, _, _, _, rfl, upd_same, by rw [List.length_append]; show ys.length + 1 ≤ _; omega, (((hy.tk M5.tk).tk (TK.new nt)).tk (TK.lst gD)).append (.cons (TD.tk (TK.lst gD) ?_) .nil), by rw [upd_ne hDL]; exact gL, ((hP.keep M5).keep (Keep.new nt)).own hDps, ((K3.trans M5).then_new nt).then_own nD⟩
          · rw [if_pos hc]
            exact .tup upd_same (.cons (.str _) (.cons (hv.tk (TK.new nt)) .nil))
          · rw [if_neg hc]
            exact .tup upd_same (.cons (.str _) (.cons (hv.tk (TK.new nt)) .nil))
      · rintro σ H3 ⟨ys, o6, o7, o10, o11, o12, rfl, hD, hyl, hy, hLp, hP, K3⟩
        rw [Int.toNat_natCast, List.length_map, hps] at hy
        exact ⟨_, rfl, D, ys, rfl, .inl ⟨SqL.of hD, fun t nt => k t _ (.tup upd_same (hy.tk (TK.new nt))) (K3.then_new nt)⟩⟩
end

def flipS : Sm → Sm
  | .pay e => .tak e
  | .tak e => .pay e
  | s => s
theorem stgD_turn {sts : List Stg} {k : Nat} (h : k < sts.length) : stgD (sts.map turnS) k = turnS (stgD sts k) := by
  unfold stgD
  rw [List.getElem?_map, List.getElem?_eq_getElem h]; rfl
theorem szs_turn (sts : List Stg) : szs (sts.map turnS) = szs sts := by
  unfold szs
  rw [List.map_map]; rfl
theorem numOf_turn {sts : List Stg} (h : ∀ s ∈ sts, 0 ≤ s.1 ∧ s.1 ≤ 2 ∧ 1 ≤ s.2.1 ∧ 0 ≤ s.2.2 ∧ s.2.2 ≤ 3) : numOf (sts.map turnS) = numOf sts := by
  unfold numOf
  rw [List.map_map]
  congr 1
  refine List.map_congr_left fun s hs => ?_
  have := h s hs
  show (if (turnS s).1 = 0 then (0 : Int) else 1) = if s.1 = 0 then 0 else 1
  unfold turnS
  by_cases z : s.1 = 0
  · simp [z]
  · simp only [if_neg z]
    rw [if_neg (by omega)]
theorem stS_turn {nm : Str} {k : Nat} {num : Int} {s : Stg} (h : 0 ≤ s.1 ∧ s.1 ≤ 2 ∧ 1 ≤ s.2.1 ∧ 0 ≤ s.2.2 ∧ s.2.2 ≤ 3) : (stS nm k num (turnS s)).map flipS = (stS nm k num s).map Sm.sw := by
  obtain ⟨p, z, sh⟩ := s
  simp only at h
  unfold stS turnS
  rw [List.map_append, List.map_append]
  congr 1
  · by_cases e : p = 0
    · simp [e, flipS, Sm.sw]
    · simp only [if_neg e]
      rw [if_neg (by omega)]
      simp [flipS, Sm.sw]
  · have h4 : sh = 0 ∨ sh = 1 ∨ sh = 2 ∨ sh = 3 := by omega
    rcases h4 with rfl | rfl | rfl | rfl <;> simp [flipS, Sm.sw]
theorem block_turn {nm op : Str} {paid : List Int} {sts : List Stg} (h : ∀ s ∈ sts, 0 ≤ s.1 ∧ s.1 ≤ 2 ∧ 1 ≤ s.2.1 ∧ 0 ≤ s.2.2 ∧ s.2.2 ≤ 3) : (blockOf nm op paid (sts.map turnS)).map flipS = sws (blockOf nm op paid sts) := by
  unfold blockOf
  rw [sws_map, List.map_append, List.map_append, szs_turn, List.length_map]
  congr 1
  · unfold headB
    rw [List.map_flatMap, List.map_flatMap]
    have key : ∀ k ∈ List.range sts.length, (stS nm k (numOf ((sts.map turnS).take k)) (stgD (sts.map turnS) k)).map flipS = (stS nm k (numOf (sts.take k)) (stgD sts k)).map Sm.sw := by
      intro k hk
      have hk := List.mem_range.mp hk
      rw [stgD_turn hk, ← List.map_take, numOf_turn fun s hs => h s (List.mem_of_mem_take hs)]
      refine stS_turn (h _ ?_)
      unfold stgD
      rw [List.getElem?_eq_getElem hk]
      exact List.getElem_mem hk
    generalize List.range sts.length = L at key
    induction L with
    | nil => rfl
    | cons k l ih => rw [List.flatMap_cons, List.flatMap_cons, key k (List.mem_cons_self ..), ih fun q hq => key q (List.mem_cons_of_mem _ hq)]
  · unfold payB
    rw [List.map_map, List.map_map]
    refine List.map_congr_left fun k _ => ?_
    show flipS (payS _ _ _ _ _ k) = Sm.sw (payS _ _ _ _ _ k)
    unfold payS
    split <;> rfl
theorem GoodS.turn {sts : List Stg} (h : GoodS sts) : GoodS (sts.map turnS) := by
  refine ⟨fun s hs => ?_, ?_⟩
  · obtain ⟨q, hq, rfl⟩ := List.mem_map.mp hs
    have := h.ok q hq
    unfold turnS
    simp only
    refine ⟨?_, ?_, this.2.2.1, ?_, ?_⟩ <;> split <;> omega
  · have e : prodS (sts.map turnS) = prodS sts := by
      unfold prodS
      rw [List.map_map]; rfl
    rw [e]; exact h.pr
theorem Fit.sw : ∀ {m : Nat} {l : List Sm}, Fit m l → Fit m (sws l)
  | 0, _, h => h.elim
  | m + 1, l, h => by
    refine ⟨by rw [sws_map, List.length_map]; exact h.1, fun s hs => ?_⟩
    rw [sws_map] at hs
    obtain ⟨q, hq, rfl⟩ := List.mem_map.mp hs
    have hq := h.2 q hq
    cases q with
    | brn i t a b => exact ⟨hq.1.sw, hq.2.sw⟩
    | shw pl e =>
      simp only [Sm.sw]
      by_cases z : pl = 0
      · simp only [if_pos z]; exact hq
      · simp only [if_neg z]
        simp only at hq ⊢
        omega
    | _ => trivial
mutual
theorem Sm.sw_lay : ∀ s : Sm, s.sw.data.canLay0 = s.data.canLay0 ∧ s.sw.data.depth = s.data.depth
  | .drw .. => ⟨rfl, rfl⟩
  | .mov .. => by simp [Sm.sw, Sm.data, PyData.canLay0, PyData.canLayAll0, PyData.depth, PyData.depthAll]
  | .shw pl e => by
    by_cases z : pl = 0
    · simp [Sm.sw, z]
    · simp [Sm.sw, z, Sm.data, PyData.canLay0, PyData.canLayAll0, PyData.depth, PyData.depthAll]
  | .pay e => by simp [Sm.sw, Sm.data, PyData.canLay0, PyData.canLayAll0, PyData.depth, PyData.depthAll, (by decide +kernel : PyData.strOk "pay" = true), (by decide +kernel : PyData.strOk "take" = true)]
  | .tak e => by simp [Sm.sw, Sm.data, PyData.canLay0, PyData.canLayAll0, PyData.depth, PyData.depthAll, (by decide +kernel : PyData.strOk "pay" = true), (by decide +kernel : PyData.strOk "take" = true)]
  | .set .. => ⟨rfl, rfl⟩
  | .brn i t a b => by
    obtain ⟨a1, a2⟩ := sws_lay a
    obtain ⟨b1, b2⟩ := sws_lay b
    simp [Sm.sw, Sm.data, PyData.canLay0, PyData.canLayAll0, PyData.depth, PyData.depthAll, a1, a2, b1, b2]
theorem sws_lay : ∀ l : List Sm, PyData.canLayAll0 (datas (sws l)) = PyData.canLayAll0 (datas l) ∧ PyData.depthAll (datas (sws l)) = PyData.depthAll (datas l)
  | [] => ⟨rfl, rfl⟩
  | s :: r => by
    obtain ⟨a1, a2⟩ := Sm.sw_lay s
    obtain ⟨b1, b2⟩ := sws_lay r
    simp [sws, datas, PyData.canLayAll0, PyData.depthAll, a1, a2, b1, b2]
end
theorem rounds_lay (l : List (Str × List Sm)) : PyData.canLayAll0 ((l.map swR).map dR) = PyData.canLayAll0 (l.map dR) ∧ PyData.depthAll ((l.map swR).map dR) = PyData.depthAll (l.map dR) := by
  induction l with
  | nil => exact ⟨rfl, rfl⟩
  | cons r l ih =>
    obtain ⟨a1, a2⟩ := sws_lay r.2
    simp [swR, dR, PyData.canLay0, PyData.canLayAll0, PyData.depth, PyData.depthAll, a1, a2, ih.1, ih.2]
    have i1 := ih.1
    have i2 := ih.2
    simp [swR, dR, PyData.canLay0, PyData.canLayAll0, PyData.depth, PyData.depthAll] at i1 i2
    exact ⟨by rw [i1], by rw [i2]⟩
theorem shd_iff {l : List PyData} : Shd l ↔ PyData.canLayAll0 l = true ∧ PyData.depthAll l + 1 ≤ 64 := by
  unfold Shd SeqAt.shaped
  rw [Bool.and_eq_true, decide_eq_true_iff]
  simp only [PyData.canLay0, PyData.depth]
theorem shd_sw {l : List (Str × List Sm)} (h : Shd (l.map dR)) : Shd ((l.map swR).map dR) := by
  obtain ⟨a, b⟩ := rounds_lay l
  rw [shd_iff] at h ⊢
  rw [a, b]; exact h

def sp_refused (C : Addr) : Sp := fun as H Q _ => ∃ g os vs rs l ns, as = [.ref g, .ref l] ∧ GameAt C H g (List.map dO os) vs rs ∧ H l = some (.lst (List.map V.str ns)) ∧ os.length ≤ 100 ∧ ns.length ≤ 100 ∧ okN os ns = false ∧ ∀ H', Keep [] H H' → Q (.bl true) H'
def sp_swaps (C : Addr) (m : Nat) : Sp := fun as H Q _ => ∃ (a pa : Addr) (xs : List V) (sts : List Stg) (paid : List Int) (nm op : Str) (g : Addr) (os vs : List PyData) (title : Str) (more : List (Str × List Sm)) (ml : Addr) (ys : List V), as = [.ref a, .ref pa, .str nm, .str op, .ref g, .ref ml] ∧ H a = some (.lst xs) ∧ TDs H xs (sts.map dS) ∧ GoodS sts ∧ sts.length ≤ 3 ∧ H pa = some (.lst (paid.map V.int)) ∧ paid.length = (pathsZ (szs sts)).length ∧ op ≠ "" ∧ nm.cps.toList.length = 3 ∧ nm.length ≤ 1000 ∧
  GameAt C H g os vs (((title, blockOf nm op paid sts) :: more).map dR) ∧ H ml = some (.lst ys) ∧ TDs H ys (more.map dR) ∧ (∀ r ∈ (title, blockOf nm op paid sts) :: more, Fit m r.2) ∧ more.length ≤ 50 ∧ Shd os ∧ Shd vs ∧ Shd (((title, blockOf nm op paid sts) :: more).map dR) ∧ ∀ H', Keep [] H H' → Q (.bl true) H'
theorem word_pay {s : Sm} (h : s.word = "pay") : ∃ e, s = .pay e := by
  cases s with
  | pay e => exact ⟨e, rfl⟩
  | brn j t a b => exact absurd h (by cases j <;> simp only [Sm.word, wd] <;> decide)
  | drw => exact absurd h (by simp only [Sm.word]; decide)
  | mov => exact absurd h (by simp only [Sm.word]; decide)
  | shw => exact absurd h (by simp only [Sm.word]; decide)
  | tak => exact absurd h (by simp only [Sm.word]; decide)
  | set => exact absurd h (by simp only [Sm.word]; decide)
theorem word_tak {s : Sm} (h : s.word = "take") : ∃ e, s = .tak e := by
  cases s with
  | tak e => exact ⟨e, rfl⟩
  | brn j t a b => exact absurd h (by cases j <;> simp only [Sm.word, wd] <;> decide)
  | drw => exact absurd h (by simp only [Sm.word]; decide)
  | mov => exact absurd h (by simp only [Sm.word]; decide)
  | shw => exact absurd h (by simp only [Sm.word]; decide)
  | pay => exact absurd h (by simp only [Sm.word]; decide)
  | set => exact absurd h (by simp only [Sm.word]; decide)
theorem flip_not {s : Sm} (h1 : s.word ≠ "pay") (h2 : s.word ≠ "take") : flipS s = s := by
  cases s with
  | pay e => exact absurd rfl h1
  | tak e => exact absurd rfl h2
  | _ => rfl
theorem block_len (nm op : Str) (paid : List Int) (sts : List Stg) (hG : GoodS sts) (h3 : sts.length ≤ 3) : (blockOf nm op paid sts).length ≤ 100 := by
  have h1 : (headB nm sts sts.length).length ≤ 2 * sts.length := by
    unfold headB
    rw [List.length_flatMap]
    have : ∀ L : List Nat, (L.map fun k => (stS nm k (numOf (sts.take k)) (stgD sts k)).length).sum ≤ 2 * L.length := by
      intro L
      induction L with
      | nil => simp
      | cons k l ih =>
        rw [List.map_cons, List.sum_cons, List.length_cons]
        have : (stS nm k (numOf (sts.take k)) (stgD sts k)).length ≤ 2 := by
          unfold stS
          rw [List.length_append]
          split <;> split <;> simp
        omega
    have := this (List.range sts.length)
    rw [List.length_range] at this
    exact this
  obtain ⟨pl, _⟩ := pathsZ_ok (fun q hq => (hG.ok q hq).2.2.1) sts.length
  rw [List.take_length] at pl
  change ((pathsZ (szs sts)).length : Int) = _ at pl
  have := hG.pr
  unfold blockOf payB
  rw [List.length_append, List.length_map, List.length_range]
  omega
section
variable {P : Program} {w : World} {K : PySem.W.Frag} {mg : Str → Option Value} {base : Heap} {C_Game : Addr} {C_GameError : Addr} {C_BadText : Addr} {C_BadMove : Addr} {C_BadEdit : Addr} {f_BadEdit___init : Addr}
theorem ok_refused {f : Addr} {fd : FuncData} (D : C8.Def K mg "_law_refused" s_law_refused f fd) (b : Binds K fd ["game", "names"] []) (T : Txt K mg C_Game C_GameError C_BadText C_BadMove C_BadEdit) (c_switched : CalX P w K mg base 3 "switched" (sp_switched C_Game C_BadEdit) []) : C8.Cal P w K mg base 4 "_law_refused" (sp_refused C_Game) [] := by
  refine cal0 D b .nil sc_law_refused (fun vs H Q E h => ?_) (fun cdv A outer s H vs Q E hr h => ?_)
  · obtain ⟨g, os, vs, rs, l, ns, rfl, _⟩ := h
    rfl
  · obtain ⟨g, os, vs, rs, l, ns, rfl, G, hl, l1, l2, bad, k⟩ := h
    refine ⟨_, (pss_cons (ps_try_as (i := 2) rfl rfl sc_law_refused.nd rfl rfl ⟨rfl, by decide, .inl T.m_GameError⟩ takes0 (fun W pn xe tk ps =>
  (pss_one (ps_expr (pe_cS c_switched hr (by first | exact Nat.le_refl _ | decide | omega) rfl tk (pa_cons (pv 0) (pa_cons (pv 1) pa_nil))))))
  (fun a oe cls d pn hz hf =>
  (pss_one (ps_ret (pe_and (pe_callB (call_isX hz hf) (by rfl) T.n_isinstance bo_isinstance (pa_cons (pv 2) (pa_cons (pe_glob (v := .ref _) rfl T.m_BadEdit rfl) pa_nil))) (pe_and (pe_not (pe_callB (call_isXT hz hf) (by rfl) T.n_isinstance bo_isinstance (pa_cons (pv 2) (pa_cons (pe_tup (pa_cons (pe_glob (v := .ref _) rfl T.m_BadMove rfl) (pa_cons (pe_glob (v := .ref _) rfl T.m_BadText rfl) pa_nil))) pa_nil)))) (pe_one (pe_cmpR op_eq (pe_xf T.f_BadEdit T.no_BadEdit hz hf (pv 2)) pe_str (nomark _)))))))))
(pss_one (ps_ret pe_bl))), ?_⟩
    refine ⟨_, rfl, _, rfl, g, os, vs, rs, l, ns, rfl, G, hl, l1, l2, (fun z => by rw [bad] at z; cases z), fun _ d H1 nd hd K1 => ?_⟩
    refine ⟨true, PySem.W.exm_ref T.gE T.gH T.gT T.gS, fun _ a ha => ?_, fun q => nomatch q⟩
    refine ⟨_, rfl, _, _, d, _, true, rfl, rfl, rfl, T.e_BadEdit, hd, kitSelf, _, rfl, iteT ?_⟩
    refine ⟨_, rfl, by show 2 ≤ sizeLine; decide, fun tp ntp => ?_⟩
    have K2 := Keep.new (W := []) (o := .tup [.ref C_BadMove, .ref C_BadText]) ntp
    have hd2 := K2 _ _ hd (by simp)
    refine ⟨_, tp, d, [C_BadMove, C_BadText], _, false, rfl, rfl, rfl, T.e_BadEdit, hd2, upd_same, T.kX, _, rfl, _, rfl, iteT ?_⟩
    refine ⟨_, rfl, rfl, rfl, d, _, _, rfl, hd2, rfl, rfl, ?_⟩
    rw [decide_eq_true rfl]
    exact k _ (K1.trans K2)
theorem ok_swaps {f : Addr} {fd : FuncData} (D : C8.Def K mg "_law_swaps" s_law_swaps f fd) (b : Binds K fd ["stages", "paid", "names", "option", "game", "more"] []) (T : Txt K mg C_Game C_GameError C_BadText C_BadMove C_BadEdit) {m k : Nat} (hk : 2 ≤ k) (c_swapped : C8.Cal P w K mg base k "swapped" (sp_swapped C_Game m) []) (c_law_block : C8.Cal P w K mg base 2 "_law_block" sp_block []) (c_law_turned : C8.Cal P w K mg base 1 "_law_turned" sp_turned []) (c_law_swapped : C8.Cal P w K mg base k "_law_swapped" (sp_sw m) []) (c_law_is : C8.Cal P w K mg base 1 "_law_is" (sp_is C_Game) []) (c_Game_eq : Own P w K mg base 1 C_Game "__eq__" (sp_geq C_Game)) : C8.Cal P w K mg base (k + 1) "_law_swaps" (sp_swaps C_Game m) [] := by
  refine cal0 D b .nil sc_law_swaps (fun vs H Q E h => ?_) (fun cdv A outer s H vs Q E hr h => ?_)
  · obtain ⟨a, pa, xs, sts, paid, nm, op, g, os, vs', title, more, ml, ys, rfl, _⟩ := h
    rfl
  · obtain ⟨a, pa, xs, sts, paid, nm, op, g, os, vs', title, more, ml, ys, rfl, ha, hx, hG, h3, hpa, hpl, hop, hn, hn2, G, hml, hys, hF, hmm, s1, s2, s3, kq⟩ := h
    refine ⟨_, (pss_cons (ps_set (i := 6) sc_law_swaps.nd rfl (by first | exact Or.inl rfl | exact Or.inr rfl) (pe_c c_swapped hr (by first | exact Nat.le_refl _ | decide | omega) rfl (pa_cons (pv 4) pa_nil)))
(pss_cons (ps_set (i := 7) sc_law_swaps.nd rfl (by first | exact Or.inl rfl | exact Or.inr rfl) (pe_c c_law_block hr (by first | exact Nat.le_refl _ | decide | omega) rfl (pa_cons (pe_c c_law_turned hr (by first | exact Nat.le_refl _ | decide | omega) rfl (pa_cons (pv 0) pa_nil)) (pa_cons (pv 1) (pa_cons (pv 2) (pa_cons pe_int (pa_cons (pv 3) pa_nil)))))))
(pss_cons (ps_set (i := 8) sc_law_swaps.nd rfl (by first | exact Or.inl rfl | exact Or.inr rfl) (pe_lst pa_nil))
(pss_cons (ps_for PassesOwn.never rfl (pi_tup (pv 7)) (pg_name (i := 9) sc_law_swaps.nd rfl (by first | exact Or.inl rfl | exact Or.inr rfl))
  (pss_one (ps_if (pt_cmpR op_eq (pe_ix ix_tup (pv 9) pe_int (fun _ _ => rfl)) pe_str (nomark _))
    (pss_one (ps_expr (pe_bm PySem.F.plainAttrs_list PySem.F.slot_list_append PySem.F.type_list_append mt_append (pv 8) (pa_cons (pe_tup (pa_cons pe_str (pa_cons (pe_ix ix_tup (pv 9) pe_int (fun _ _ => rfl)) pa_nil))) pa_nil))))
    (pss_one (ps_if (pt_cmpR op_eq (pe_ix ix_tup (pv 9) pe_int (fun _ _ => rfl)) pe_str (nomark _))
      (pss_one (ps_expr (pe_bm PySem.F.plainAttrs_list PySem.F.slot_list_append PySem.F.type_list_append mt_append (pv 8) (pa_cons (pe_tup (pa_cons pe_str (pa_cons (pe_ix ix_tup (pv 9) pe_int (fun _ _ => rfl)) pa_nil))) pa_nil))))
      (pss_one (ps_expr (pe_bm PySem.F.plainAttrs_list PySem.F.slot_list_append PySem.F.type_list_append mt_append (pv 8) (pa_cons (pv 9) pa_nil)))))))))
(pss_cons (ps_set (i := 10) sc_law_swaps.nd rfl (by first | exact Or.inl rfl | exact Or.inr rfl) (pe_op op_cat (pe_lst (pa_cons (pe_tup (pa_cons (pe_ix ix_tup (pe_ix ix_tup (pe_fld (pv 4) rfl) pe_int (fun _ _ => rfl)) pe_int (fun _ _ => rfl)) (pa_cons (pe_callTy call_tuple_of (by rfl) T.n_tuple bo_tuple (pa_cons (pv 8) pa_nil)) pa_nil))) pa_nil)) (pe_lc (own := [("row", 11)]) (g := gName 11) (tt := tYes) rfl sc_law_swaps.nd (pi_list (pv 5)) (blkOk_by (N := ["stages", "paid", "names", "option", "game", "more", "turned", "due", "block", "statement", "rounds", "row"]) (sc := fnScope s_law_swaps) (by decide +kernel)) (fun _ _ _ _ _ => pg_name (i := 11) sc_law_swaps.nd rfl (Or.inl rfl)) (fun _ _ _ _ _ => pts_nil) (fun _ _ _ _ _ => (pe_tup (pa_cons (pe_ix (ix_tupK (K := K)) (pv 11) pe_int (fun _ _ => rfl)) (pa_cons (pe_c c_law_swapped hr (by first | exact Nat.le_refl _ | decide | omega) rfl (pa_cons (pe_ix (ix_tupK (K := K)) (pv 11) pe_int (fun _ _ => rfl)) pa_nil)) pa_nil)))))))
(pss_one (ps_ret (pe_and (pe_c c_law_is hr (by first | exact Nat.le_refl _ | decide | omega) rfl (pa_cons (pv 6) (pa_cons (pe_fld (pv 4) rfl) (pa_cons (pe_fld (pv 4) rfl) (pa_cons (pe_callTy call_tuple_of (by rfl) T.n_tuple bo_tuple (pa_cons (pv 10) pa_nil)) pa_nil))))) (pe_one (pe_cmpR (op_own c_Game_eq hr (by first | exact Nat.le_refl _ | decide | omega)) (pe_c c_swapped hr (by first | exact Nat.le_refl _ | decide | omega) rfl (pa_cons (pv 6) pa_nil)) (pv 4) (nomark _))))))))))), ?_⟩
    refine ⟨_, rfl, g, os, vs', _, rfl, G, hF, by rw [List.length_cons]; omega, fun T1 H1 GT K1 => ?_⟩
    refine ⟨_, rfl, a, xs, sts, rfl, K1 _ _ ha (by simp), hx.tk K1.tk, by omega, fun l ys1 H2 hl hy1 K2 => ?_⟩
    have K12 := K1.trans K2
    refine ⟨_, rfl, _, rfl, _, rfl, l, pa, ys1, sts.map turnS, paid, nm, op, rfl, hl, hy1, hG.turn, by rw [List.length_map]; exact h3, K12 _ _ hpa (by simp), by rw [szs_turn]; exact hpl, hop, hn, hn2, fun r H3 tr K3 => ?_⟩
    refine ⟨Nat.zero_le _, fun D1 nD1 => ?_⟩
    have K03 := K12.trans K3
    have K34 := Keep.new (W := []) (o := .lst []) nD1
    obtain ⟨bs, _, tbs, hbs⟩ := td_sq (K := K) tr
    have hbl := block_len nm op paid (sts.map turnS) hG.turn (by rw [List.length_map]; exact h3)
    have bt := block_turn (nm := nm) (op := op) (paid := paid) hG.ok
    generalize blockOf nm op paid (sts.map turnS) = B at tbs hbl bt tr
    have hbsl : bs.length = B.length := by rw [tbs.length, datas_map, List.length_map]
    refine ⟨_, rfl, r, rfl, ⟨_, SqT.of (K34 _ _ hbs (by simp))⟩, for_tup (K := K) (a := r) (xs := bs) (fun (i : Nat) (σ : List (Option V)) (H' : Hp) => ∃ (zs : List V) (o9 : Option V), σ = [some (.ref a), some (.ref pa), some (.str nm), some (.str op), some (.ref g), some (.ref ml), some (.ref T1), some (.ref r), some (.ref D1), o9, none, none] ∧ H' D1 = some (.lst zs) ∧ TDs H' zs (datas ((B.take i).map flipS)) ∧ Keep [] H3 H') ⟨[], none, rfl, upd_same, .nil, K34⟩ ?_ ?_ ?_⟩
    · rintro i σ H' _ ⟨zs, o9, rfl, _, _, k⟩
      exact SqT.of (k _ _ hbs (by simp))
    · rintro i x σ H' hxi ⟨zs, o9, rfl, hD, hz, k⟩
      obtain ⟨st, hst, hd⟩ := datas_get tbs hxi
      have hd := hd.tk k.tk
      obtain ⟨z, us, rfl, hzz, h0⟩ := st.form hd
      have hi : i < B.length := (List.getElem?_eq_some_iff.mp hst).1
      have lm : zs.length < sizeLine := by rw [hz.length, datas_map, List.length_map, List.length_map, List.length_take]; exact smallL (by omega)
      rw [take_snoc hst, List.map_append, datas_append]
      have fin : ∀ {H4 : Hp} {v : V}, H4 D1 = some (.lst zs) → TK H' H4 → Keep [] H3 H4 → TD H4 v (flipS st).data → ∃ (zs' : List V) (o9 : Option V), [some (.ref a), some (.ref pa), some (.str nm), some (.str op), some (.ref g), some (.ref ml), some (.ref T1), some (.ref r), some (.ref D1), some (.ref z), none, none] = [some (.ref a), some (.ref pa), some (.str nm), some (.str op), some (.ref g), some (.ref ml), some (.ref T1), some (.ref r), some (.ref D1), o9, none, none] ∧ upd H4 D1 (.lst (zs ++ [v])) D1 = some (.lst zs') ∧ TDs (upd H4 D1 (.lst (zs ++ [v]))) zs' (datas ((B.take i).map flipS) ++ datas ([st].map flipS)) ∧ Keep [] H3 (upd H4 D1 (.lst (zs ++ [v]))) := fun g1 g2 g3 g4 =>
        ⟨_, _, rfl, upd_same, ((hz.tk g2).tk (TK.lst g1)).append (.cons (g4.tk (TK.lst g1)) .nil), g3.then_own nD1⟩
      refine ⟨_, rfl, _, _, _, _, rfl, rfl, SqT.of hzz, h0, rfl, _, rfl, iteD (fun e => ?_) (fun e1 => ⟨_, rfl, _, _, _, _, rfl, rfl, SqT.of hzz, h0, rfl, _, rfl, iteD (fun e => ?_) (fun e2 => ?_)⟩)⟩
      · obtain ⟨d, rfl⟩ := word_pay (wd_ne e)
        obtain ⟨z', v0, v1, e', hz', d0, d1⟩ := td2 hd
        cases e'
        rw [hzz] at hz'
        cases hz'
        refine ⟨_, rfl, .inl ⟨rfl, _, SqL.of hD⟩, _, rfl, _, _, _, _, rfl, rfl, SqT.of hzz, rfl, by show 2 ≤ sizeLine; decide, fun t nt => ?_⟩
        have hD2 : upd H' t (.tup [.str "take", v1]) D1 = some (.lst zs) := by rw [upd_ne (ne_of_none hD nt)]; exact hD
        exact ⟨D1, _, _, rfl, rfl, hD2, lm, fin hD2 (TK.new nt) (k.then_new nt) (.tup upd_same (.cons (.str _) (.cons (d1.tk (TK.new nt)) .nil)))⟩
      · obtain ⟨d, rfl⟩ := word_tak (wd_ne e)
        obtain ⟨z', v0, v1, e', hz', d0, d1⟩ := td2 hd
        cases e'
        rw [hzz] at hz'
        cases hz'
        refine ⟨_, rfl, .inl ⟨rfl, _, SqL.of hD⟩, _, rfl, _, _, _, _, rfl, rfl, SqT.of hzz, rfl, by show 2 ≤ sizeLine; decide, fun t nt => ?_⟩
        have hD2 : upd H' t (.tup [.str "pay", v1]) D1 = some (.lst zs) := by rw [upd_ne (ne_of_none hD nt)]; exact hD
        exact ⟨D1, _, _, rfl, rfl, hD2, lm, fin hD2 (TK.new nt) (k.then_new nt) (.tup upd_same (.cons (.str _) (.cons (d1.tk (TK.new nt)) .nil)))⟩
      · exact ⟨_, rfl, .inl ⟨rfl, _, SqL.of hD⟩, _, rfl, D1, _, _, rfl, rfl, hD, lm, fin hD (fun _ _ h => h) k (by rw [flip_not (fun z => e1 (by rw [z])) (fun z => e2 (by rw [z]))]; exact hd)⟩
    · rintro σ H4 ⟨zs, o9, rfl, hD, hz, K4⟩
      rw [hbsl, List.take_length, bt] at hz
      have K04 := K03.trans K4
      obtain ⟨dx, oa, va, ra, hg, ta, tb, tc⟩ := (G.keep K04).ex
      obtain ⟨rcs, _, trc, hrc⟩ := td_sq (K := K) tc
      obtain ⟨rv, rrest, rfl, d0, _⟩ := trc.un
      obtain ⟨z0, u0, v0, rfl, hz0, e0, _⟩ := td2 d0
      cases td_str e0
      refine ⟨_, rfl, g, C_Game, dx, _, _, rfl, hg, T.cl_Game, T.a_Game_rounds, rfl, _, _, _, _, rfl, rfl, SqT.of hrc, atI_nat (j := 0) rfl, _, _, _, _, rfl, rfl, SqT.of hz0, atI_nat (j := 0) rfl, _, rfl, D1, zs, rfl, .inl ⟨SqL.of hD, fun t nt => ⟨by show 2 ≤ sizeLine; decide, fun t2 n2 => ⟨by show 1 ≤ sizeLine; decide, fun L nL => ?_⟩⟩⟩⟩
      have M1 := Keep.new (W := []) (o := .tup zs) nt
      have M2 := M1.then_new (o := .tup [.str title, .ref t]) n2
      have M3 := M2.then_new (o := .lst [.ref t2]) nL
      have hL3 := upd_same (H := upd (upd H4 t (.tup zs)) t2 (.tup [.str title, .ref t])) (a := L) (o := .lst [.ref t2])
      have tt2 : TD (upd (upd (upd H4 t (.tup zs)) t2 (.tup [.str title, .ref t])) L (.lst [.ref t2])) (.ref t2) (dR (swR (title, blockOf nm op paid sts))) :=
        TD.tk (TK.new nL) (.tup upd_same (.cons (.str _) (.cons (TD.tk (TK.new n2) (.tup upd_same (hz.tk (TK.new nt)))) .nil)))
      revert M3 hL3 tt2
      generalize upd (upd (upd H4 t (.tup zs)) t2 (.tup [.str title, .ref t])) L (.lst [.ref t2]) = H5
      intro M3 hL3 tt2
      have K05 := K04.trans M3
      have hml5 := K05 _ _ hml (by simp)
      have hys5 := hys.tk K05.tk
      have hyl : ys.length = more.length := by rw [hys.length, List.length_map]
      refine ⟨_, rfl, ml, rfl, ⟨_, SqL.of hml5⟩, fun D2 nD2 => ?_⟩
      refine lc_list (K := K) (a := ml) (xs := ys) (fun i H' => (∃ zs2, H' D2 = some (.lst zs2) ∧ TDs H' zs2 (((more.take i).map swR).map dR)) ∧ Keep [] H5 H') ⟨⟨[], upd_same, .nil⟩, Keep.new nD2⟩ ?_ ?_ ?_
      · rintro i H' _ ⟨_, k⟩
        exact SqL.of (k _ _ hml5 (by simp))
      · rintro i x H' hxi ⟨⟨zs2, hD2, hz2⟩, k⟩
        obtain ⟨rr, hrr, hd⟩ := rounds_get hys5 hxi
        obtain ⟨z1, u1, v1, rfl, hz1, d1, d2⟩ := td2 (hd.tk k.tk)
        cases td_str d1
        have hi : i < more.length := (List.getElem?_eq_some_iff.mp hrr).1
        have hzl : zs2.length = i := by rw [hz2.length, List.length_map, List.length_map, List.length_take]; omega
        refine ⟨rfl, yes_then ⟨_, rfl, _, _, _, _, rfl, rfl, SqT.of hz1, atI_nat (j := 0) rfl, _, rfl, _, _, _, _, rfl, rfl, SqT.of hz1, atI_nat (j := 1) rfl, _, rr.2, rfl, d2, hF _ (List.mem_cons_of_mem _ (List.mem_of_getElem? hrr)), fun q H6 tq K6 => ⟨by show 2 ≤ sizeLine; decide, fun t nt => ?_⟩⟩⟩
        have K7 := K6.then_new (o := .tup [.str rr.1, q]) nt
        have hD7 := K7 _ _ hD2 (by simp)
        refine ⟨_, hD7, by rw [hzl]; exact smallL (by omega), ⟨_, upd_same, ?_⟩, (k.trans K7).then_own nD2⟩
        rw [take_snoc hrr, List.map_append, List.map_append]
        exact (hz2.tk (K7.tk.trans (TK.lst hD7))).append (.cons ((TD.tup upd_same (.cons (.str _) (.cons (tq.tk (TK.new nt)) .nil))).tk (TK.lst hD7)) .nil)
      · rintro H6 ⟨⟨zs2, hD2, hz2⟩, K6⟩
        rw [hyl, List.take_length] at hz2
        have hL6 := K6 _ _ hL3 (by simp)
        have hzl2 : zs2.length = more.length := by rw [hz2.length, List.length_map, List.length_map]
        refine ⟨L, D2, _, _, rfl, rfl, hL6, hD2, by show 1 + zs2.length ≤ _; exact smallM (by omega), fun p np => ?_⟩
        have M7 := K6.then_new (o := .lst ([.ref t2] ++ zs2)) np
        have K07 := K05.trans M7
        have G7 := G.keep K07
        obtain ⟨dx7, oa, va, ra, hg7, ta7, tb7, tc7⟩ := G7.ex
        refine ⟨_, rfl, _, rfl, g, C_Game, dx7, _, _, rfl, hg7, T.cl_Game, T.a_Game_options, rfl, _, rfl, g, C_Game, dx7, _, _, rfl, hg7, T.cl_Game, T.a_Game_variables, rfl, _, rfl, p, _, rfl, .inl ⟨SqL.of upd_same, fun t8 n8 => ?_⟩⟩
        have M8 := M7.then_new (o := .tup ([.ref t2] ++ zs2)) n8
        have K08 := K05.trans M8
        have GT8 := GT.keep ((((K2.trans K3).trans K4).trans M3).trans M8)
        have G8 := G.keep K08
        have tR : TD (upd (upd H6 p (.lst ([.ref t2] ++ zs2))) t8 (.tup ([.ref t2] ++ zs2))) (.ref t8) (.tuple ((((title, blockOf nm op paid sts) :: more).map swR).map dR)) :=
          .tup upd_same (.cons (tt2.tk M8.tk) (hz2.tk ((TK.new np).trans (TK.new n8))))
        refine ⟨T1, _, _, t8, os, vs', _, rfl, GT8, ta7.tk (TK.new n8), tb7.tk (TK.new n8), tR, s1, s2, shd_sw s3, _, rfl, iteT ?_⟩
        have hFs : ∀ r ∈ ((title, blockOf nm op paid sts) :: more).map swR, Fit m r.2 := fun r hr => by
          obtain ⟨q, hq, rfl⟩ := List.mem_map.mp hr
          exact (hF q hq).sw
        refine ⟨_, rfl, T1, os, vs', _, rfl, GT8, hFs, by rw [List.length_map, List.length_cons]; omega, fun r9 H9 G9 K9 => ?_⟩
        have eR : (((title, blockOf nm op paid sts) :: more).map swR).map swR = (title, blockOf nm op paid sts) :: more := by
          rw [List.map_map]
          have : ∀ q ∈ (title, blockOf nm op paid sts) :: more, (swR ∘ swR) q = q := fun q hq => by
            obtain ⟨x, l⟩ := q
            show (x, sws (sws l)) = (x, l)
            rw [sws_sws l m (hF _ hq)]
          rw [List.map_congr_left this, List.map_id']
        rw [eR] at G9
        obtain ⟨dx9, _, _, _, hg9, _⟩ := G9.ex
        have G10 := G8.keep K9
        obtain ⟨dx10, _, _, _, hg10, _⟩ := G10.ex
        exact ⟨_, rfl, r9, g, dx9, dx10, _, _, rfl, rfl, hg9, hg10, r9, g, os, vs', _, rfl, G9, G10, s1, s2, s3, kq _ (K08.trans K9)⟩
end

def moreB (op : Str) (ch : Str) (d : Nat → Int) : List Sm :=
  let vr : PyData := .tuple [.str "variable", .str ch]
  let inner := [Sm.mov (1 + d 1 % 2) ch (1 + d 2 % 8) 0, Sm.shw (d 3 % 3) vr]
  let other := [Sm.tak (numD (d 4)), Sm.drw ch (1 + d 5)].take (d 6 % 3).toNat
  [Sm.brn true vr inner other, Sm.brn false (.str op) other (Sm.pay vr :: inner), Sm.set ch vr]
def moreC (op : Str) (ch : Str) (d : Nat → Int) : List Sm :=
  let vr : PyData := .tuple [.str "variable", .str ch]
  let inner := [Sm.mov (1 + d 1 % 2) ch (1 + d 2 % 8) 0, Sm.shw (d 3 % 3) vr]
  [Sm.brn false (.str op) ((moreB op ch d).take (d 8 % 3).toNat) [], Sm.brn true (.tuple [.str "=", vr, numD 1]) ((moreB op ch d).drop 1) inner]
structure MoreOk (l : List Sm) : Prop where
  fit : Fit 4 l
  lay : PyData.canLayAll0 (datas l) = true
  dep : PyData.depthAll (datas l) ≤ 20
  mv : mvs l ≤ 100
theorem moreB_ok {op ch : Str} {d : Nat → Int} (h1 : PyData.strOk op = true) (h2 : PyData.strOk ch = true) : MoreOk (moreB op ch d) ∧ MoreOk (moreC op ch d) := by
  have b1 : d 3 % 3 ≤ 2 := by omega
  have b0 : 0 ≤ d 3 % 3 := by omega
  have h6 : (d 6 % 3).toNat = 0 ∨ (d 6 % 3).toNat = 1 ∨ (d 6 % 3).toNat = 2 := by omega
  have h8 : (d 8 % 3).toNat = 0 ∨ (d 8 % 3).toNat = 1 ∨ (d 8 % 3).toNat = 2 := by omega
  have k1 : PyData.strOk "variable" = true := by decide +kernel
  have k2 : PyData.strOk "move" = true := by decide +kernel
  have k3 : PyData.strOk "show" = true := by decide +kernel
  have k4 : PyData.strOk "take" = true := by decide +kernel
  have k5 : PyData.strOk "pay" = true := by decide +kernel
  have k6 : PyData.strOk "draw" = true := by decide +kernel
  have k7 : PyData.strOk "set" = true := by decide +kernel
  have k8 : PyData.strOk "if" = true := by decide +kernel
  have k9 : PyData.strOk "when" = true := by decide +kernel
  have k10 : PyData.strOk "=" = true := by decide +kernel
  have k11 : PyData.strOk "number" = true := by decide +kernel
  unfold moreC moreB
  rcases h6 with h6 | h6 | h6 <;> rcases h8 with h8 | h8 | h8 <;> rw [h6, h8] <;> refine ⟨⟨?_, ?_, ?_, ?_⟩, ⟨?_, ?_, ?_, ?_⟩⟩ <;>
    simp [Fit, Sm.data, datas, wd, numD, mvs, Sm.mv, PyData.canLay0, PyData.canLayAll0, PyData.depth, PyData.depthAll, h1, h2, b0, b1, k1, k2, k3, k4, k5, k6, k7, k8, k9, k10, k11]

theorem slA_td {K : PySem.W.Frag} {H : Hp} {a : Addr} {ds : List PyData} {n : Nat} {Q : VK} (ta : TD H (.ref a) (.tuple ds)) (hn : n ≤ ds.length) (k : ∀ v H', TD H' v (.tuple (ds.take n)) → Keep [] H H' → Q v H') : rSlA K (.ref a) none (some (n : Int)) H Q := by
  obtain ⟨xs, sa, tx, ha⟩ := td_sq (K := K) ta
  have hl := tx.length
  refine ⟨a, xs, rfl, sa, fun ⟨_, w⟩ => ?_, fun _ p np => ?_⟩
  · rw [HT.sIx_nat] at w
    have e : ds.take n = ds := List.take_of_length_le (by omega)
    rw [e] at k
    exact k _ _ ta (Keep.refl _ _)
  · have e : cutV xs none (some (n : Int)) = xs.take n := by
      unfold cutV
      rw [HT.sIx_nat, HT.sIx_none, Nat.min_eq_left (by omega)]
      show (xs.drop 0).take (n - 0) = _
      rw [List.drop_zero, Nat.sub_zero]
    rw [e]
    exact k _ _ (.tup upd_same ((tx.take n).tk (TK.new np))) (Keep.new np)
theorem slT_td {K : PySem.W.Frag} {H : Hp} {a : Addr} {ds : List PyData} {n : Nat} {Q : VK} (ta : TD H (.ref a) (.tuple ds)) (hn : n < ds.length) (k : ∀ v H', TD H' v (.tuple (ds.take n)) → Keep [] H H' → Q v H') : rSlT K (.ref a) none (some (n : Int)) H Q := by
  obtain ⟨xs, sa, tx, ha⟩ := td_sq (K := K) ta
  have hl := tx.length
  refine ⟨a, xs, rfl, sa, fun ⟨_, w⟩ => ?_, fun p np => ?_⟩
  · rw [HT.sIx_nat] at w; omega
  · have e : cutV xs none (some (n : Int)) = xs.take n := by
      unfold cutV
      rw [HT.sIx_nat, HT.sIx_none, Nat.min_eq_left (by omega)]
      show (xs.drop 0).take (n - 0) = _
      rw [List.drop_zero, Nat.sub_zero]
    rw [e]
    exact k _ _ (.tup upd_same ((tx.take n).tk (TK.new np))) (Keep.new np)
theorem cut1 (x : V) (r : List V) : cutV (x :: r) (some 1) none = r := by
  unfold cutV
  rw [show (1 : Int) = ((1 : Nat) : Int) from rfl, HT.sIx_nat, HT.sIx_none, List.length_cons, Nat.min_eq_left (by omega)]
  show r.take (r.length + 1 - 1) = r
  rw [Nat.add_sub_cancel, List.take_length]
theorem not1 (x : V) (r : List V) {q : Prop} : ¬ (HT.sIx (x :: r).length 0 (some 1) = 0 ∧ q) := by
  rintro ⟨w, _⟩
  rw [show (1 : Int) = ((1 : Nat) : Int) from rfl, HT.sIx_nat, List.length_cons] at w; omega
def titleN (title : Str) (k : Nat) : Str := title ++ Str.ofString (toString ((k : Nat) : Int))
def sp_more : Sp := fun as H Q _ => ∃ (c : Int) (a : Addr) (xs : List V) (sts : List Stg) (nm op title : Str), as = [.int c, .ref a, .str nm, .str op, .str title] ∧ H a = some (.lst xs) ∧ TDs H xs (sts.map dS) ∧ sts.length ≤ 3 ∧ nm.cps.toList.length = 3 ∧ nm.length ≤ 1000 ∧ title.length ≤ 10 ∧ PyData.strOk op = true ∧ (∀ k, k < 3 → PyData.strOk (chN nm k) = true) ∧
  ∀ l ys rs H', H l = none → H' l = some (.lst ys) → TDs H' ys (List.map dR rs) → rs.length ≤ 2 → (∀ (k : Nat) r, rs[k]? = some r → r.1 = titleN title k ∧ MoreOk r.2) → Keep [] H H' → Q (.ref l) H'
theorem tlen : ∀ i, i < 20 → (Str.ofString (toString ((i : Nat) : Int))).length ≤ 10 := by decide +kernel
theorem tlog {i : Nat} (h : i < 20) : ((i : Nat) : Int).natAbs.log2 < 1920 := by
  rw [Int.natAbs_natCast]; exact PySem.Flt.log2_lt_of (by decide) (Nat.lt_trans h (by decide +kernel))
section
variable {P : Program} {w : World} {K : PySem.W.Frag} {mg : Str → Option Value} {base : Heap} {C_Game : Addr} {C_GameError : Addr} {C_BadText : Addr} {C_BadMove : Addr} {C_BadEdit : Addr} {f_BadEdit___init : Addr}
theorem ok_more {f : Addr} {fd : FuncData} (D : C8.Def K mg "_law_more" s_law_more f fd) (b : Binds K fd ["cell", "stages", "names", "option", "title"] []) (T : Txt K mg C_Game C_GameError C_BadText C_BadMove C_BadEdit) (c_law_row : C8.Cal P w K mg base 1 "_law_row" sp_row []) : C8.Cal P w K mg base 2 "_law_more" sp_more [] := by
  refine cal0 D b .nil sc_law_more (fun vs H Q E h => ?_) (fun cdv A outer s H vs Q E hr h => ?_)
  · obtain ⟨c, a, xs, sts, nm, op, title, rfl, _⟩ := h
    rfl
  · obtain ⟨c, a, xs, sts, nm, op, title, rfl, ha, hx, h3, hn, hn2, ht, sop, sch, k⟩ := h
    refine ⟨_, (pss_cons (ps_set (i := 5) sc_law_more.nd rfl (by first | exact Or.inl rfl | exact Or.inr rfl) (pe_lst pa_nil))
(pss_cons (ps_for PassesOwn.never rfl (pi_range1 (by rfl) T.n_range (pa_cons (pe_op op_mul (pe_op op_mod (pe_callTy call_int1 (by rfl) T.n_int bo_int (pa_cons (pv 0) pa_nil)) pe_int) (pe_callTy call_int1 (by rfl) T.n_int bo_int (pa_cons (pe_cmpR op_gt (pe_callB call_len_seq (by rfl) T.n_len bo_len (pa_cons (pv 1) pa_nil)) pe_int (nomark _)) pa_nil))) pa_nil)) (pg_name (i := 6) sc_law_more.nd rfl (by first | exact Or.inl rfl | exact Or.inr rfl))
  (pss_cons (ps_set (i := 7) sc_law_more.nd rfl (by first | exact Or.inl rfl | exact Or.inr rfl) (pe_c c_law_row hr (by first | exact Nat.le_refl _ | decide | omega) rfl (pa_cons (pe_op op_add (pe_op op_fdiv (pv 0) pe_int) (pv 6)) (pa_cons pe_int (pa_cons pe_int pa_nil)))))
  (pss_cons (ps_set (i := 8) sc_law_more.nd rfl (by first | exact Or.inl rfl | exact Or.inr rfl) (pe_ix ix_str (pv 2) (pe_op op_mod (pe_ix ix_list (pv 7) pe_int (fun _ _ => rfl)) (pe_callB call_len_seq (by rfl) T.n_len bo_len (pa_cons (pv 1) pa_nil))) (fun _ _ => rfl)))
  (pss_cons (ps_set (i := 9) sc_law_more.nd rfl (by first | exact Or.inl rfl | exact Or.inr rfl) (pe_tup (pa_cons pe_str (pa_cons (pv 8) pa_nil))))
  (pss_cons (ps_set (i := 10) sc_law_more.nd rfl (by first | exact Or.inl rfl | exact Or.inr rfl) (pe_tup (pa_cons (pe_tup (pa_cons pe_str (pa_cons (pe_op op_add pe_int (pe_op op_mod (pe_ix ix_list (pv 7) pe_int (fun _ _ => rfl)) pe_int)) (pa_cons (pv 8) (pa_cons (pe_op op_add pe_int (pe_op op_mod (pe_ix ix_list (pv 7) pe_int (fun _ _ => rfl)) pe_int)) (pa_cons pe_int pa_nil)))))) (pa_cons (pe_tup (pa_cons pe_str (pa_cons (pe_op op_mod (pe_ix ix_list (pv 7) pe_int (fun _ _ => rfl)) pe_int) (pa_cons (pv 9) pa_nil)))) pa_nil))))
  (pss_cons (ps_set (i := 11) sc_law_more.nd rfl (by first | exact Or.inl rfl | exact Or.inr rfl) (pe_slice sl_tupA (pe_tup (pa_cons (pe_tup (pa_cons pe_str (pa_cons (pe_tup (pa_cons pe_str (pa_cons (pe_ix ix_list (pv 7) pe_int (fun _ _ => rfl)) pa_nil))) pa_nil))) (pa_cons (pe_tup (pa_cons pe_str (pa_cons (pv 8) (pa_cons (pe_op op_add pe_int (pe_ix ix_list (pv 7) pe_int (fun _ _ => rfl))) pa_nil)))) pa_nil))) po_none (po_some (pe_op op_mod (pe_ix ix_list (pv 7) pe_int (fun _ _ => rfl)) pe_int))))
  (pss_cons (ps_set (i := 12) sc_law_more.nd rfl (by first | exact Or.inl rfl | exact Or.inr rfl) (pe_tup (pa_cons (pe_tup (pa_cons pe_str (pa_cons (pv 9) (pa_cons (pv 10) (pa_cons (pv 11) pa_nil))))) (pa_cons (pe_tup (pa_cons pe_str (pa_cons (pv 3) (pa_cons (pv 11) (pa_cons (pe_op op_catT (pe_tup (pa_cons (pe_tup (pa_cons pe_str (pa_cons (pv 9) pa_nil))) pa_nil)) (pv 10)) pa_nil))))) (pa_cons (pe_tup (pa_cons pe_str (pa_cons (pv 8) (pa_cons (pv 9) pa_nil)))) pa_nil)))))
  (pss_cons (ps_if (PW.pt (pw_and (pt_cmpR op_eq (pe_op op_mod (pe_ix ix_list (pv 7) pe_int (fun _ _ => rfl)) pe_int) pe_int (nomark _)) (pw_and1 (pt_cmpR op_eq (pe_op op_mod (pe_callTy call_int1 (by rfl) T.n_int bo_int (pa_cons (pv 0) pa_nil)) pe_int) pe_int (nomark _)))))
    (pss_one (ps_set (i := 12) sc_law_more.nd rfl (by first | exact Or.inl rfl | exact Or.inr rfl) (pe_tup (pa_cons (pe_tup (pa_cons pe_str (pa_cons (pv 3) (pa_cons (pe_slice sl_tup (pv 12) po_none (po_some (pe_op op_mod (pe_ix ix_list (pv 7) pe_int (fun _ _ => rfl)) pe_int))) (pa_cons (pe_tup pa_nil) pa_nil))))) (pa_cons (pe_tup (pa_cons pe_str (pa_cons (pe_tup (pa_cons pe_str (pa_cons (pv 9) (pa_cons (pe_tup (pa_cons pe_str (pa_cons pe_int pa_nil))) pa_nil)))) (pa_cons (pe_slice sl_tup (pv 12) (po_some pe_int) po_none) (pa_cons (pv 10) pa_nil))))) pa_nil)))))
    pss_nil)
  (pss_one (ps_expr (pe_bm PySem.F.plainAttrs_list PySem.F.slot_list_append PySem.F.type_list_append mt_append (pv 5) (pa_cons (pe_tup (pa_cons (pe_op op_add_str (pv 4) (pe_callTy call_str_int (by rfl) T.n_str bo_str (pa_cons (pv 6) pa_nil))) (pa_cons (pv 12) pa_nil))) pa_nil))))))))))))
(pss_one (ps_ret (pv 5))))), ?_⟩
    have hxl : xs.length = sts.length := by rw [hx.length, List.length_map]
    have hnm : nm.length ≤ sizeLine := smallM (Nat.le_trans hn2 (by decide))
    refine ⟨Nat.zero_le _, fun D nD => ?_⟩
    have K0 := Keep.new (W := []) (o := .lst []) nD
    refine ⟨_, rfl, .inl ⟨_, rfl, _, _, rfl, rfl, by show (0 : Int) < 3; decide, _, rfl, _, _, rfl, .inl (SqL.of (K0 _ _ ha (by simp))), _, _, rfl, rfl, .inr ⟨_, rfl, _, _, rfl, rfl, .inl ⟨by omega, by omega⟩, ?_⟩⟩⟩
    have hN : ∃ N : Int, c % 3 * (if (decide (((xs.length : Nat) : Int) > 0)) = true then 1 else 0) = N ∧ 0 ≤ N ∧ N ≤ 2 ∧ (0 < N → 0 < xs.length) := by
      refine ⟨_, rfl, ?_, ?_, ?_⟩
      all_goals by_cases z : ((xs.length : Nat) : Int) > 0
      all_goals simp only [z, decide_true, decide_false, if_true, if_false]
      all_goals first | omega | (intro q; simp at q) | simp
    obtain ⟨N, eN, hN0, hN2, hNx⟩ := hN
    refine ⟨N, congrArg (fun z => [V.int z]) eN, by omega, by omega, for_range (lo := 0) (n := N.toNat) (fun (i : Nat) (σ : List (Option V)) (H' : Hp) => ∃ (ys : List V) (rs : List (Str × List Sm)) (o6 o7 o8 o9 o10 o11 o12 : Option V), σ = [some (.int c), some (.ref a), some (.str nm), some (.str op), some (.str title), some (.ref D), o6, o7, o8, o9, o10, o11, o12] ∧ H' D = some (.lst ys) ∧ TDs H' ys (rs.map dR) ∧ rs.length = i ∧ (∀ (k : Nat) r, rs[k]? = some r → r.1 = titleN title k ∧ MoreOk r.2) ∧ Keep [] H H') ⟨[], [], none, none, none, none, none, none, none, rfl, upd_same, .nil, rfl, (fun k r h => by simp at h), K0⟩ ?_ ?_⟩
    · rintro i σ H1 hi ⟨ys, rs, o6, o7, o8, o9, o10, o11, o12, rfl, hD, hy, hl, hR, K1⟩
      have e0 : (0 : Int) + (i : Int) = (i : Int) := by omega
      rw [e0]
      have hi2 : i < 2 := by omega
      have hpos : 0 < xs.length := hNx (by omega)
      have hyl : ys.length = i := by rw [hy.length, List.length_map, hl]
      refine ⟨_, rfl, _, _, rfl, rfl, ⟨by decide, by decide⟩, _, rfl, _, _, rfl, rfl, _, 9, 60, rfl, by decide, by decide, by decide, fun DL ds H2 nDL hDL dl dz K2 => ?_⟩
      have dg : ∀ j : Nat, j < 9 → atI (ds.map V.int) (j : Int) = some (.int (ds.getD j 0)) := fun j hj => by
        have h : j < ds.length := by omega
        rw [List.getD_eq_getElem?_getD, List.getElem?_eq_getElem h]
        exact atI_nat (by rw [List.getElem?_map, List.getElem?_eq_getElem h]; rfl)
      have fin : ∀ {H3 : Hp} {t : Addr} {B : List Sm} {x : V}, H3 D = some (.lst ys) → TK H2 H3 → Keep [] H H3 → MoreOk B → TD H3 x (.tuple (datas B)) → H3 t = none → upd H3 t (.tup [.str (titleN title i), x]) D = some (.lst ys) ∧ ∃ (ys' : List V) (rs' : List (Str × List Sm)), upd (upd H3 t (.tup [.str (titleN title i), x])) D (.lst (ys ++ [.ref t])) D = some (.lst ys') ∧ TDs (upd (upd H3 t (.tup [.str (titleN title i), x])) D (.lst (ys ++ [.ref t]))) ys' (rs'.map dR) ∧ rs'.length = i + 1 ∧ (∀ (k : Nat) r, rs'[k]? = some r → r.1 = titleN title k ∧ MoreOk r.2) ∧ Keep [] H (upd (upd H3 t (.tup [.str (titleN title i), x])) D (.lst (ys ++ [.ref t]))) := by
        intro H3 t B x g1 g2 g3 g4 g5 nt
        have gD : upd H3 t (.tup [.str (titleN title i), x]) D = some (.lst ys) := by rw [upd_ne (ne_of_none g1 nt)]; exact g1
        refine ⟨gD, _, rs ++ [(titleN title i, B)], upd_same, ?_, by rw [List.length_append, hl]; rfl, ?_, (g3.then_new nt).then_own nD⟩
        · rw [List.map_append]
          exact ((((hy.tk K2.tk).tk g2).tk (TK.new nt)).tk (TK.lst gD)).append (.cons (TD.tk (TK.lst gD) (.tup upd_same (.cons (.str _) (.cons (g5.tk (TK.new nt)) .nil)))) .nil)
        · intro k r hk
          rcases Nat.lt_or_ge k i with z | z
          · rw [List.getElem?_append_left (by omega)] at hk
            exact hR k r hk
          · rw [List.getElem?_append_right (by omega)] at hk
            have : k = i := by
              rcases Nat.eq_or_lt_of_le z with z | z
              · exact z.symm
              · rw [List.getElem?_eq_none (by rw [List.length_singleton]; omega)] at hk; cases hk
            subst this
            rw [hl, Nat.sub_self] at hk
            cases hk
            exact ⟨rfl, g4⟩
      have ha2 := K2 _ _ (K1 _ _ ha (by simp)) (by simp)
      have hq : ds.getD 0 0 % ((xs.length : Nat) : Int) = (((ds.getD 0 0 % ((xs.length : Nat) : Int)).toNat : Nat) : Int) := (Int.toNat_of_nonneg (Int.emod_nonneg _ (by omega))).symm
      have hq3 : (ds.getD 0 0 % ((xs.length : Nat) : Int)).toNat < 3 := by
        have := Int.emod_lt_of_pos (ds.getD 0 0) (show (0 : Int) < ((xs.length : Nat) : Int) by omega)
        omega
      refine ⟨_, rfl, _, rfl, _, _, _, _, rfl, rfl, SqL.of (hDL), dg 0 (by decide), _, rfl, _, _, rfl, .inl (SqL.of ha2), _, _, rfl, rfl, by show (0 : Int) < ((xs.length : Nat) : Int); omega, _, _, _, rfl, rfl, hnm, (by rw [hq]; exact chN_at (by omega)), ?_⟩
      have sc := sch _ hq3
      unfold chN at sc
      revert sc
      generalize (⟨#[nm.cps.toList.getD (ds.getD 0 0 % ((xs.length : Nat) : Int)).toNat 0]⟩ : Str) = ch
      intro sc
      obtain ⟨mB, mC⟩ := moreB_ok (d := fun j => ds.getD j 0) sop sc
      have hD2 := K2 _ _ hD (by simp)
      refine ⟨_, rfl, by show 2 ≤ sizeLine; decide, fun t1 n1 => ?_⟩
      have A1 := Keep.new (W := []) (o := .tup [.str "variable", .str ch]) n1
      have T1 : TD (upd H2 t1 (.tup [.str "variable", .str ch])) (.ref t1) (.tuple [.str "variable", .str ch]) := .tup upd_same (.cons (.str _) (.cons (.str _) .nil))
      have L1 := A1 _ _ hDL (by simp)
      revert A1 T1 L1
      generalize upd H2 t1 (.tup [.str "variable", .str ch]) = H3
      intro A1 T1 L1
      refine ⟨_, rfl, _, _, _, _, rfl, rfl, SqL.of (L1), dg 1 (by decide), _, _, rfl, rfl, by show (0 : Int) < 2; decide, _, _, rfl, rfl, _, rfl, _, rfl, _, _, _, _, rfl, rfl, SqL.of (L1), dg 2 (by decide), _, _, rfl, rfl, by show (0 : Int) < 8; decide, _, _, rfl, rfl, by show 5 ≤ sizeLine; decide, fun t2 n2 => ?_⟩
      have A2 := Keep.new (W := []) (o := .tup [.str "move", .int (1 + ds.getD 1 0 % 2), .str ch, .int (1 + ds.getD 2 0 % 8), .int 0]) n2
      refine ⟨_, rfl, _, _, _, _, rfl, rfl, SqL.of (A2 _ _ L1 (by simp)), dg 3 (by decide), _, _, rfl, rfl, by show (0 : Int) < 3; decide, _, rfl, by show 3 ≤ sizeLine; decide, fun t3 n3 => ⟨by show 2 ≤ sizeLine; decide, fun t4 n4 => ?_⟩⟩
      have A3 := Keep.new (W := []) (o := .tup [.str "show", .int (ds.getD 3 0 % 3), .ref t1]) n3
      have A4 := Keep.new (W := []) (o := .tup [.ref t2, .ref t3]) n4
      have A24 := (A2.trans A3).trans A4
      have T2 : TD (upd (upd (upd H3 t2 (.tup [.str "move", .int (1 + ds.getD 1 0 % 2), .str ch, .int (1 + ds.getD 2 0 % 8), .int 0])) t3 (.tup [.str "show", .int (ds.getD 3 0 % 3), .ref t1])) t4 (.tup [.ref t2, .ref t3])) (.ref t4) (.tuple (datas [Sm.mov (1 + ds.getD 1 0 % 2) ch (1 + ds.getD 2 0 % 8) 0, Sm.shw (ds.getD 3 0 % 3) (.tuple [.str "variable", .str ch])])) :=
        .tup upd_same (.cons (TD.tup (ds := [.str "move", .int _, .str _, .int _, .int _]) (A4 _ _ (A3 _ _ upd_same (by simp)) (by simp)) (.cons (.str _) (.cons (.int _) (.cons (.str _) (.cons (.int _) (.cons (.int _) .nil)))))) (.cons (TD.tup (ds := [.str "show", .int _, .tuple [.str "variable", .str ch]]) (A4 _ _ upd_same (by simp)) (.cons (.str _) (.cons (.int _) (.cons (T1.tk A24.tk) .nil)))) .nil))
      have T1' := T1.tk A24.tk
      have L4 := A24 _ _ L1 (by simp)
      have B4 := A1.trans A24
      clear A2 A3 A4
      revert T2 T1' L4 B4
      generalize (upd (upd (upd H3 t2 (.tup [.str "move", .int (1 + ds.getD 1 0 % 2), .str ch, .int (1 + ds.getD 2 0 % 8), .int 0])) t3 (.tup [.str "show", .int (ds.getD 3 0 % 3), .ref t1])) t4 (.tup [.ref t2, .ref t3])) = H4
      intro T2 T1' L4 B4
      refine ⟨_, rfl, _, _, _, _, rfl, rfl, SqL.of (L4), dg 4 (by decide), by show 2 ≤ sizeLine; decide, fun t5 n5 => ⟨by show 2 ≤ sizeLine; decide, fun t6 n6 => ?_⟩⟩
      have A5 := Keep.new (W := []) (o := .tup [.str "number", .int (ds.getD 4 0)]) n5
      have A6 := Keep.new (W := []) (o := .tup [.str "take", .ref t5]) n6
      have A56 := A5.trans A6
      refine ⟨_, rfl, _, rfl, _, _, _, _, rfl, rfl, SqL.of (A56 _ _ L4 (by simp)), dg 5 (by decide), _, _, rfl, rfl, by show 3 ≤ sizeLine; decide, fun t7 n7 => ⟨by show 2 ≤ sizeLine; decide, fun t8 n8 => ?_⟩⟩
      have A7 := Keep.new (W := []) (o := .tup [.str "draw", .str ch, .int (1 + ds.getD 5 0)]) n7
      have A8 := Keep.new (W := []) (o := .tup [.ref t6, .ref t7]) n8
      have A58 := (A56.trans A7).trans A8
      have T3 := TD.tup (H := (upd (upd (upd (upd H4 t5 (.tup [.str "number", .int (ds.getD 4 0)])) t6 (.tup [.str "take", .ref t5])) t7 (.tup [.str "draw", .str ch, .int (1 + ds.getD 5 0)])) t8 (.tup [.ref t6, .ref t7]))) (a := t8) (xs := [.ref t6, .ref t7]) (ds := datas [Sm.tak (numD (ds.getD 4 0)), Sm.drw ch (1 + ds.getD 5 0)]) upd_same (.cons (TD.tup (ds := [.str "take", numD _]) (A8 _ _ (A7 _ _ upd_same (by simp)) (by simp)) (.cons (.str _) (.cons (TD.tup (ds := [.str "number", .int _]) (A8 _ _ (A7 _ _ (A6 _ _ upd_same (by simp)) (by simp)) (by simp)) (.cons (.str _) (.cons (.int _) .nil))) .nil))) (.cons (TD.tup (ds := [.str "draw", .str _, .int _]) (A8 _ _ upd_same (by simp)) (.cons (.str _) (.cons (.str _) (.cons (.int _) .nil)))) .nil))
      have L8 := A58 _ _ L4 (by simp)
      refine ⟨_, rfl, _, _, _, _, rfl, rfl, SqL.of (L8), dg 6 (by decide), _, _, rfl, rfl, by show (0 : Int) < 3; decide, _, rfl, ?_⟩
      have h6 : ds.getD 6 0 % 3 = (((ds.getD 6 0 % 3).toNat : Nat) : Int) := by omega
      rw [h6]
      refine slA_td T3 (by show _ ≤ 2; omega) fun vo H5 To A9 => ?_
      rw [show (datas [Sm.tak (numD (ds.getD 4 0)), Sm.drw ch (1 + ds.getD 5 0)]).take (ds.getD 6 0 % 3).toNat = datas ([Sm.tak (numD (ds.getD 4 0)), Sm.drw ch (1 + ds.getD 5 0)].take (ds.getD 6 0 % 3).toNat) by rw [datas_map, datas_map, List.map_take]] at To
      have A49 := A58.trans A9
      have T1 := T1'.tk A49.tk
      have T2 := T2.tk A49.tk
      have L5 := A49 _ _ L4 (by simp)
      have B5 := B4.trans A49
      clear T1' L8 T3 A5 A6 A56 A7 A8 A58 A9 A24 A49
      refine ⟨_, rfl, _, rfl, _, rfl, by show 4 ≤ sizeLine; decide, fun u1 m1 => ?_⟩
      have C1 := Keep.new (W := []) (o := .tup [.str "if", .ref t1, .ref t4, vo]) m1
      refine ⟨_, rfl, _, rfl, _, rfl, by show 2 ≤ sizeLine; decide, fun u2 m2 => ⟨by show 1 ≤ sizeLine; decide, fun u3 m3 => ?_⟩⟩
      have C2 := Keep.new (W := []) (o := .tup [.str "pay", .ref t1]) m2
      have C3 := Keep.new (W := []) (o := .tup [.ref u2]) m3
      have C13 := (C1.trans C2).trans C3
      obtain ⟨is, _, tis, his⟩ := td_sq (K := K) (T2.tk C13.tk)
      have il := tis.length
      have il : is.length = 2 := il
      refine ⟨_, rfl, u3, t4, _, _, rfl, rfl, SqT.of upd_same, SqT.of his, (by intro z; cases z), by rw [il]; show 1 + 2 ≤ sizeLine; decide, (fun z => by rw [z] at il; cases il), fun _ u4 m4 => ?_⟩
      have C4 := Keep.new (W := []) (o := .tup ([.ref u2] ++ is)) m4
      refine ⟨by show 4 ≤ sizeLine; decide, fun u5 m5 => ?_⟩
      have C5 := Keep.new (W := []) (o := .tup [.str "when", .str op, vo, .ref u4]) m5
      refine ⟨_, rfl, _, rfl, by show 3 ≤ sizeLine; decide, fun u6 m6 => ⟨by show 3 ≤ sizeLine; decide, fun u7 m7 => ?_⟩⟩
      have C6 := Keep.new (W := []) (o := .tup [.str "set", .str ch, .ref t1]) m6
      have C7 := Keep.new (W := []) (o := .tup [.ref u1, .ref u5, .ref u6]) m7
      have C27 := ((((C2.trans C3).trans C4).trans C5).trans C6).trans C7
      have C37 := (((C3.trans C4).trans C5).trans C6).trans C7
      have C47 := ((C4.trans C5).trans C6).trans C7
      have C57 := (C5.trans C6).trans C7
      have C67 := C6.trans C7
      have CA := C1.trans C27
      have TB : TD (upd (upd (upd (upd (upd (upd (upd H5 u1 (.tup [.str "if", .ref t1, .ref t4, vo])) u2 (.tup [.str "pay", .ref t1])) u3 (.tup [.ref u2])) u4 (.tup ([.ref u2] ++ is))) u5 (.tup [.str "when", .str op, vo, .ref u4])) u6 (.tup [.str "set", .str ch, .ref t1])) u7 (.tup [.ref u1, .ref u5, .ref u6])) (.ref u7) (.tuple (datas (moreB op ch fun j => ds.getD j 0))) := by
        refine .tup upd_same (.cons (TD.tup (ds := [.str "if", .tuple [.str "variable", .str ch], .tuple (datas _), .tuple (datas _)]) (C27 _ _ upd_same (by simp)) (.cons (.str _) (.cons (T1.tk CA.tk) (.cons (T2.tk CA.tk) (.cons (To.tk CA.tk) .nil))))) (.cons ?_ (.cons (TD.tup (ds := [.str "set", .str ch, .tuple [.str "variable", .str ch]]) (C7 _ _ upd_same (by simp)) (.cons (.str _) (.cons (.str _) (.cons (T1.tk CA.tk) .nil)))) .nil)))
        refine TD.tup (ds := [.str "when", .str op, .tuple (datas _), .tuple (datas (Sm.pay (.tuple [.str "variable", .str ch]) :: _))]) (C67 _ _ upd_same (by simp)) (.cons (.str _) (.cons (.str _) (.cons (To.tk CA.tk) (.cons ?_ .nil))))
        refine TD.tup (ds := .tuple [.str "pay", .tuple [.str "variable", .str ch]] :: datas _) (C57 _ _ upd_same (by simp)) (.cons (TD.tup (C37 _ _ upd_same (by simp)) (.cons (.str _) (.cons (T1.tk CA.tk) .nil))) (tis.tk C47.tk))
      have T1 := T1.tk CA.tk
      have T2 := T2.tk CA.tk
      have L7 := CA _ _ L5 (by simp)
      have B7 := B5.trans CA
      clear C1 C2 C3 C4 C5 C6 C7 C27 C37 C47 C57 C67 CA C13
      revert TB T1 T2 L7 B7
      generalize (upd (upd (upd (upd (upd (upd (upd H5 u1 (.tup [.str "if", .ref t1, .ref t4, vo])) u2 (.tup [.str "pay", .ref t1])) u3 (.tup [.ref u2])) u4 (.tup ([.ref u2] ++ is))) u5 (.tup [.str "when", .str op, vo, .ref u4])) u6 (.tup [.str "set", .str ch, .ref t1])) u7 (.tup [.ref u1, .ref u5, .ref u6])) = H7
      intro TB T1 T2 L7 B7
      have hD7 := B7 _ _ hD2 (by simp)
      have h8 : ds.getD 8 0 % 3 = (((ds.getD 8 0 % 3).toNat : Nat) : Int) := by omega
      have h8b : (ds.getD 8 0 % 3).toNat < 3 := by omega
      refine ⟨_, rfl, _, _, _, _, rfl, rfl, SqL.of (L7), dg 7 (by decide), _, _, rfl, rfl, by show (0 : Int) < 2; decide, rfl, _, rfl, iteD (fun _ => ⟨_, rfl, .inl ⟨_, rfl, _, _, rfl, rfl, by show (0 : Int) < 3; decide, rfl, _, rfl, iteD (fun _ => ?_) (fun _ => ?_)⟩⟩) (fun _ => ?_)⟩
      rotate_left
      · refine ⟨_, rfl, .inl ⟨rfl, _, SqL.of (hD7)⟩, _, rfl, _, rfl, _, rfl, tlog (by omega), _, _, rfl, rfl, by show title.length + (Str.ofString (toString ((i : Nat) : Int))).length ≤ sizeLine; have := tlen i (by omega); exact smallM (by omega), _, rfl, by show 2 ≤ sizeLine; decide, fun t nt => ?_⟩
        obtain ⟨g1, ys', rs', g2, g3, g4, g5, g6⟩ := fin (t := t) hD7 B7.tk ((K1.trans K2).trans B7) mB TB nt
        exact ⟨D, _, _, rfl, rfl, g1, by rw [hyl]; exact smallL (by omega), ys', rs', _, _, _, _, _, _, _, rfl, g2, g3, g4, g5, g6⟩
      · refine ⟨_, rfl, .inl ⟨rfl, _, SqL.of (hD7)⟩, _, rfl, _, rfl, _, rfl, tlog (by omega), _, _, rfl, rfl, by show title.length + (Str.ofString (toString ((i : Nat) : Int))).length ≤ sizeLine; have := tlen i (by omega); exact smallM (by omega), _, rfl, by show 2 ≤ sizeLine; decide, fun t nt => ?_⟩
        obtain ⟨g1, ys', rs', g2, g3, g4, g5, g6⟩ := fin (t := t) hD7 B7.tk ((K1.trans K2).trans B7) mB TB nt
        exact ⟨D, _, _, rfl, rfl, g1, by rw [hyl]; exact smallL (by omega), ys', rs', _, _, _, _, _, _, _, rfl, g2, g3, g4, g5, g6⟩
      · refine ⟨_, rfl, _, rfl, _, rfl, _, _, _, _, rfl, rfl, SqL.of (L7), dg 8 (by decide), _, _, rfl, rfl, by show (0 : Int) < 3; decide, _, rfl, ?_⟩
        rw [h8]
        refine slT_td TB (by show _ < 3; exact h8b) fun v1 H8 Tv1 E1 => ?_
        rw [show (datas (moreB op ch fun j => ds.getD j 0)).take (ds.getD 8 0 % 3).toNat = datas ((moreB op ch fun j => ds.getD j 0).take (ds.getD 8 0 % 3).toNat) by rw [datas_map, datas_map, List.map_take]] at Tv1
        refine ⟨Nat.zero_le _, fun w1 q1 => ⟨by show 4 ≤ sizeLine; decide, fun w2 q2 => ?_⟩⟩
        have E2 := Keep.new (W := []) (o := .tup []) q1
        have E3 := Keep.new (W := []) (o := .tup [.str "when", .str op, v1, .ref w1]) q2
        have E23 := E2.trans E3
        refine ⟨_, rfl, by show 2 ≤ sizeLine; decide, fun w3 q3 => ⟨by show 3 ≤ sizeLine; decide, fun w4 q4 => ?_⟩⟩
        have E4 := Keep.new (W := []) (o := .tup [.str "number", .int 1]) q3
        have E5 := Keep.new (W := []) (o := .tup [.str "=", .ref t1, .ref w3]) q4
        have E45 := E4.trans E5
        have E15 := (E1.trans E23).trans E45
        obtain ⟨bx, _, tbx, hbx⟩ := td_sq (K := K) (TB.tk E15.tk)
        obtain ⟨x0, rr, rfl, b0, b1⟩ := tbx.un
        refine ⟨_, rfl, _, rfl, u7, _, rfl, SqT.of hbx, not1 _ _, fun p2 q5 => ?_⟩
        rw [cut1]
        have E6 := Keep.new (W := []) (o := .tup rr) q5
        have Tv2 := TD.tup (upd_same (a := p2) (o := .tup rr)) (b1.tk (TK.new q5))
        refine ⟨_, rfl, by show 4 ≤ sizeLine; decide, fun w6 q6 => ⟨by show 2 ≤ sizeLine; decide, fun w7 q7 => ?_⟩⟩
        have E7 := Keep.new (W := []) (o := .tup [.str "if", .ref w4, .ref p2, .ref t4]) q6
        have E8 := Keep.new (W := []) (o := .tup [.ref w2, .ref w6]) q7
        have E68 := (E6.trans E7).trans E8
        have EA := E15.trans E68
        have TC : TD (upd (upd (upd (upd (upd (upd (upd H8 w1 (.tup [])) w2 (.tup [.str "when", .str op, v1, .ref w1])) w3 (.tup [.str "number", .int 1])) w4 (.tup [.str "=", .ref t1, .ref w3])) p2 (.tup rr)) w6 (.tup [.str "if", .ref w4, .ref p2, .ref t4])) w7 (.tup [.ref w2, .ref w6])) (.ref w7) (.tuple (datas (moreC op ch fun j => ds.getD j 0))) := by
          refine .tup upd_same (.cons (TD.tk (E45.trans E68).tk (TD.tup (ds := [.str "when", .str op, .tuple (datas _), .tuple (datas [])]) upd_same (.cons (.str _) (.cons (.str _) (.cons (Tv1.tk E23.tk) (.cons (TD.tup (E3 _ _ upd_same (by simp)) .nil) .nil)))))) (.cons ?_ .nil))
          refine TD.tup (ds := [.str "if", .tuple [.str "=", .tuple [.str "variable", .str ch], numD 1], .tuple (datas _), .tuple (datas _)]) (E8 _ _ upd_same (by simp)) (.cons (.str _) (.cons ?_ (.cons (Tv2.tk (E7.trans E8).tk) (.cons (T2.tk EA.tk) .nil))))
          exact TD.tk E68.tk (TD.tup upd_same (.cons (.str _) (.cons (T1.tk E15.tk) (.cons (TD.tup (ds := [.str "number", .int 1]) (E5 _ _ upd_same (by simp)) (.cons (.str _) (.cons (.int _) .nil))) .nil))))
        have hDA := EA _ _ hD7 (by simp)
        have BA := B7.trans EA
        refine ⟨_, rfl, .inl ⟨rfl, _, SqL.of (hDA)⟩, _, rfl, _, rfl, _, rfl, tlog (by omega), _, _, rfl, rfl, by show title.length + (Str.ofString (toString ((i : Nat) : Int))).length ≤ sizeLine; have := tlen i (by omega); exact smallM (by omega), _, rfl, by show 2 ≤ sizeLine; decide, fun t nt => ?_⟩
        obtain ⟨g1, ys', rs', g2, g3, g4, g5, g6⟩ := fin (t := t) hDA BA.tk ((K1.trans K2).trans BA) mC TC nt
        exact ⟨D, _, _, rfl, rfl, g1, by rw [hyl]; exact smallL (by omega), ys', rs', _, _, _, _, _, _, _, rfl, g2, g3, g4, g5, g6⟩
    · rintro σ H1 ⟨ys, rs, o6, o7, o8, o9, o10, o11, o12, rfl, hD, hy, hl, hR, K1⟩
      exact ⟨_, rfl, k D ys rs H1 nD hD hy (by omega) hR K1⟩
end

theorem mem_rns : ∀ {l : List Sm} {n : Int} {q : Sm}, q ∈ rns n l → ∃ s ∈ l, ∃ k, q = s.rn k
  | [], _, _, h => by simp [rns] at h
  | s :: r, n, q, h => by
    simp only [rns, List.mem_cons] at h
    rcases h with h | h
    · exact ⟨s, List.mem_cons_self .., n, h⟩
    · obtain ⟨s', h1, k, h2⟩ := mem_rns h
      exact ⟨s', List.mem_cons_of_mem _ h1, k, h2⟩
theorem Fit.rn : ∀ {m : Nat} {l : List Sm} {n : Int}, Fit m l → Fit m (rns n l)
  | 0, _, _, h => h.elim
  | m + 1, l, n, h => by
    refine ⟨by rw [rns_len]; exact h.1, fun s hs => ?_⟩
    obtain ⟨q, hq, k, rfl⟩ := mem_rns hs
    have hq := h.2 q hq
    cases q with
    | brn i t a b => exact ⟨hq.1.rn, hq.2.rn⟩
    | shw pl e => exact hq
    | _ => trivial
mutual
theorem Sm.rn_lay (n : Int) : ∀ s : Sm, (s.rn n).data.canLay0 = s.data.canLay0 ∧ (s.rn n).data.depth = s.data.depth
  | .drw .. => ⟨rfl, rfl⟩
  | .mov .. => by simp [Sm.rn, Sm.data, PyData.canLay0, PyData.canLayAll0, PyData.depth, PyData.depthAll]
  | .shw .. => ⟨rfl, rfl⟩
  | .pay _ => ⟨rfl, rfl⟩
  | .tak _ => ⟨rfl, rfl⟩
  | .set .. => ⟨rfl, rfl⟩
  | .brn i t a b => by
    obtain ⟨a1, a2⟩ := rns_lay n a
    obtain ⟨b1, b2⟩ := rns_lay (n + (mvs a : Nat)) b
    simp [Sm.rn, Sm.data, PyData.canLay0, PyData.canLayAll0, PyData.depth, PyData.depthAll, a1, a2, b1, b2]
theorem rns_lay (n : Int) : ∀ l : List Sm, PyData.canLayAll0 (datas (rns n l)) = PyData.canLayAll0 (datas l) ∧ PyData.depthAll (datas (rns n l)) = PyData.depthAll (datas l)
  | [] => ⟨rfl, rfl⟩
  | s :: r => by
    obtain ⟨a1, a2⟩ := Sm.rn_lay n s
    obtain ⟨b1, b2⟩ := rns_lay (n + (s.mv : Nat)) r
    simp [rns, datas, PyData.canLayAll0, PyData.depthAll, a1, a2, b1, b2]
end
theorem MoreOk.rn {l : List Sm} (h : MoreOk l) (n : Int) : MoreOk (rns n l) := by
  obtain ⟨a, b⟩ := rns_lay n l
  exact ⟨h.fit.rn, by rw [a]; exact h.lay, by rw [b]; exact h.dep, by rw [mvs_rn]; exact h.mv⟩
theorem lay_append : ∀ (l r : List PyData), PyData.canLayAll0 (l ++ r) = (PyData.canLayAll0 l && PyData.canLayAll0 r) ∧ PyData.depthAll (l ++ r) = max (PyData.depthAll l) (PyData.depthAll r)
  | [], r => by simp [PyData.canLayAll0, PyData.depthAll]
  | x :: l, r => by
    obtain ⟨a, b⟩ := lay_append l r
    simp [PyData.canLayAll0, PyData.depthAll, a, b, Bool.and_assoc, Nat.max_assoc]
theorem lay_all {l : List PyData} (h : ∀ d ∈ l, d.canLay0 = true ∧ d.depth ≤ 20) : PyData.canLayAll0 l = true ∧ PyData.depthAll l ≤ 20 := by
  induction l with
  | nil => simp [PyData.canLayAll0, PyData.depthAll]
  | cons x l ih =>
    obtain ⟨a, b⟩ := h x (List.mem_cons_self ..)
    obtain ⟨c, d⟩ := ih fun q hq => h q (List.mem_cons_of_mem _ hq)
    simp only [PyData.canLayAll0, PyData.depthAll, a, c, Bool.and_self, true_and]
    omega
theorem valB_lay {nm op : Str} {c : Int} {path : List Int} (h1 : PyData.strOk op = true) (h2 : ∀ k, k < 3 → PyData.strOk (chN nm k) = true) : ∀ n, n ≤ 3 → (valB nm op c path n).canLay0 = true ∧ (valB nm op c path n).depth ≤ 3 + 3 * n
  | 0, _ => by
    have k1 : PyData.strOk "pick" = true := by decide +kernel
    have k2 : PyData.strOk "number" = true := by decide +kernel
    simp [valB, numD, PyData.canLay0, PyData.canLayAll0, PyData.depth, PyData.depthAll, h1, k1, k2]
  | n + 1, h => by
    obtain ⟨a, b⟩ := valB_lay (c := c) (path := path) h1 h2 n (by omega)
    have k1 : PyData.strOk "*" = true := by decide +kernel
    have k2 : PyData.strOk "number" = true := by decide +kernel
    have k3 : PyData.strOk "=" = true := by decide +kernel
    have k4 : PyData.strOk "variable" = true := by decide +kernel
    simp [valB, vrN, numD, PyData.canLay0, PyData.canLayAll0, PyData.depth, PyData.depthAll, h2 n (by omega), k1, k2, k3, k4, a]
    omega
theorem stS_mv (nm : Str) (k : Nat) (num : Int) (s : Stg) : ((mvs (stS nm k num s) : Nat) : Int) = if s.1 = 0 then 0 else 1 := by
  unfold stS
  rw [mvs_append]
  by_cases a : s.1 = 0 <;> by_cases b : s.2.2 = 0 <;> simp [a, b, mvs, Sm.mv]
theorem headB_mv (nm : Str) (sts : List Stg) : ∀ n, n ≤ sts.length → ((mvs (headB nm sts n) : Nat) : Int) = numOf (sts.take n)
  | 0, _ => by simp [headB, mvs, numOf]
  | n + 1, h => by
    have e : sts[n]? = some sts[n] := List.getElem?_eq_getElem h
    have e1 : headB nm sts (n + 1) = headB nm sts n ++ stS nm n (numOf (sts.take n)) (stgD sts n) := by
      unfold headB
      rw [List.range_succ, List.flatMap_append]
      simp
    rw [e1, mvs_append, numOf_take e, stgD_eq e]
    push_cast
    rw [stS_mv, headB_mv nm sts n (by omega)]
theorem block_mv (nm op : Str) (paid : List Int) (sts : List Stg) : ((mvs (blockOf nm op paid sts) : Nat) : Int) = numOf sts := by
  have hp : ∀ m, mvs (payB nm op paid (pathsZ (szs sts)) sts.length m) = 0 := by
    intro m
    unfold payB
    generalize List.range m = L
    induction L with
    | nil => rfl
    | cons k l ih =>
      rw [List.map_cons, mvs, ih]
      unfold payS
      split <;> rfl
  unfold blockOf
  rw [mvs_append, hp, Nat.add_zero, headB_mv nm sts _ (Nat.le_refl _), List.take_length]
theorem numOf_le (sts : List Stg) : 0 ≤ numOf sts ∧ numOf sts ≤ sts.length := by
  unfold numOf
  induction sts with
  | nil => simp
  | cons s l ih =>
    rw [List.map_cons, List.sum_cons, List.length_cons]
    split <;> omega
theorem block_mem {nm op : Str} {paid : List Int} {sts : List Stg} (hG : GoodS sts) (h3 : sts.length ≤ 3) {s : Sm} (hs : s ∈ blockOf nm op paid sts) : (∃ k, k < 3 ∧ ∃ st ∈ sts, ∃ num, s ∈ stS nm k num st) ∨ ∃ c path, s = .tak (valB nm op c path sts.length) ∨ s = .pay (valB nm op c path sts.length) := by
  unfold blockOf at hs
  rcases List.mem_append.mp hs with hs | hs
  · obtain ⟨k, hk, hs⟩ := List.mem_flatMap.mp hs
    have hk := List.mem_range.mp hk
    refine .inl ⟨k, by omega, stgD sts k, ?_, _, hs⟩
    unfold stgD
    rw [List.getElem?_eq_getElem hk]
    exact List.getElem_mem hk
  · obtain ⟨k, hk, rfl⟩ := List.mem_map.mp hs
    refine .inr ⟨paid.getD k 0, (pathsZ (szs sts)).getD k [], ?_⟩
    unfold payS
    split
    · exact .inl rfl
    · exact .inr rfl
theorem block_ok {nm op : Str} {paid : List Int} {sts : List Stg} (hG : GoodS sts) (h3 : sts.length ≤ 3) (h1 : PyData.strOk op = true) (h2 : ∀ k, k < 3 → PyData.strOk (chN nm k) = true) : MoreOk (blockOf nm op paid sts) := by
  have k1 : PyData.strOk "draw" = true := by decide +kernel
  have k2 : PyData.strOk "move" = true := by decide +kernel
  have k3 : PyData.strOk "show" = true := by decide +kernel
  have k4 : PyData.strOk "variable" = true := by decide +kernel
  have k5 : PyData.strOk "pay" = true := by decide +kernel
  have k6 : PyData.strOk "take" = true := by decide +kernel
  have hl : ∀ s ∈ blockOf nm op paid sts, (match s with
      | .brn _ _ a b => Fit 3 a ∧ Fit 3 b
      | .shw pl _ => 0 ≤ pl ∧ pl ≤ 2
      | _ => True) ∧ s.data.canLay0 = true ∧ s.data.depth ≤ 20 := by
    intro s hs
    rcases block_mem hG h3 hs with ⟨k, hk, st, hst, num, hs⟩ | ⟨c, path, hs⟩
    · have := hG.ok st hst
      have c := h2 k hk
      unfold stS at hs
      by_cases a : st.1 = 0 <;> by_cases b : st.2.2 = 0 <;> simp [a, b] at hs
      · subst hs
        exact ⟨trivial, by simp [Sm.data, PyData.canLay0, PyData.canLayAll0, PyData.depth, PyData.depthAll, k1, c]⟩
      · rcases hs with rfl | rfl
        · exact ⟨trivial, by simp [Sm.data, PyData.canLay0, PyData.canLayAll0, PyData.depth, PyData.depthAll, k1, c]⟩
        · exact ⟨by show 0 ≤ st.2.2 % 3 ∧ st.2.2 % 3 ≤ 2; omega, by simp [Sm.data, vrN, PyData.canLay0, PyData.canLayAll0, PyData.depth, PyData.depthAll, k3, k4, c]⟩
      · subst hs
        exact ⟨trivial, by simp [Sm.data, PyData.canLay0, PyData.canLayAll0, PyData.depth, PyData.depthAll, k2, c]⟩
      · rcases hs with rfl | rfl
        · exact ⟨trivial, by simp [Sm.data, PyData.canLay0, PyData.canLayAll0, PyData.depth, PyData.depthAll, k2, c]⟩
        · exact ⟨by show 0 ≤ st.2.2 % 3 ∧ st.2.2 % 3 ≤ 2; omega, by simp [Sm.data, vrN, PyData.canLay0, PyData.canLayAll0, PyData.depth, PyData.depthAll, k3, k4, c]⟩
    · obtain ⟨v1, v2⟩ := valB_lay (c := c) (path := path) h1 h2 sts.length h3
      rcases hs with rfl | rfl
      · exact ⟨trivial, by simp [Sm.data, PyData.canLay0, PyData.canLayAll0, k6, v1], by simp only [Sm.data, PyData.depth, PyData.depthAll]; omega⟩
      · exact ⟨trivial, by simp [Sm.data, PyData.canLay0, PyData.canLayAll0, k5, v1], by simp only [Sm.data, PyData.depth, PyData.depthAll]; omega⟩
  obtain ⟨q1, q2⟩ := lay_all (l := datas (blockOf nm op paid sts)) fun d hd => by
    rw [datas_map] at hd
    obtain ⟨s, hs, rfl⟩ := List.mem_map.mp hd
    exact (hl s hs).2
  have hm := block_mv nm op paid sts
  have := numOf_le sts
  exact ⟨⟨block_len nm op paid sts hG h3, fun s hs => (hl s hs).1⟩, q1, q2, by omega⟩
theorem rnR_get : ∀ {l : List (Str × List Sm)} {n : Int} {k : Nat} {r : Str × List Sm}, (rnR n l)[k]? = some r → ∃ r0, l[k]? = some r0 ∧ r.1 = r0.1 ∧ ∃ n', r.2 = rns n' r0.2
  | [], n, k, r, h => by simp [rnR] at h
  | (x, a) :: l, n, 0, r, h => by
    simp [rnR] at h
    exact ⟨(x, a), rfl, by rw [← h], n, by rw [← h]⟩
  | (x, a) :: l, n, k + 1, r, h => by
    simp [rnR] at h
    obtain ⟨r0, h1, h2, h3⟩ := rnR_get h
    exact ⟨r0, by simpa using h1, h2, h3⟩
theorem lay_allN {N : Nat} {l : List PyData} (h : ∀ d ∈ l, d.canLay0 = true ∧ d.depth ≤ N) : PyData.canLayAll0 l = true ∧ PyData.depthAll l ≤ N := by
  induction l with
  | nil => simp [PyData.canLayAll0, PyData.depthAll]
  | cons x l ih =>
    obtain ⟨a, b⟩ := h x (List.mem_cons_self ..)
    obtain ⟨c, d⟩ := ih fun q hq => h q (List.mem_cons_of_mem _ hq)
    simp only [PyData.canLayAll0, PyData.depthAll, a, c, Bool.and_self, true_and]
    omega
theorem shd_rows {l : List (Str × List Sm)} (h : ∀ r ∈ l, PyData.strOk r.1 = true ∧ MoreOk r.2) : Shd (l.map dR) := by
  rw [shd_iff]
  obtain ⟨a, b⟩ := lay_allN (N := 22) (l := l.map dR) fun d hd => by
    obtain ⟨r, hr, rfl⟩ := List.mem_map.mp hd
    obtain ⟨h1, h2⟩ := h r hr
    have e1 := h2.lay
    have e2 := h2.dep
    simp only [dR, PyData.canLay0, PyData.canLayAll0, PyData.depth, PyData.depthAll, h1, e1, Bool.and_self, true_and]
    omega
  exact ⟨a, by omega⟩
theorem shd_opts {l : List (Str × Bool)} (h : ∀ r ∈ l, PyData.strOk r.1 = true) : Shd (l.map dO) := by
  rw [shd_iff]
  obtain ⟨a, b⟩ := lay_allN (N := 22) (l := l.map dO) fun d hd => by
    obtain ⟨r, hr, rfl⟩ := List.mem_map.mp hd
    simp [dO, PyData.canLay0, PyData.canLayAll0, PyData.depth, PyData.depthAll, h r hr]
  exact ⟨a, by omega⟩
theorem shd_vars {l : List (Str × Int)} (h : ∀ r ∈ l, PyData.strOk r.1 = true) : Shd (l.map dV) := by
  rw [shd_iff]
  obtain ⟨a, b⟩ := lay_allN (N := 22) (l := l.map dV) fun d hd => by
    obtain ⟨r, hr, rfl⟩ := List.mem_map.mp hd
    simp [dV, PyData.canLay0, PyData.canLayAll0, PyData.depth, PyData.depthAll, h r hr]
  exact ⟨a, by omega⟩

def nmF (i : Nat) (way : Int) : Str := if i = 0 then "abc" else if way % 9 = 7 then (if way / 63 % 4 = 0 then "xbz" else if way / 63 % 4 = 1 then "bxz" else if way / 63 % 4 = 2 then "zcx" else "cba") else "xyz"
def opF (i : Nat) (way : Int) : Str := if i = 0 then "o" else if way % 9 = 1 then "o" else "p"
def tiF (i : Nat) (way : Int) : Str := if i = 0 then "r" else if way % 9 = 4 then "r" else "s"
def moN (i : Nat) : Str := if i = 0 then "u" else "v"
def osB (i : Nat) (way : Int) : List (Str × Bool) := [(opF i way, decide (way / 9 % 2 = (i : Int))), (moN i, decide (way / 18 % 2 = (i : Int)))]
def osTB (i : Nat) (way : Int) : List (Str × Bool) := [(opF i way, !decide (way / 9 % 2 = (i : Int))), (moN i, decide (way / 18 % 2 = (i : Int)))]
/-- the options; with its own option turned -/
def osF (i : Nat) (way : Int) : List (Str × Bool) := if i = 0 then osB i way else (osB i way).reverse
def osT (i : Nat) (way : Int) : List (Str × Bool) := if i = 0 then osTB i way else (osTB i way).reverse
theorem dVI (x y : Int) : decide (V.int x = V.int y) = decide (x = y) := by
  by_cases h : x = y
  · rw [h, decide_eq_true rfl, decide_eq_true rfl]
  · rw [decide_eq_false h, decide_eq_false (fun z => h (V.int.inj z))]
theorem nmF_ok (i : Nat) (way : Int) : (nmF i way).cps.toList.length = 3 ∧ (nmF i way).length ≤ 1000 ∧ ∀ k, k < 3 → PyData.strOk (chN (nmF i way) k) = true := by
  unfold nmF
  repeat' split
  all_goals decide +kernel
theorem opF_ok (i : Nat) (way : Int) : PyData.strOk (opF i way) = true ∧ opF i way ≠ "" := by
  unfold opF
  repeat' split
  all_goals decide +kernel
theorem tiF_ok (i : Nat) (way : Int) : PyData.strOk (tiF i way) = true ∧ (tiF i way).length ≤ 10 := by
  unfold tiF
  repeat' split
  all_goals decide +kernel
def sp_law (K : PySem.W.Frag) : Sp := fun vs H Q _ => ∃ (a : Addr) (ns : List Int), vs = [.ref a] ∧ SqL K H a (ns.map V.int) ∧ ∀ H', Q (.bl true) H'
/-- what is kept of one game -/
structure PartAt (C : Addr) (H : Hp) (PA q : Addr) (way : Int) (i : Nat) : Prop where
  ex : ∃ (g a pl ml : Addr) (sts : List Stg) (paid : List Int) (rs : List (Str × List Sm)) (xs ys : List V), H q = some (.tup [.ref g, .ref a, .ref pl, .str (nmF i way), .str (opF i way), .str (tiF i way), .int (mvR ((tiF i way, blockOf (nmF i way) (opF i way) paid sts) :: rs) : Nat), .ref ml]) ∧
    GameAt C H g ((osF i way).map dO) ((sizesOf (nmF i way) sts).map dV) (((tiF i way, blockOf (nmF i way) (opF i way) paid sts) :: rs).map dR) ∧ H a = some (.lst xs) ∧ TDs H xs (sts.map dS) ∧ GoodS sts ∧ sts.length ≤ 3 ∧ H pl = some (.lst (paid.map V.int)) ∧ paid.length = (pathsZ (szs sts)).length ∧ H ml = some (.lst ys) ∧ TDs H ys (rs.map dR) ∧ rs.length ≤ 2 ∧
    (∀ (k : Nat) r, rs[k]? = some r → r.1 = titleN (tiF i way) k ∧ MoreOk r.2) ∧ a ≠ PA ∧ pl ≠ PA ∧ ml ≠ PA
def okM (as ns : List Str) : Bool := (List.range ns.length).all fun i => match ns[i]? with
  | some n => inV (.str n) (as.map V.str) && !inV (.str n) ((ns.take i).map V.str)
  | none => true
theorem osF_names (i : Nat) (way : Int) : (osF i way).map Prod.fst = if i = 0 then [opF i way, "u"] else ["v", opF i way] := by
  unfold osF osB moN
  by_cases z : i = 0
  · simp [z]
  · simp [z]
theorem osT_names (i : Nat) (way : Int) : (osT i way).map Prod.fst = if i = 0 then [opF i way, "u"] else ["v", opF i way] := by
  unfold osT osTB moN
  by_cases z : i = 0
  · simp [z]
  · simp [z]
theorem ok_names (i : Nat) (way : Int) : (let as := if i = 0 then [opF i way, ("u" : Str)] else ["v", opF i way]; okM as [opF i way] = true ∧ okM as [] = true ∧ okM as [moN i, opF i way] = true ∧ okM as ["q"] = false ∧ okM as [opF i way, opF i way] = false) := by
  by_cases z : i = 0
  · have e : opF i way = "o" := by unfold opF; rw [if_pos z]
    have e2 : moN i = "u" := by unfold moN; rw [if_pos z]
    simp only [if_pos z, e, e2]
    decide
  · by_cases y : way % 9 = 1
    · have e : opF i way = "o" := by unfold opF; rw [if_neg z, if_pos y]
      have e2 : moN i = "v" := by unfold moN; rw [if_neg z]
      simp only [if_neg z, e, e2]
      decide
    · have e : opF i way = "p" := by unfold opF; rw [if_neg z, if_neg y]
      have e2 : moN i = "v" := by unfold moN; rw [if_neg z]
      simp only [if_neg z, e, e2]
      decide
theorem names_ok (i : Nat) (way : Int) (x : Str) (h : x ∈ (if i = 0 then [opF i way, ("u" : Str)] else ["v", opF i way])) : PyData.strOk x = true := by
  have := (opF_ok i way).1
  split at h
  · simp at h
    rcases h with rfl | rfl
    · exact this
    · decide +kernel
  · simp at h
    rcases h with rfl | rfl
    · decide +kernel
    · exact this
theorem titles_ok (i : Nat) (way : Int) (k : Nat) (h : k < 2) : PyData.strOk (titleN (tiF i way) k) = true := by
  have hk : k = 0 ∨ k = 1 := by omega
  unfold tiF
  rcases hk with rfl | rfl <;> (repeat' split) <;> decide +kernel
theorem okN_M (os : List (Str × Bool)) (ns : List Str) : okN os ns = okM (os.map Prod.fst) ns := rfl
theorem op_mo (i : Nat) (way : Int) : moN i ≠ opF i way := by
  unfold moN opF
  repeat' split
  all_goals decide
theorem osF_sw (i : Nat) (way : Int) : (osF i way).map (swO [opF i way]) = osT i way ∧ (osT i way).map (swO [opF i way]) = osF i way ∧ (osF i way).map (swO []) = osF i way ∧ (osF i way).map (swO [moN i, opF i way]) = (osF i way).map fun p => (p.1, !p.2) := by
  have h1 : (opF i way == moN i) = false := beq_eq_false_iff_ne.mpr fun z => op_mo i way z.symm
  have h2 : (moN i == opF i way) = false := beq_eq_false_iff_ne.mpr (op_mo i way)
  unfold osF osT osB osTB
  generalize opF i way = o at h1 h2
  generalize moN i = m at h1 h2
  by_cases z : i = 0
  · simp only [if_pos z]
    simp [swO, inV, eqV, h1, h2]
  · simp only [if_neg z]
    simp [swO, inV, eqV, h1, h2]
theorem at2 {x y : Str} {i : Nat} (h : i < 2) : atI [V.str x, V.str y] (i : Int) = some (.str (if i = 0 then x else y)) := by
  rcases i with _ | _ | i
  · rfl
  · rfl
  · omega
theorem cutAny (ns : List Int) (lo hi : Option Int) : ∃ ms : List Int, cutV (ns.map V.int) lo hi = ms.map V.int := by
  unfold cutV
  exact ⟨_, by rw [← List.map_drop, ← List.map_take]⟩
theorem cut3 (xs : List V) : cutV xs none (some 3) = xs.take 3 := by
  unfold cutV
  rw [show (3 : Int) = ((3 : Nat) : Int) from rfl, HT.sIx_nat, HT.sIx_none]
  show (xs.drop 0).take (min 3 xs.length - 0) = _
  rw [List.drop_zero, Nat.sub_zero]
  rcases Nat.le_total 3 xs.length with h | h
  · rw [Nat.min_eq_left h]
  · rw [Nat.min_eq_right h, List.take_length, List.take_of_length_le h]
theorem game_facts {C : Addr} {H : Hp} {x dx a b c : Addr} {os vs rs : List PyData} (nx : H x = none) (ndx : H dx = none) (ta : TD H (.ref a) (.tuple os)) (tb : TD H (.ref b) (.tuple vs)) (tc : TD H (.ref c) (.tuple rs)) :
    (∀ o, TK H (upd (upd H dx (.own x)) x o)) ∧ GameAt C (upd (upd H dx (.own x)) x (.ins C dx [("options", .ref a), ("variables", .ref b), ("rounds", .ref c)])) x os vs rs ∧ Keep [] H (upd (upd H dx (.own x)) x (.ins C dx [("options", .ref a), ("variables", .ref b), ("rounds", .ref c)])) := by
  have tk : ∀ o, TK H (upd (upd H dx (.own x)) x o) := fun o b xs h => by rw [upd_ne (ne_of_none h nx), upd_ne (ne_of_none h ndx)]; exact h
  refine ⟨tk, ⟨dx, a, b, c, upd_same, ta.tk (tk _), tb.tk (tk _), tc.tk (tk _)⟩, fun b o h _ => ?_⟩
  rw [upd_ne (ne_of_none h nx), upd_ne (ne_of_none h ndx)]; exact h
theorem PartAt.keep {C : Addr} {H H' : Hp} {PA q : Addr} {way : Int} {i : Nat} (h : PartAt C H PA q way i) (k : Keep [] H H') : PartAt C H' PA q way i := by
  obtain ⟨g, a, pl, ml, sts, paid, rs, xs, ys, h1, h2, h3, h4, h5, h6, h7, h8, h9, h10, h11⟩ := h.ex
  exact ⟨g, a, pl, ml, sts, paid, rs, xs, ys, k _ _ h1 (by simp), h2.keep k, k _ _ h3 (by simp), h4.tk k.tk, h5, h6, k _ _ h7 (by simp), h8, k _ _ h9 (by simp), h10.tk k.tk, h11⟩
theorem PartAt.own {C : Addr} {H : Hp} {PA q : Addr} {way : Int} {i : Nat} {zs : List V} {o : HO} (h : PartAt C H PA q way i) (hP : H PA = some (.lst zs)) : PartAt C (upd H PA o) PA q way i := by
  obtain ⟨g, a, pl, ml, sts, paid, rs, xs, ys, h1, h2, h3, h4, h5, h6, h7, h8, h9, h10, h11, h12, n1, n2, n3⟩ := h.ex
  exact ⟨g, a, pl, ml, sts, paid, rs, xs, ys, TK.lst hP _ _ h1, h2.keep1 (Keep.at_ (by simp)) hP, by rw [upd_ne n1]; exact h3, h4.tk (TK.lst hP), h5, h6, by rw [upd_ne n2]; exact h7, h8, by rw [upd_ne n3]; exact h9, h10.tk (TK.lst hP), h11, h12, n1, n2, n3⟩
theorem clB_snoc (as bs : List Str) (n : Str) : clB as (bs ++ [n]) = (clB as bs || inV (.str n) (as.map V.str)) := by
  unfold clB
  rw [List.map_append, List.any_append]
  simp
def clo (way : Int) : Bool := decide (V.str (opF 1 way) = V.str "o") || decide (V.str (tiF 1 way) = V.str "r")
theorem cl_opts (way : Int) : clB ((osF 0 way).map Prod.fst) ((osF 1 way).map Prod.fst) = decide (V.str (opF 1 way) = V.str "o") := by
  rw [osF_names, osF_names]
  have e0 : opF 0 way = "o" := by unfold opF; rw [if_pos rfl]
  by_cases y : way % 9 = 1
  · have e1 : opF 1 way = "o" := by unfold opF; rw [if_neg (by decide), if_pos y]
    rw [e0, e1]; decide +kernel
  · have e1 : opF 1 way = "p" := by unfold opF; rw [if_neg (by decide), if_neg y]
    rw [e0, e1]; decide +kernel
theorem titles_of {t : Str} {rs : List (Str × List Sm)} (h : ∀ (k : Nat) r, rs[k]? = some r → r.1 = titleN t k ∧ MoreOk r.2) : rs.map Prod.fst = (List.range rs.length).map (titleN t) := by
  refine List.ext_getElem? fun k => ?_
  rw [List.getElem?_map, List.getElem?_map]
  cases hr : rs[k]? with
  | none =>
    rw [List.getElem?_eq_none_iff] at hr
    rw [List.getElem?_eq_none (by rw [List.length_range]; exact hr)]
    rfl
  | some r =>
    have hk := (List.getElem?_eq_some_iff.mp hr).1
    rw [List.getElem?_range hk]
    show some r.1 = some (titleN t k)
    rw [(h k r hr).1]
theorem cl_titles : ∀ n1, n1 < 3 → ∀ n2, n2 < 3 → clB ("r" :: (List.range n1).map (titleN "r")) ("s" :: (List.range n2).map (titleN "s")) = false := by decide +kernel
theorem cl_head (x : Str) (l m : List Str) : clB (x :: l) (x :: m) = true := by
  simp [clB, inV, eqV]
theorem cl_rounds (way : Int) {b1 b2 : List Sm} {rs1 rs2 : List (Str × List Sm)} (l1 : rs1.length ≤ 2) (l2 : rs2.length ≤ 2) (h1 : ∀ (k : Nat) r, rs1[k]? = some r → r.1 = titleN (tiF 0 way) k ∧ MoreOk r.2) (h2 : ∀ (k : Nat) r, rs2[k]? = some r → r.1 = titleN (tiF 1 way) k ∧ MoreOk r.2) :
    clB (((tiF 0 way, b1) :: rs1).map Prod.fst) (((tiF 1 way, b2) :: rs2).map Prod.fst) = decide (V.str (tiF 1 way) = V.str "r") := by
  rw [List.map_cons, List.map_cons, titles_of h1, titles_of h2]
  have e0 : tiF 0 way = "r" := by unfold tiF; rw [if_pos rfl]
  by_cases y : way % 9 = 4
  · have e1 : tiF 1 way = "r" := by unfold tiF; rw [if_neg (by decide), if_pos y]
    rw [e0, e1]
    show clB ("r" :: _) ("r" :: _) = _
    rw [cl_head]; rfl
  · have e1 : tiF 1 way = "s" := by unfold tiF; rw [if_neg (by decide), if_neg y]
    rw [e0, e1]
    show clB ("r" :: _) ("s" :: _) = _
    rw [cl_titles _ (by omega) _ (by omega)]; decide +kernel
theorem cl_all (way : Int) {vs1 vs2 : List (Str × Int)} {b1 b2 : List Sm} {rs1 rs2 : List (Str × List Sm)} (l1 : rs1.length ≤ 2) (l2 : rs2.length ≤ 2) (h1 : ∀ (k : Nat) r, rs1[k]? = some r → r.1 = titleN (tiF 0 way) k ∧ MoreOk r.2) (h2 : ∀ (k : Nat) r, rs2[k]? = some r → r.1 = titleN (tiF 1 way) k ∧ MoreOk r.2) :
    clG (osF 0 way) (osF 1 way) vs1 vs2 ((tiF 0 way, b1) :: rs1) ((tiF 1 way, b2) :: rs2) = (clo way || clB (vs1.map Prod.fst) (vs2.map Prod.fst)) := by
  unfold clG clo
  rw [cl_opts, cl_rounds way l1 l2 h1 h2]
  cases decide (V.str (opF 1 way) = V.str "o") <;> cases decide (V.str (tiF 1 way) = V.str "r") <;> cases clB (vs1.map Prod.fst) (vs2.map Prod.fst) <;> rfl
theorem rows_ok {i : Nat} {way : Int} {paid : List Int} {sts : List Stg} {rs : List (Str × List Sm)} (hG : GoodS sts) (h3 : sts.length ≤ 3) (l : rs.length ≤ 2) (h : ∀ (k : Nat) r, rs[k]? = some r → r.1 = titleN (tiF i way) k ∧ MoreOk r.2) :
    ∀ r ∈ (tiF i way, blockOf (nmF i way) (opF i way) paid sts) :: rs, PyData.strOk r.1 = true ∧ MoreOk r.2 := by
  intro r hr
  rcases List.mem_cons.mp hr with rfl | hr
  · exact ⟨(tiF_ok i way).1, block_ok hG h3 (opF_ok i way).1 (nmF_ok i way).2.2⟩
  · obtain ⟨kk, hk, rfl⟩ := List.getElem_of_mem hr
    obtain ⟨q1, q2⟩ := h kk _ (List.getElem?_eq_getElem hk)
    rw [q1]
    exact ⟨titles_ok i way kk (by omega), q2⟩
theorem rows_rn {l : List (Str × List Sm)} (h : ∀ r ∈ l, PyData.strOk r.1 = true ∧ MoreOk r.2) (n : Int) : ∀ r ∈ rnR n l, PyData.strOk r.1 = true ∧ MoreOk r.2 := by
  intro r hr
  obtain ⟨kk, hk, rfl⟩ := List.getElem_of_mem hr
  obtain ⟨r0, q1, q2, n', q3⟩ := rnR_get (List.getElem?_eq_getElem hk)
  obtain ⟨a, b⟩ := h r0 (List.mem_of_getElem? q1)
  rw [q2, q3]
  exact ⟨a, b.rn n'⟩
theorem mvR_bound {l : List (Str × List Sm)} (h : ∀ r ∈ l, PyData.strOk r.1 = true ∧ MoreOk r.2) : mvR l ≤ 100 * l.length := by
  induction l with
  | nil => exact Nat.zero_le _
  | cons r l ih =>
    have := ih fun q hq => h q (List.mem_cons_of_mem _ hq)
    have h2 := (h r (List.mem_cons_self ..)).2.mv
    have e : mvR (r :: l) = mvs r.2 + mvR l := by simp [mvR]
    rw [e, List.length_cons]; omega
theorem sizes_ok {nm : Str} {sts : List Stg} (h3 : sts.length ≤ 3) (h : ∀ k, k < 3 → PyData.strOk (chN nm k) = true) : ∀ r ∈ sizesOf nm sts, PyData.strOk r.1 = true := by
  intro r hr
  unfold sizesOf at hr
  obtain ⟨kk, hk, rfl⟩ := List.mem_map.mp hr
  exact h kk (by have := List.mem_range.mp hk; omega)
theorem osF_ok (i : Nat) (way : Int) : ∀ r ∈ osF i way, PyData.strOk r.1 = true := by
  intro r hr
  have := List.mem_map_of_mem (f := Prod.fst) hr
  rw [osF_names] at this
  exact names_ok i way _ this
theorem osF_len (i : Nat) (way : Int) : (osF i way).length = 2 := by
  have := congrArg List.length (osF_names i way)
  rw [List.length_map] at this
  rw [this]; split <;> rfl

section
variable {P : Program} {w : World} {K : PySem.W.Frag} {mg : Str → Option Value} {base : Heap} {C_Game : Addr} {C_GameError : Addr} {C_BadText : Addr} {C_BadMove : Addr} {C_BadEdit : Addr} {f_BadEdit___init : Addr}
theorem ok_law {f : Addr} {fd : FuncData} (F : C8.Fun K "law" "law" s_law f fd) (T : Txt K mg C_Game C_GameError C_BadText C_BadMove C_BadEdit) {k : Nat} (c_law_cell : C8.Cal P w K mg base 1 "_law_cell" (sp_cell K) []) (c_law_row : C8.Cal P w K mg base 1 "_law_row" sp_row []) (c_law_stages : C8.Cal P w K mg base 2 "_law_stages" (sp_stages K) []) (c_law_paths : C8.Cal P w K mg base 1 "_law_paths" sp_paths []) (c_law_block : C8.Cal P w K mg base 2 "_law_block" sp_block []) (c_law_sizes : C8.Cal P w K mg base 1 "_law_sizes" sp_sizes []) (c_law_more : C8.Cal P w K mg base 2 "_law_more" sp_more [])
    (c_law_numbered : C8.Cal P w K mg base (k + 4) "_law_numbered" (sp_num 4) []) (c_Game : C8.Mak P w K mg base 1 "Game" C_Game (sp_game C_Game) []) (c_law_swaps : C8.Cal P w K mg base (k + 4) "_law_swaps" (sp_swaps C_Game 4) []) (c_switched : C8.Cal P w K mg base 3 "switched" (fun vs H Q _ => sp_switched C_Game C_BadEdit vs H Q C8.E0) []) (c_law_is : C8.Cal P w K mg base 1 "_law_is" (sp_is C_Game) []) (c_law_refused : C8.Cal P w K mg base 4 "_law_refused" (sp_refused C_Game) []) (c_Game_eq : Own P w K mg base 1 C_Game "__eq__" (sp_geq C_Game))
    (c_before : CalX P w K mg base (k + 4) "before" (sp_before C_Game C_BadEdit 4) []) : FnOk P w K mg base C8.CX0 (k + 5) f fd ["script"] (sp_law K) := by
  refine C8.fn0 F sc_law (fun vs H Q E h => ?_) (fun cdv A outer s H vs Q E hr h => ?_)
  · obtain ⟨a, ns, rfl, _⟩ := h
    rfl
  · obtain ⟨a, ns, rfl, hS, kq⟩ := h
    refine ⟨_, (pss_cons (ps_set (i := 1) sc_law.nd rfl (by first | exact Or.inl rfl | exact Or.inr rfl) (pe_op op_fdiv (pe_callB call_len_seq (by rfl) T.n_len bo_len (pa_cons (pv 0) pa_nil)) pe_int))
(pss_cons (ps_set (i := 2) sc_law.nd rfl (by first | exact Or.inl rfl | exact Or.inr rfl) (pe_lst pa_nil))
(pss_cons (ps_set (i := 3) sc_law.nd rfl (by first | exact Or.inl rfl | exact Or.inr rfl) (pe_c c_law_cell hr (by first | exact Nat.le_refl _ | decide | omega) rfl (pa_cons (pv 0) (pa_cons pe_int pa_nil))))
(pss_cons (ps_for PassesOwn.never rfl (pi_tup (pe_tup (pa_cons pe_int (pa_cons pe_int pa_nil)))) (pg_name (i := 4) sc_law.nd rfl (by first | exact Or.inl rfl | exact Or.inr rfl))
  (pss_cons (ps_set (i := 5) sc_law.nd rfl (by first | exact Or.inl rfl | exact Or.inr rfl) (pe_slice sl_list (pv 0) (po_some (pe_op op_mul (pv 1) (pv 4))) (po_some (pe_op op_mul (pv 1) (pe_op op_add (pv 4) pe_int)))))
  (pss_cons (ps_set (i := 6) sc_law.nd rfl (by first | exact Or.inl rfl | exact Or.inr rfl) (pe_slice sl_list (pe_c c_law_stages hr (by first | exact Nat.le_refl _ | decide | omega) rfl (pa_cons (pv 5) (pa_cons pe_int pa_nil))) po_none (po_some pe_int)))
  (pss_cons (ps_setLc (i := 7) (own := [("value", 27)]) (g := gName 27) (tt := tYes) rfl sc_law.nd rfl rfl (sw_true rfl rfl rfl (by decide +kernel)) (pi_list (pe_c c_law_row hr (by first | exact Nat.le_refl _ | decide | omega) rfl (pa_cons (pe_c c_law_cell hr (by first | exact Nat.le_refl _ | decide | omega) rfl (pa_cons (pv 5) (pa_cons pe_int pa_nil))) (pa_cons (pe_callB call_len_seq (by rfl) T.n_len bo_len (pa_cons (pe_c c_law_paths hr (by first | exact Nat.le_refl _ | decide | omega) rfl (pa_cons (pv 6) pa_nil)) pa_nil)) (pa_cons pe_int pa_nil))))) (blkOk_by (N := ["script", "half", "parts", "way", "k", "own", "stages", "paid", "names", "option", "title", "block", "more", "options", "turned", "moves", "rounds", "game", "other", "both", "one", "two", "clash", "pair", "joined", "e", "count", "value", "stage", "row"]) (sc := fnScope s_law) (by decide +kernel)) (fun _ _ _ _ _ => pg_name (i := 27) sc_law.nd rfl (Or.inl rfl)) (fun _ _ _ _ _ => pts_nil) (fun _ _ _ _ _ => (pe_op op_sub (pv 27) pe_int)))
  (pss_cons (ps_set (i := 8) sc_law.nd rfl (by first | exact Or.inl rfl | exact Or.inr rfl) (pe_ix ix_tup (pe_tup (pa_cons pe_str (pa_cons pe_str pa_nil))) (pv 4) (fun _ _ => rfl)))
  (pss_cons (ps_set (i := 9) sc_law.nd rfl (by first | exact Or.inl rfl | exact Or.inr rfl) (pe_ix ix_tup (pe_tup (pa_cons pe_str (pa_cons pe_str pa_nil))) (pv 4) (fun _ _ => rfl)))
  (pss_cons (ps_set (i := 10) sc_law.nd rfl (by first | exact Or.inl rfl | exact Or.inr rfl) (pe_ix ix_tup (pe_tup (pa_cons pe_str (pa_cons pe_str pa_nil))) (pv 4) (fun _ _ => rfl)))
  (pss_cut (ps_if (PW.pt (pw_and (pt_cmpR op_eq (pv 4) pe_int (nomark _)) (pw_and1 (pt_cmpR op_eq (pe_op op_mod (pe_callTy call_int1 (by rfl) T.n_int bo_int (pa_cons (pv 3) pa_nil)) pe_int) pe_int (nomark _)))))
    (pss_one (ps_set (i := 9) sc_law.nd rfl (by first | exact Or.inl rfl | exact Or.inr rfl) pe_str))
    pss_nil)
  (pss_cut (ps_if (PW.pt (pw_and (pt_cmpR op_eq (pv 4) pe_int (nomark _)) (pw_and1 (pt_cmpR op_eq (pe_op op_mod (pe_callTy call_int1 (by rfl) T.n_int bo_int (pa_cons (pv 3) pa_nil)) pe_int) pe_int (nomark _)))))
    (pss_one (ps_set (i := 10) sc_law.nd rfl (by first | exact Or.inl rfl | exact Or.inr rfl) pe_str))
    pss_nil)
  (pss_cut (ps_if (PW.pt (pw_and (pt_cmpR op_eq (pv 4) pe_int (nomark _)) (pw_and1 (pt_cmpR op_eq (pe_op op_mod (pe_callTy call_int1 (by rfl) T.n_int bo_int (pa_cons (pv 3) pa_nil)) pe_int) pe_int (nomark _)))))
    (pss_one (ps_set (i := 8) sc_law.nd rfl (by first | exact Or.inl rfl | exact Or.inr rfl) (pe_ix ix_tup (pe_tup (pa_cons pe_str (pa_cons pe_str (pa_cons pe_str (pa_cons pe_str pa_nil))))) (pe_op op_mod (pe_op op_fdiv (pv 3) pe_int) pe_int) (fun _ _ => rfl))))
    pss_nil)
  (pss_cons (ps_set (i := 11) sc_law.nd rfl (by first | exact Or.inl rfl | exact Or.inr rfl) (pe_c c_law_block hr (by first | exact Nat.le_refl _ | decide | omega) rfl (pa_cons (pv 6) (pa_cons (pv 7) (pa_cons (pv 8) (pa_cons pe_int (pa_cons (pv 9) pa_nil)))))))
  (pss_cons (ps_set (i := 12) sc_law.nd rfl (by first | exact Or.inl rfl | exact Or.inr rfl) (pe_tup (pa_cons (pe_ix ix_tup (pe_tup (pa_cons pe_str (pa_cons pe_str pa_nil))) (pv 4) (fun _ _ => rfl)) (pa_cons (pe_cmpR op_eq (pe_op op_mod (pe_op op_fdiv (pv 3) pe_int) pe_int) (pv 4) (nomark _)) pa_nil))))
  (pss_cons (ps_set (i := 13) sc_law.nd rfl (by first | exact Or.inl rfl | exact Or.inr rfl) (pe_tup (pa_cons (pe_tup (pa_cons (pv 9) (pa_cons (pe_cmpR op_eq (pe_op op_mod (pe_op op_fdiv (pv 3) pe_int) pe_int) (pv 4) (nomark _)) pa_nil))) (pa_cons (pv 12) pa_nil))))
  (pss_cons (ps_set (i := 14) sc_law.nd rfl (by first | exact Or.inl rfl | exact Or.inr rfl) (pe_tup (pa_cons (pe_tup (pa_cons (pv 9) (pa_cons (pe_cmpR op_ne (pe_op op_mod (pe_op op_fdiv (pv 3) pe_int) pe_int) (pv 4) (nomark _)) pa_nil))) (pa_cons (pv 12) pa_nil))))
  (pss_cut (ps_if (pt_cmpR op_eq (pv 4) pe_int (nomark _))
    (pss_cons (ps_set (i := 13) sc_law.nd rfl (by first | exact Or.inl rfl | exact Or.inr rfl) (pe_revT (pv 13)))
    (pss_one (ps_set (i := 14) sc_law.nd rfl (by first | exact Or.inl rfl | exact Or.inr rfl) (pe_revT (pv 14)))))
    pss_nil)
  (pss_cons (ps_set (i := 15) sc_law.nd rfl (by first | exact Or.inl rfl | exact Or.inr rfl) (pe_lst (pa_cons (pe_callB (cr_sum rfl) (by rfl) T.n_sum bo_sum (pa_cons (pe_lc (own := [("stage", 28)]) (g := gName 28) (tt := tYes) rfl sc_law.nd (pi_list (pv 6)) (blkOk_by (N := ["script", "half", "parts", "way", "k", "own", "stages", "paid", "names", "option", "title", "block", "more", "options", "turned", "moves", "rounds", "game", "other", "both", "one", "two", "clash", "pair", "joined", "e", "count", "value", "stage", "row"]) (sc := fnScope s_law) (by decide +kernel)) (fun _ _ _ _ _ => pg_name (i := 28) sc_law.nd rfl (Or.inl rfl)) (fun _ _ _ _ _ => pts_nil) (fun _ _ _ _ _ => (pe_callTy call_int1 (by rfl) T.n_int bo_int (pa_cons (pe_cmpR op_ne (pe_ix (ix_tupK (K := K)) (pv 28) pe_int (fun _ _ => rfl)) pe_int (nomark _)) pa_nil)))) pa_nil)) pa_nil)))
  (pss_cons (ps_set (i := 16) sc_law.nd rfl (by first | exact Or.inl rfl | exact Or.inr rfl) (pe_c c_law_more hr (by first | exact Nat.le_refl _ | decide | omega) rfl (pa_cons (pe_callB call_abs (by rfl) T.n_abs bo_abs (pa_cons (pe_c c_law_cell hr (by first | exact Nat.le_refl _ | decide | omega) rfl (pa_cons (pv 5) (pa_cons pe_int pa_nil))) pa_nil)) (pa_cons (pv 6) (pa_cons (pv 8) (pa_cons (pv 9) (pa_cons (pv 10) pa_nil)))))))
  (pss_cons (ps_setLc (i := 16) (own := [("row", 29)]) (g := gName 29) (tt := tYes) rfl sc_law.nd rfl rfl (sw_true rfl rfl rfl (by decide +kernel)) (pi_list (pv 16)) (blkOk_by (N := ["script", "half", "parts", "way", "k", "own", "stages", "paid", "names", "option", "title", "block", "more", "options", "turned", "moves", "rounds", "game", "other", "both", "one", "two", "clash", "pair", "joined", "e", "count", "value", "stage", "row"]) (sc := fnScope s_law) (by decide +kernel)) (fun _ _ _ _ _ => pg_name (i := 29) sc_law.nd rfl (Or.inl rfl)) (fun _ _ _ _ _ => pts_nil) (fun _ _ _ _ _ => (pe_tup (pa_cons (pe_ix (ix_tupK (K := K)) (pv 29) pe_int (fun _ _ => rfl)) (pa_cons (pe_c c_law_numbered hr (by first | exact Nat.le_refl _ | decide | omega) rfl (pa_cons (pe_ix (ix_tupK (K := K)) (pv 29) pe_int (fun _ _ => rfl)) (pa_cons (pv 15) pa_nil))) pa_nil)))))
  (pss_cons (ps_set (i := 17) sc_law.nd rfl (by first | exact Or.inl rfl | exact Or.inr rfl) (pe_mk c_Game hr (by first | exact Nat.le_refl _ | decide | omega) rfl (pa_cons (pv 13) (pa_cons (pe_c c_law_sizes hr (by first | exact Nat.le_refl _ | decide | omega) rfl (pa_cons (pv 6) (pa_cons (pv 8) pa_nil))) (pa_cons (pe_callTy call_tuple_of (by rfl) T.n_tuple bo_tuple (pa_cons (pe_op op_cat (pe_lst (pa_cons (pe_tup (pa_cons (pv 10) (pa_cons (pv 11) pa_nil))) pa_nil)) (pv 16)) pa_nil)) pa_nil)))))
  (pss_cons (ps_if (pt_not (pt_val (pe_c c_law_swaps hr (by first | exact Nat.le_refl _ | decide | omega) rfl (pa_cons (pv 6) (pa_cons (pv 7) (pa_cons (pv 8) (pa_cons (pv 9) (pa_cons (pv 17) (pa_cons (pv 16) pa_nil)))))))))
    (pss_one (ps_ret pe_bl))
    pss_nil)
  (pss_cons (ps_set (i := 18) sc_law.nd rfl (by first | exact Or.inl rfl | exact Or.inr rfl) (pe_c c_switched hr (by first | exact Nat.le_refl _ | decide | omega) rfl (pa_cons (pv 17) (pa_cons (pe_lst (pa_cons (pv 9) pa_nil)) pa_nil))))
  (pss_cons (ps_if (pt_not (pt_val (pe_c c_law_is hr (by first | exact Nat.le_refl _ | decide | omega) rfl (pa_cons (pv 18) (pa_cons (pv 14) (pa_cons (pe_fld (pv 17) rfl) (pa_cons (pe_fld (pv 17) rfl) pa_nil)))))))
    (pss_one (ps_ret pe_bl))
    pss_nil)
  (pss_cons (ps_if (PW.pt (pw_or (pt_cmpR (op_ownN c_Game_eq T.nG T.mG hr (by first | exact Nat.le_refl _ | decide | omega)) (pe_c c_switched hr (by first | exact Nat.le_refl _ | decide | omega) rfl (pa_cons (pv 18) (pa_cons (pe_lst (pa_cons (pv 9) pa_nil)) pa_nil))) (pv 17) (nomark _)) (pw_or1 (pt_cmpR (op_ownN c_Game_eq T.nG T.mG hr (by first | exact Nat.le_refl _ | decide | omega)) (pe_c c_switched hr (by first | exact Nat.le_refl _ | decide | omega) rfl (pa_cons (pv 17) (pa_cons (pe_lst pa_nil) pa_nil))) (pv 17) (nomark _)))))
    (pss_one (ps_ret pe_bl))
    pss_nil)
  (pss_cons (ps_set (i := 19) sc_law.nd rfl (by first | exact Or.inl rfl | exact Or.inr rfl) (pe_callTy call_tuple_of (by rfl) T.n_tuple bo_tuple (pa_cons (pe_lc (own := [("row", 29)]) (g := gName 29) (tt := tYes) rfl sc_law.nd (pi_tup (pv 13)) (blkOk_by (N := ["script", "half", "parts", "way", "k", "own", "stages", "paid", "names", "option", "title", "block", "more", "options", "turned", "moves", "rounds", "game", "other", "both", "one", "two", "clash", "pair", "joined", "e", "count", "value", "stage", "row"]) (sc := fnScope s_law) (by decide +kernel)) (fun _ _ _ _ _ => pg_name (i := 29) sc_law.nd rfl (Or.inl rfl)) (fun _ _ _ _ _ => pts_nil) (fun _ _ _ _ _ => (pe_tup (pa_cons (pe_ix (ix_tupK (K := K)) (pv 29) pe_int (fun _ _ => rfl)) (pa_cons (pe_not (pe_ix (ix_tupK (K := K)) (pv 29) pe_int (fun _ _ => rfl))) pa_nil))))) pa_nil)))
  (pss_cons (ps_if (pt_not (pt_val (pe_c c_law_is hr (by first | exact Nat.le_refl _ | decide | omega) rfl (pa_cons (pe_c c_switched hr (by first | exact Nat.le_refl _ | decide | omega) rfl (pa_cons (pv 17) (pa_cons (pe_lst (pa_cons (pe_ix ix_tup (pv 12) pe_int (fun _ _ => rfl)) (pa_cons (pv 9) pa_nil))) pa_nil))) (pa_cons (pv 19) (pa_cons (pe_fld (pv 17) rfl) (pa_cons (pe_fld (pv 17) rfl) pa_nil)))))))
    (pss_one (ps_ret pe_bl))
    pss_nil)
  (pss_cons (ps_if (PW.pt (pw_or (pt_not (pt_val (pe_c c_law_refused hr (by first | exact Nat.le_refl _ | decide | omega) rfl (pa_cons (pv 17) (pa_cons (pe_lst (pa_cons pe_str pa_nil)) pa_nil))))) (pw_or1 (pt_not (pt_val (pe_c c_law_refused hr (by first | exact Nat.le_refl _ | decide | omega) rfl (pa_cons (pv 17) (pa_cons (pe_lst (pa_cons (pv 9) (pa_cons (pv 9) pa_nil))) pa_nil))))))))
    (pss_one (ps_ret pe_bl))
    pss_nil)
  (pss_one (ps_expr (pe_bm PySem.F.plainAttrs_list PySem.F.slot_list_append PySem.F.type_list_append mt_append (pv 2) (pa_cons (pe_tup (pa_cons (pv 17) (pa_cons (pv 6) (pa_cons (pv 7) (pa_cons (pv 8) (pa_cons (pv 9) (pa_cons (pv 10) (pa_cons (pe_ix ix_list (pv 15) pe_int (fun _ _ => rfl)) (pa_cons (pv 16) pa_nil))))))))) pa_nil))))))))))))))))))))))))))))))
(pss_cons (ps_set (i := 20) sc_law.nd rfl (by first | exact Or.inl rfl | exact Or.inr rfl) (pe_ix ix_tup (pe_ix ix_list (pv 2) pe_int (fun _ _ => rfl)) pe_int (fun _ _ => rfl)))
(pss_cons (ps_set (i := 21) sc_law.nd rfl (by first | exact Or.inl rfl | exact Or.inr rfl) (pe_ix ix_tup (pe_ix ix_list (pv 2) pe_int (fun _ _ => rfl)) pe_int (fun _ _ => rfl)))
(pss_cut (ps_set (i := 22) sc_law.nd rfl (by first | exact Or.inl rfl | exact Or.inr rfl) (pe_or (pe_cmpR op_eq (pe_ix ix_tup (pe_ix ix_list (pv 2) pe_int (fun _ _ => rfl)) pe_int (fun _ _ => rfl)) pe_str (nomark _)) (pe_one (pe_cmpR op_eq (pe_ix ix_tup (pe_ix ix_list (pv 2) pe_int (fun _ _ => rfl)) pe_int (fun _ _ => rfl)) pe_str (nomark _)))))
(pss_cons (ps_for PassesOwn.never rfl (pi_tup (pe_fld (pv 21) rfl)) (pg_name (i := 23) sc_law.nd rfl (by first | exact Or.inl rfl | exact Or.inr rfl))
  (pss_one (ps_if (pt_cmpR op_in_seq (pe_ix ix_tup (pv 23) pe_int (fun _ _ => rfl)) (pe_lc (own := [("own", 5)]) (g := gName 5) (tt := tYes) rfl sc_law.nd (pi_tup (pe_fld (pv 20) rfl)) (blkOk_by (N := ["script", "half", "parts", "way", "k", "own", "stages", "paid", "names", "option", "title", "block", "more", "options", "turned", "moves", "rounds", "game", "other", "both", "one", "two", "clash", "pair", "joined", "e", "count", "value", "stage", "row"]) (sc := fnScope s_law) (by decide +kernel)) (fun _ _ _ _ _ => pg_name (i := 5) sc_law.nd rfl (Or.inl rfl)) (fun _ _ _ _ _ => pts_nil) (fun _ _ _ _ _ => (pe_ix (ix_tupK (K := K)) (pv 5) pe_int (fun _ _ => rfl)))) (by rfl))
    (pss_one (ps_set (i := 22) sc_law.nd rfl (by first | exact Or.inl rfl | exact Or.inr rfl) pe_bl))
    pss_nil)))
(pss_cons (ps_try_as (i := 25) rfl rfl sc_law.nd rfl rfl ⟨rfl, by decide, .inl T.m_GameError⟩ takes0 (fun W pn xe tk ps =>
  (pss_one (ps_set (i := 24) sc_law.nd rfl (by first | exact Or.inl rfl | exact Or.inr rfl) (pe_cS c_before hr (by first | exact Nat.le_refl _ | decide | omega) rfl tk (pa_cons (pv 20) (pa_cons (pv 21) pa_nil))))))
  (fun a oe cls d pn hz hf =>
  (pss_one (ps_ret (pe_and (pv 22) (pe_and (pe_callB (call_isX hz hf) (by rfl) T.n_isinstance bo_isinstance (pa_cons (pv 25) (pa_cons (pe_glob (v := .ref _) rfl T.m_BadEdit rfl) pa_nil))) (pe_one (pe_cmpR op_eq (pe_xf T.f_BadEdit T.no_BadEdit hz hf (pv 25)) pe_str (nomark _)))))))))
(pss_cons (ps_set (i := 26) sc_law.nd rfl (by first | exact Or.inl rfl | exact Or.inr rfl) (pe_lst (pa_cons (pe_ix ix_tup (pe_ix ix_list (pv 2) pe_int (fun _ _ => rfl)) pe_int (fun _ _ => rfl)) pa_nil)))
(pss_cons (ps_set (i := 11) sc_law.nd rfl (by first | exact Or.inl rfl | exact Or.inr rfl) (pe_c c_law_numbered hr (by first | exact Nat.le_refl _ | decide | omega) rfl (pa_cons (pe_c c_law_block hr (by first | exact Nat.le_refl _ | decide | omega) rfl (pa_cons (pe_ix ix_tup (pe_ix ix_list (pv 2) pe_int (fun _ _ => rfl)) pe_int (fun _ _ => rfl)) (pa_cons (pe_ix ix_tup (pe_ix ix_list (pv 2) pe_int (fun _ _ => rfl)) pe_int (fun _ _ => rfl)) (pa_cons (pe_ix ix_tup (pe_ix ix_list (pv 2) pe_int (fun _ _ => rfl)) pe_int (fun _ _ => rfl)) (pa_cons pe_int (pa_cons (pe_ix ix_tup (pe_ix ix_list (pv 2) pe_int (fun _ _ => rfl)) pe_int (fun _ _ => rfl)) pa_nil)))))) (pa_cons (pv 26) pa_nil))))
(pss_cons (ps_set (i := 16) sc_law.nd rfl (by first | exact Or.inl rfl | exact Or.inr rfl) (pe_op op_cat (pe_lst (pa_cons (pe_tup (pa_cons (pe_ix ix_tup (pe_ix ix_list (pv 2) pe_int (fun _ _ => rfl)) pe_int (fun _ _ => rfl)) (pa_cons (pv 11) pa_nil))) pa_nil)) (pe_lc (own := [("row", 29)]) (g := gName 29) (tt := tYes) rfl sc_law.nd (pi_list (pe_ix ix_tup (pe_ix ix_list (pv 2) pe_int (fun _ _ => rfl)) pe_int (fun _ _ => rfl))) (blkOk_by (N := ["script", "half", "parts", "way", "k", "own", "stages", "paid", "names", "option", "title", "block", "more", "options", "turned", "moves", "rounds", "game", "other", "both", "one", "two", "clash", "pair", "joined", "e", "count", "value", "stage", "row"]) (sc := fnScope s_law) (by decide +kernel)) (fun _ _ _ _ _ => pg_name (i := 29) sc_law.nd rfl (Or.inl rfl)) (fun _ _ _ _ _ => pts_nil) (fun _ _ _ _ _ => (pe_tup (pa_cons (pe_ix (ix_tupK (K := K)) (pv 29) pe_int (fun _ _ => rfl)) (pa_cons (pe_c c_law_numbered hr (by first | exact Nat.le_refl _ | decide | omega) rfl (pa_cons (pe_ix (ix_tupK (K := K)) (pv 29) pe_int (fun _ _ => rfl)) (pa_cons (pv 26) pa_nil))) pa_nil)))))))
(pss_one (ps_ret (pe_and (pe_not (pv 22)) (pe_one (pe_c c_law_is hr (by first | exact Nat.le_refl _ | decide | omega) rfl (pa_cons (pv 24) (pa_cons (pe_op op_catA (pe_fld (pv 20) rfl) (pe_fld (pv 21) rfl)) (pa_cons (pe_op op_catA (pe_fld (pv 20) rfl) (pe_fld (pv 21) rfl)) (pa_cons (pe_op op_catA (pe_fld (pv 20) rfl) (pe_callTy call_tuple_of (by rfl) T.n_tuple bo_tuple (pa_cons (pv 16) pa_nil))) pa_nil))))))))))))))))))))), ?_⟩
    refine ⟨_, rfl, _, _, rfl, .inl hS, _, _, rfl, rfl, ⟨by decide, by decide⟩, Nat.zero_le _, fun PA nPA => ?_⟩
    have K0 := Keep.new (W := []) (o := .lst []) nPA
    refine ⟨_, rfl, a, ns, 0, rfl, K0.seqL hS (by simp), by show 2 ≤ sizeLine; decide, fun t nt => ?_⟩
    generalize ns.getD 0 0 = way
    obtain ⟨half, eh⟩ : ∃ half : Int, half = ((ns.map V.int).length : Int) / 2 := ⟨_, rfl⟩
    have K1 := K0.then_new (o := .tup [.int 0, .int 1]) nt
    have hPA1 := Keep.new (W := []) (o := .tup [.int 0, .int 1]) nt _ _ (upd_same (H := H) (a := PA) (o := .lst [])) (by simp)
    have ht1 := upd_same (H := upd H PA (.lst [])) (a := t) (o := .tup [.int 0, .int 1])
    refine ⟨t, rfl, ⟨_, SqT.of ht1⟩, for_tup (K := K) (a := t) (xs := [.int 0, .int 1]) (fun (i : Nat) (σ : List (Option V)) (H' : Hp) => ∃ (qs : List Addr) (o4 o5 o6 o7 o8 o9 o10 o11 o12 o13 o14 o15 o16 o17 o18 o19 : Option V), σ = [some (.ref a), some (.int half), some (.ref PA), some (.int way), o4, o5, o6, o7, o8, o9, o10, o11, o12, o13, o14, o15, o16, o17, o18, o19, none, none, none, none, none, none, none, none, none, none] ∧ H' PA = some (.lst (qs.map V.ref)) ∧ qs.length = i ∧ (∀ j q, qs[j]? = some q → PartAt C_Game H' PA q way j) ∧ H' t = some (.tup [.int 0, .int 1]) ∧ Keep [] H H') ⟨[], none, none, none, none, none, none, none, none, none, none, none, none, none, none, none, none, by rw [eh]; rfl, hPA1, rfl, (fun j q h => by simp at h), ht1, K1⟩ ?_ ?_ ?_⟩
    · rintro i σ H' _ ⟨qs, o4, o5, o6, o7, o8, o9, o10, o11, o12, o13, o14, o15, o16, o17, o18, o19, rfl, _, _, _, h, _⟩
      exact SqT.of h
    · rintro i x σ H1 hxi ⟨qs, o4, o5, o6, o7, o8, o9, o10, o11, o12, o13, o14, o15, o16, o17, o18, o19, rfl, hPA, hql, hq, htt, K1⟩
      have hi : i < 2 := (List.getElem?_eq_some_iff.mp hxi).1
      have ex : x = .int (i : Int) := by
        rcases i with _ | _ | i
        · simpa using hxi.symm
        · simpa using hxi.symm
        · omega
      subst ex
      refine ⟨_, rfl, _, rfl, _, rfl, _, _, rfl, rfl, .inr ⟨by omega, by omega⟩, _, rfl, _, rfl, _, rfl, _, _, rfl, rfl, _, _, rfl, rfl, .inr ⟨by omega, by omega⟩, _, rfl, a, _, rfl, K1.seqL hS (by simp), fun ow now => ?_⟩
      obtain ⟨ms, em⟩ := cutAny ns (some (half * (i : Int))) (some (half * ((i : Int) + 1)))
      rw [em]
      have A1 := Keep.new (W := []) (o := .lst (ms.map V.int)) now
      refine ⟨_, rfl, ow, ms, rfl, SqL.of upd_same, fun l xs0 sts0 H2 nl hl hx0 hG0 h4 K2 => ⟨_, rfl, l, _, rfl, SqL.of hl, fun a1 na1 => ?_⟩⟩
      rw [cut3]
      have A2 := Keep.new (W := []) (o := .lst (xs0.take 3)) na1
      have A12 := (A1.trans K2).trans A2
      have how := A2 _ _ (K2 _ _ (upd_same (H := H1) (a := ow) (o := .lst (ms.map V.int))) (by simp)) (by simp)
      have hx : TDs (upd H2 a1 (.lst (xs0.take 3))) (xs0.take 3) ((sts0.take 3).map dS) := by
        rw [List.map_take]; exact (hx0.take 3).tk (TK.new na1)
      have hG := hG0.take 3
      have h3 : (sts0.take 3).length ≤ 3 := by rw [List.length_take]; omega
      have ha1 := upd_same (H := H2) (a := a1) (o := .lst (xs0.take 3))
      have na1' : H1 a1 = none := (A1.trans K2).free na1
      revert A12 how hx ha1
      generalize upd H2 a1 (.lst (xs0.take 3)) = H3
      generalize sts0.take 3 = sts at hG h3
      generalize xs0.take 3 = xs
      intro A12 how hx ha1
      obtain ⟨pl, _⟩ := pathsZ_ok (fun q hq => (hG.ok q hq).2.2.1) sts.length
      rw [List.take_length] at pl
      change ((pathsZ (szs sts)).length : Int) = _ at pl
      have hpr := hG.pr
      refine ⟨_, rfl, ow, ms, 1, rfl, SqL.of how, _, rfl, a1, xs, sts, rfl, ha1, hx, hG, by omega, fun Lp ps H4 _ _ hLp hP B1 => ?_⟩
      have hps := paired_len hP
      change ps.length = (pathsZ (szs sts)).length at hps
      refine ⟨_, _, rfl, .inl (SqL.of hLp), _, (ps.map V.ref).length, 21, rfl, by rw [List.length_map]; omega, by decide, by decide, fun Lr zs H5 nLr hLr lz _ B2 => ⟨Lr, rfl, ⟨_, SqL.of hLr⟩, fun Dp nDp => ?_⟩⟩
      rw [List.length_map] at lz
      refine lc_list (K := K) (a := Lr) (xs := zs.map V.int) (fun j H' => H' Dp = some (.lst (((zs.take j).map fun z => z - 10).map V.int)) ∧ Keep [] H5 H') ⟨upd_same, Keep.new nDp⟩ ?_ ?_ ?_
      · rintro j H' _ ⟨_, kk⟩
        exact SqL.of (kk _ _ hLr (by simp))
      · rintro j y H' hy ⟨hD, kk⟩
        obtain ⟨z, hz, rfl⟩ := ints_get hy
        have hj : j < zs.length := (List.getElem?_eq_some_iff.mp hz).1
        refine ⟨rfl, yes_then ⟨_, rfl, _, _, rfl, rfl, _, hD, by rw [List.length_map, List.length_map, List.length_take]; exact smallL (by omega), ?_, kk.then_own nDp⟩⟩
        rw [upd_same, take_snoc hz, List.map_append, List.map_append]; rfl
      rintro H6 ⟨hDp, B3⟩
      rw [List.length_map, List.take_length] at hDp
      have hpl : (zs.map fun z => z - 10).length = (pathsZ (szs sts)).length := by rw [List.length_map, lz, hps]
      generalize (zs.map fun z => z - 10) = paid at hDp hpl
      have B13 := (B1.trans B2).trans B3
      have A6 := A12.trans B13
      have ha1 := B13 _ _ ha1 (by simp)
      have hx := hx.tk B13.tk
      have how := B13 _ _ how (by simp)
      have nDp1 : H1 Dp = none := ((A12.trans B1).trans B2).free nDp
      clear B1 B2 B3 B13 hLr hLp hP nDp
      refine ⟨by show 2 ≤ sizeLine; decide, fun u1 nu1 => ⟨_, rfl, _, _, _, _, rfl, rfl, SqT.of upd_same, at2 hi, by show 2 ≤ sizeLine; decide, fun u2 nu2 => ⟨_, rfl, _, _, _, _, rfl, rfl, SqT.of upd_same, at2 hi, by show 2 ≤ sizeLine; decide, fun u3 nu3 => ⟨_, rfl, _, _, _, _, rfl, rfl, SqT.of upd_same, at2 hi, ?_⟩⟩⟩⟩
      have C13 := ((Keep.new (W := []) (o := .tup [.str "abc", .str "xyz"]) nu1).trans (Keep.new (W := []) (o := .tup [.str "o", .str "p"]) nu2)).trans (Keep.new (W := []) (o := .tup [.str "r", .str "s"]) nu3)
      revert C13
      generalize upd (upd (upd H6 u1 (.tup [.str "abc", .str "xyz"])) u2 (.tup [.str "o", .str "p"])) u3 (.tup [.str "r", .str "s"]) = H7
      intro C13
      refine ⟨fun σ H' => σ = [some (.ref a), some (.int half), some (.ref PA), some (.int way), some (.int (i : Int)), some (.ref ow), some (.ref a1), some (.ref Dp), some (.str (if i = 0 then ("abc" : Str) else "xyz")), some (.str (opF i way)), some (.str (if i = 0 then ("r" : Str) else "s")), o11, o12, o13, o14, o15, o16, o17, o18, o19, none, none, none, none, none, none, none, none, none, none] ∧ H' = H7, ?_, ?_⟩
      · refine ⟨_, rfl, rfl, _, rfl, iteD (fun e => ⟨_, rfl, .inl ⟨_, rfl, _, _, rfl, rfl, by show (0 : Int) < 9; decide, rfl, _, rfl, iteD (fun e2 => ⟨?_, rfl⟩) (fun e2 => ⟨?_, rfl⟩)⟩⟩) (fun e => ⟨?_, rfl⟩)⟩
        · rw [show opF i way = "o" by unfold opF; rw [if_neg (by have := V.int.inj e; omega), if_pos (V.int.inj e2)]] <;> rfl
        · rw [show opF i way = if i = 0 then ("o" : Str) else "p" by unfold opF; by_cases z : i = 0; rw [if_pos z, if_pos z]; rw [if_neg z, if_neg z, if_neg (fun y => e2 (congrArg V.int y))]] <;> rfl
        · have z : i = 0 := by
            rcases i with _ | _ | i
            · rfl
            · exact absurd rfl e
            · omega
          rw [show opF i way = if i = 0 then ("o" : Str) else "p" by unfold opF; rw [if_pos z, if_pos z]] <;> rfl
      rintro σ H8 ⟨rfl, rfl⟩
      refine ⟨fun σ H' => σ = [some (.ref a), some (.int half), some (.ref PA), some (.int way), some (.int (i : Int)), some (.ref ow), some (.ref a1), some (.ref Dp), some (.str (if i = 0 then ("abc" : Str) else "xyz")), some (.str (opF i way)), some (.str (tiF i way)), o11, o12, o13, o14, o15, o16, o17, o18, o19, none, none, none, none, none, none, none, none, none, none] ∧ H' = H8, ?_, ?_⟩
      · refine ⟨_, rfl, rfl, _, rfl, iteD (fun e => ⟨_, rfl, .inl ⟨_, rfl, _, _, rfl, rfl, by show (0 : Int) < 9; decide, rfl, _, rfl, iteD (fun e2 => ⟨?_, rfl⟩) (fun e2 => ⟨?_, rfl⟩)⟩⟩) (fun e => ⟨?_, rfl⟩)⟩
        · rw [show tiF i way = "r" by unfold tiF; rw [if_neg (by have := V.int.inj e; omega), if_pos (V.int.inj e2)]] <;> rfl
        · rw [show tiF i way = if i = 0 then ("r" : Str) else "s" by unfold tiF; by_cases z : i = 0; rw [if_pos z, if_pos z]; rw [if_neg z, if_neg z, if_neg (fun y => e2 (congrArg V.int y))]] <;> rfl
        · have z : i = 0 := by
            rcases i with _ | _ | i
            · rfl
            · exact absurd rfl e
            · omega
          rw [show tiF i way = if i = 0 then ("r" : Str) else "s" by unfold tiF; rw [if_pos z, if_pos z]] <;> rfl
      rintro σ H9 ⟨rfl, rfl⟩
      refine ⟨fun σ H' => σ = [some (.ref a), some (.int half), some (.ref PA), some (.int way), some (.int (i : Int)), some (.ref ow), some (.ref a1), some (.ref Dp), some (.str (nmF i way)), some (.str (opF i way)), some (.str (tiF i way)), o11, o12, o13, o14, o15, o16, o17, o18, o19, none, none, none, none, none, none, none, none, none, none] ∧ Keep [] H9 H', ?_, ?_⟩
      · have ne0 : ∀ {p : Prop}, V.int (i : Int) = V.int 1 → i ≠ 0 := fun e z => by have := V.int.inj e; omega
        refine ⟨_, rfl, rfl, _, rfl, iteD (fun e => ⟨_, rfl, .inl ⟨_, rfl, _, _, rfl, rfl, by show (0 : Int) < 9; decide, rfl, _, rfl, iteD (fun e2 => ?_) (fun e2 => ⟨?_, Keep.refl _ _⟩)⟩⟩) (fun e => ⟨?_, Keep.refl _ _⟩)⟩
        · have z : i ≠ 0 := fun z => by have := V.int.inj e; omega
          refine ⟨by show 4 ≤ sizeLine; decide, fun u nu => ?_⟩
          have at4 : atI [V.str "xbz", V.str "bxz", V.str "zcx", V.str "cba"] (way / 63 % 4) = some (.str (nmF i way)) := by
            unfold nmF
            rw [if_neg z, if_pos (V.int.inj e2)]
            have h4 : way / 63 % 4 = 0 ∨ way / 63 % 4 = 1 ∨ way / 63 % 4 = 2 ∨ way / 63 % 4 = 3 := by omega
            rcases h4 with h | h | h | h <;> rw [h] <;> rfl
          exact ⟨_, rfl, _, _, rfl, rfl, ⟨by decide, by decide⟩, _, _, rfl, rfl, by show (0 : Int) < 4; decide, _, _, _, _, rfl, rfl, SqT.of upd_same, at4, rfl, Keep.new nu⟩
        · have z : i ≠ 0 := fun z => by have := V.int.inj e; omega
          rw [show nmF i way = (if i = 0 then ("abc" : Str) else "xyz") by unfold nmF; rw [if_neg z, if_neg z, if_neg (fun y => e2 (congrArg V.int y))]] <;> rfl
        · have z : i = 0 := by
            rcases i with _ | _ | i
            · rfl
            · exact absurd rfl e
            · omega
          rw [show nmF i way = (if i = 0 then ("abc" : Str) else "xyz") by unfold nmF; rw [if_pos z, if_pos z]] <;> rfl
      rintro σ H8 ⟨rfl, K8'⟩
      obtain ⟨nm1, nm2, nm3⟩ := nmF_ok i way
      obtain ⟨op1, op2⟩ := opF_ok i way
      obtain ⟨ti1, ti2⟩ := tiF_ok i way
      have A8 := (A6.trans C13).trans K8'
      have K8 := C13.trans K8'
      have hx := hx.tk K8.tk
      have ha1 := K8 _ _ ha1 (by simp)
      have hDp := K8 _ _ hDp (by simp)
      have how := K8 _ _ how (by simp)
      refine ⟨_, rfl, _, rfl, _, rfl, _, rfl, a1, Dp, xs, sts, paid, _, _, rfl, ha1, hx, hG, h3, hDp, hpl, op2, nm1, nm2, fun rb H10 trb C10 => ?_⟩
      refine ⟨by show 2 ≤ sizeLine; decide, fun v1 m1 => ⟨_, rfl, _, _, _, _, rfl, rfl, SqT.of upd_same, at2 hi, _, rfl, _, _, rfl, rfl, ⟨by decide, by decide⟩, _, _, rfl, rfl, by show (0 : Int) < 2; decide, _, rfl, rfl, by show 2 ≤ sizeLine; decide, fun v2 m2 => ?_⟩⟩
      have D1 := Keep.new (W := []) (o := .tup [.str "u", .str "v"]) m1
      have D2 := Keep.new (W := []) (o := .tup [.str (if i = 0 then ("u" : Str) else "v"), .bl (decide (V.int (way / 18 % 2) = V.int (i : Int)))]) m2
      refine ⟨_, rfl, _, rfl, _, _, rfl, rfl, ⟨by decide, by decide⟩, _, _, rfl, rfl, by show (0 : Int) < 2; decide, _, rfl, rfl, by show 2 ≤ sizeLine; decide, fun v3 m3 => ⟨_, rfl, by show 2 ≤ sizeLine; decide, fun v4 m4 => ?_⟩⟩
      have D3 := Keep.new (W := []) (o := .tup [.str (opF i way), .bl (decide (V.int (way / 9 % 2) = V.int (i : Int)))]) m3
      have D4 := Keep.new (W := []) (o := .tup [.ref v3, .ref v2]) m4
      refine ⟨_, rfl, _, rfl, _, _, rfl, rfl, ⟨by decide, by decide⟩, _, _, rfl, rfl, by show (0 : Int) < 2; decide, _, rfl, rfl, by show 2 ≤ sizeLine; decide, fun v5 m5 => ⟨_, rfl, by show 2 ≤ sizeLine; decide, fun v6 m6 => ?_⟩⟩
      have D5 := Keep.new (W := []) (o := .tup [.str (opF i way), .bl (!decide (V.int (way / 9 % 2) = V.int (i : Int)))]) m5
      have D6 := Keep.new (W := []) (o := .tup [.ref v5, .ref v2]) m6
      have D36 := ((D3.trans D4).trans D5).trans D6
      have D16 := (D1.trans D2).trans D36
      have hv2 := D36 _ _ (upd_same (H := upd H10 v1 (.tup [.str "u", .str "v"])) (a := v2) (o := .tup [.str (if i = 0 then ("u" : Str) else "v"), .bl (decide (V.int (way / 18 % 2) = V.int (i : Int)))])) (by simp)
      have hv3 := D6 _ _ (D5 _ _ (D4 _ _ (upd_same (H := upd (upd H10 v1 (.tup [.str "u", .str "v"])) v2 (.tup [.str (if i = 0 then ("u" : Str) else "v"), .bl (decide (V.int (way / 18 % 2) = V.int (i : Int)))])) (a := v3) (o := .tup [.str (opF i way), .bl (decide (V.int (way / 9 % 2) = V.int (i : Int)))])) (by simp)) (by simp)) (by simp)
      have hv4 := D6 _ _ (D5 _ _ (upd_same (a := v4) (o := .tup [.ref v3, .ref v2])) (by simp)) (by simp)
      have hv5 := D6 _ _ (upd_same (a := v5) (o := .tup [.str (opF i way), .bl (!decide (V.int (way / 9 % 2) = V.int (i : Int)))])) (by simp)
      have hv6 := upd_same (H := (upd (upd (upd (upd (upd H10 v1 (.tup [.str "u", .str "v"])) v2 (.tup [.str (if i = 0 then ("u" : Str) else "v"), .bl (decide (V.int (way / 18 % 2) = V.int (i : Int)))])) v3 (.tup [.str (opF i way), .bl (decide (V.int (way / 9 % 2) = V.int (i : Int)))])) v4 (.tup [.ref v3, .ref v2])) v5 (.tup [.str (opF i way), .bl (!decide (V.int (way / 9 % 2) = V.int (i : Int)))]))) (a := v6) (o := .tup [.ref v5, .ref v2])
      clear D1 D2 D3 D4 D5 D6 D36
      revert D16 hv2 hv3 hv4 hv5 hv6
      generalize upd (upd (upd (upd (upd (upd H10 v1 (.tup [.str "u", .str "v"])) v2 (.tup [.str (if i = 0 then ("u" : Str) else "v"), .bl (decide (V.int (way / 18 % 2) = V.int (i : Int)))])) v3 (.tup [.str (opF i way), .bl (decide (V.int (way / 9 % 2) = V.int (i : Int)))])) v4 (.tup [.ref v3, .ref v2])) v5 (.tup [.str (opF i way), .bl (!decide (V.int (way / 9 % 2) = V.int (i : Int)))])) v6 (.tup [.ref v5, .ref v2]) = H11
      intro D16 hv2 hv3 hv4 hv5 hv6
      have tO : TDs H11 [.ref v3, .ref v2] ((osB i way).map dO) := by
        refine .cons (.tup hv3 (.cons (.str _) (.cons ?_ .nil))) (.cons (.tup hv2 (.cons (.str _) (.cons ?_ .nil))) .nil)
        · rw [dVI]; exact .bl _
        · rw [dVI]; exact .bl _
      have tT : TDs H11 [.ref v5, .ref v2] ((osTB i way).map dO) := by
        refine .cons (.tup hv5 (.cons (.str _) (.cons ?_ .nil))) (.cons (.tup hv2 (.cons (.str _) (.cons ?_ .nil))) .nil)
        · rw [dVI]; exact .bl _
        · rw [dVI]; exact .bl _
      refine ⟨fun σ H' => ∃ vO vT : Addr, σ = [some (.ref a), some (.int half), some (.ref PA), some (.int way), some (.int (i : Int)), some (.ref ow), some (.ref a1), some (.ref Dp), some (.str (nmF i way)), some (.str (opF i way)), some (.str (tiF i way)), some (.ref rb), some (.ref v2), some (.ref vO), some (.ref vT), o15, o16, o17, o18, o19, none, none, none, none, none, none, none, none, none, none] ∧ TD H' (.ref vO) (.tuple ((osF i way).map dO)) ∧ TD H' (.ref vT) (.tuple ((osT i way).map dO)) ∧ Keep [] H11 H', ?_, ?_⟩
      · refine ⟨_, rfl, rfl, _, rfl, iteD (fun e => ?_) (fun e => ?_)⟩
        · have z : i ≠ 0 := fun z => by have := V.int.inj e; omega
          refine ⟨_, rfl, v4, _, rfl, SqT.of hv4, fun p np => ⟨_, rfl, v6, _, rfl, SqT.of (Keep.new (W := []) np _ _ hv6 (by simp)), fun p2 np2 => ?_⟩⟩
          have E1 := Keep.new (W := []) (o := .tup ([V.ref v3, .ref v2].reverse)) np
          have E2 := Keep.new (W := []) (o := .tup ([V.ref v5, .ref v2].reverse)) np2
          refine ⟨p, p2, rfl, ?_, ?_, E1.trans E2⟩
          · unfold osF
            rw [if_neg z, List.map_reverse]
            exact .tup (E2 _ _ upd_same (by simp)) (tO.reverse.tk (E1.trans E2).tk)
          · unfold osT
            rw [if_neg z, List.map_reverse]
            exact .tup upd_same (tT.reverse.tk (E1.trans E2).tk)
        · have z : i = 0 := by
            rcases i with _ | _ | i
            · rfl
            · exact absurd rfl e
            · omega
          refine ⟨v4, v6, rfl, ?_, ?_, Keep.refl _ _⟩
          · unfold osF; rw [if_pos z]; exact .tup hv4 tO
          · unfold osT; rw [if_pos z]; exact .tup hv6 tT
      clear hv3 hv4 hv5 hv6 tO tT
      rintro σ H12 ⟨vO, vT, rfl, tdO, tdT, E12⟩
      have F12 := (C10.trans D16).trans E12
      have A12' := A8.trans F12
      have hx := hx.tk F12.tk
      have ha1 := F12 _ _ ha1 (by simp)
      have hDp := F12 _ _ hDp (by simp)
      have how := F12 _ _ how (by simp)
      have trb := trb.tk (D16.trans E12).tk
      have bok := block_ok (nm := nmF i way) (op := opF i way) (paid := paid) hG h3 op1 nm3
      have bmv := block_mv (nmF i way) (opF i way) paid sts
      have hnum := numOf_le sts
      refine ⟨_, rfl, a1, rfl, ⟨_, SqL.of ha1⟩, fun D2 nD2 => ?_⟩
      refine lc_list (K := K) (a := a1) (xs := xs) (fun j H' => H' D2 = some (.lst (((sts.take j).map fun s => if s.1 = 0 then (0 : Int) else 1).map V.int)) ∧ Keep [] H12 H') ⟨upd_same, Keep.new nD2⟩ ?_ ?_ ?_
      · rintro j H' _ ⟨_, kk⟩
        exact SqL.of (kk _ _ ha1 (by simp))
      · rintro j y H' hy ⟨hD, kk⟩
        obtain ⟨st, hst, z, rfl, hz⟩ := stgs_get (hx.tk kk.tk) hy
        have hj : j < sts.length := (List.getElem?_eq_some_iff.mp hst).1
        refine ⟨rfl, yes_then ⟨_, rfl, _, _, _, _, rfl, rfl, SqT.of hz, rfl, rfl, .inr ⟨_, rfl, _, hD, by rw [List.length_map, List.length_map, List.length_take]; exact smallL (by omega), ?_, kk.then_own nD2⟩⟩⟩
        rw [upd_same, take_snoc hst, List.map_append, List.map_append]
        have e : (if (!decide (V.int st.1 = V.int 0)) = true then (1 : Int) else 0) = if st.1 = 0 then 0 else 1 := by
          by_cases z : st.1 = 0
          · rw [if_pos z, z]; rfl
          · rw [if_neg z, dVI, decide_eq_false z]; rfl
        rw [e]; rfl
      rintro H13 ⟨hD2, G13⟩
      have hxl : xs.length = sts.length := by rw [hx.length, List.length_map]
      rw [hxl, List.take_length] at hD2
      refine ⟨D2, _, rfl, SqL.of hD2, by show 1 ≤ sizeLine; decide, fun mv nmv => ?_⟩
      change H13 mv = none at nmv
      have hmv := upd_same (H := H13) (a := mv) (o := .lst [.int (numOf sts)])
      have G14 := G13.then_new (o := .lst [.int (numOf sts)]) nmv
      change gName 15 _ _ (upd H13 mv (.lst [.int (numOf sts)])) _
      revert hmv G14
      generalize upd H13 mv (.lst [.int (numOf sts)]) = H14
      intro hmv G14
      have na1mv : a1 ≠ mv := fun z => by have q := G13 _ _ ha1 (by simp); rw [z, nmv] at q; cases q
      have nDpmv : Dp ≠ mv := fun z => by have q := G13 _ _ hDp (by simp); rw [z, nmv] at q; cases q
      have nPAmv : PA ≠ mv := fun z => by have q := G13 _ _ (A12' _ _ hPA (by simp)) (by simp); rw [z, nmv] at q; cases q
      have nmv1 : H1 mv = none := (A12'.trans G13).free nmv
      have ha1 := G14 _ _ ha1 (by simp)
      have hx := hx.tk G14.tk
      refine ⟨_, rfl, ow, ms, 2, rfl, SqL.of (G14 _ _ how (by simp)), _, rfl, _, rfl, _, rfl, _, rfl, _, rfl, _, a1, xs, sts, _, _, _, rfl, ha1, hx, h3, nm1, nm2, ti2, op1, nm3, fun l2 ys2 rs H15 nl2 hl2 hys2 hrs2 hrs K15 => ?_⟩
      have hmv15 := K15 _ _ hmv (by simp)
      have hl2mv : l2 ≠ mv := fun z => by rw [z, hmv] at nl2; cases nl2
      have hy2l : ys2.length = rs.length := by rw [hys2.length, List.length_map]
      refine ⟨_, rfl, l2, rfl, ⟨_, SqL.of hl2⟩, fun D3 nD3 => ?_⟩
      have hD3mv : D3 ≠ mv := fun z => by rw [z, hmv15] at nD3; cases nD3
      refine lc_list (K := K) (a := l2) (xs := ys2) (fun j H' => (∃ zs, H' D3 = some (.lst zs) ∧ TDs H' zs ((rnR (numOf sts) (rs.take j)).map dR)) ∧ H' mv = some (.lst [.int (numOf sts + (mvR (rs.take j) : Nat))]) ∧ Keep [mv] H15 H') ⟨⟨[], upd_same, .nil⟩, by rw [upd_ne hD3mv.symm]; simp [mvR]; exact hmv15, (Keep.new nD3)⟩ ?_ ?_ ?_
      · rintro j H' _ ⟨_, _, kk⟩
        exact SqL.of (kk _ _ hl2 (by simpa using hl2mv))
      · rintro j y H' hy ⟨⟨zs, hD, hz⟩, hm, kk⟩
        obtain ⟨r, hr', hd⟩ := rounds_get hys2 hy
        obtain ⟨z, u, v, rfl, hzz, d0, d1⟩ := td2 (hd.tk (kk.tk1 hmv15))
        cases td_str d0
        have hj : j < rs.length := (List.getElem?_eq_some_iff.mp hr').1
        have hzl : zs.length = j := by rw [hz.length, List.length_map, rnR_len, List.length_take]; omega
        refine ⟨rfl, yes_then ⟨_, rfl, _, _, _, _, rfl, rfl, SqT.of hzz, atI_nat (j := 0) rfl, _, rfl, _, _, _, _, rfl, rfl, SqT.of hzz, atI_nat (j := 1) rfl, _, rfl, _, r.2, mv, _, rfl, hm, d1, (hrs j r hr').2.fit, fun q H2 tq hm2 K2 => ⟨by show 2 ≤ sizeLine; decide, fun t nt => ?_⟩⟩⟩
        have kt := K2.tk1 hm
        have hD2 := K2 _ _ hD (by simpa using hD3mv)
        have hD3 : upd H2 t (.tup [.str r.1, q]) D3 = some (.lst zs) := by rw [upd_ne (ne_of_none hD2 nt)]; exact hD2
        refine ⟨_, hD3, by rw [hzl]; exact smallL (by omega), ⟨_, upd_same, ?_⟩, ?_, ((kk.trans K2).then_new nt).then_own nD3⟩
        · rw [rnR_take hr', List.map_append]
          exact (((hz.tk kt).tk (TK.new nt)).tk (TK.lst hD3)).append (.cons ((TD.tup upd_same (.cons (.str _) (.cons (tq.tk (TK.new nt)) .nil))).tk (TK.lst hD3)) .nil)
        · rw [upd_ne hD3mv.symm, upd_ne (ne_of_none hm2 nt), hm2, mvR_take hr', show numOf sts + ((mvR (rs.take j) + mvs r.2 : Nat) : Int) = numOf sts + (mvR (rs.take j) : Nat) + (mvs r.2 : Nat) by omega]
      rintro H16 ⟨⟨zs, hD3, hzs⟩, hm16, G16⟩
      rw [hy2l, List.take_length] at hzs hm16
      have G14' : Keep [] H12 H15 := G14.trans K15
      have A15 := A12'.trans G14'
      have A16 : Keep [] H1 H16 := fun b o h _ => G16 _ _ (A15 _ _ h (by simp)) (by
        rw [List.mem_singleton]; intro z; rw [z, nmv1] at h; cases h)
      have kt := G14'.tk.trans (G16.tk1 hmv15)
      have tdO := tdO.tk kt
      have tdT := tdT.tk kt
      have trb := trb.tk kt
      have ha1 := G16 _ _ (K15 _ _ ha1 (by simp)) (by simpa using na1mv)
      have hDp := G16 _ _ (G14' _ _ hDp (by simp)) (by simpa using nDpmv)
      have hx := (hx.tk K15.tk).tk (G16.tk1 hmv15)
      refine ⟨_, rfl, _, rfl, _, rfl, a1, xs, sts, _, rfl, ha1, hx, h3, nm1, nm2, fun sz H17 tsz K17 => ?_⟩
      refine ⟨_, rfl, _, rfl, by show 2 ≤ sizeLine; decide, fun t1 nt1 => ⟨by show 1 ≤ sizeLine; decide, fun L nL => ⟨_, rfl, L, D3, _, _, rfl, rfl, upd_same, Keep.new (W := []) nL _ _ (Keep.new (W := []) nt1 _ _ (K17 _ _ hD3 (by simp)) (by simp)) (by simp), ?_, fun p np => ⟨p, _, rfl, .inl ⟨SqL.of upd_same, fun tp ntp => ?_⟩⟩⟩⟩⟩
      · have : zs.length = rs.length := by rw [hzs.length, List.length_map, rnR_len]
        show 1 + zs.length ≤ _
        exact smallM (by omega)
      have L1 := Keep.new (W := []) (o := .tup [.str (tiF i way), .ref rb]) nt1
      have L2 := Keep.new (W := []) (o := .lst [.ref t1]) nL
      have L3 := Keep.new (W := []) (o := .lst ([.ref t1] ++ zs)) np
      have L4 := Keep.new (W := []) (o := .tup ([.ref t1] ++ zs)) ntp
      have L24 := (L2.trans L3).trans L4
      have L14 := L1.trans L24
      have gO := tdO.tk (K17.trans L14).tk
      have gZ := tsz.tk L14.tk
      have gR : TD (upd (upd (upd (upd H17 t1 (.tup [.str (tiF i way), .ref rb])) L (.lst [.ref t1])) p (.lst ([.ref t1] ++ zs))) tp (.tup ([.ref t1] ++ zs))) (.ref tp) (.tuple (((tiF i way, blockOf (nmF i way) (opF i way) paid sts) :: rnR (numOf sts) rs).map dR)) :=
        .tup upd_same (.cons (TD.tk L24.tk (.tup upd_same (.cons (.str _) (.cons (trb.tk (K17.trans L1).tk) .nil)))) (hzs.tk (K17.trans L14).tk))
      refine fun g dg ng ndg _ => ?_
      obtain ⟨gtk, G, K18⟩ := game_facts (C := C_Game) ng ndg gO gZ gR
      refine ⟨g, dg, vO, sz, tp, _, _, _, rfl, upd_same, gO.tk (gtk _), gZ.tk (gtk _), gR.tk (gtk _), rfl, ?_⟩
      rw [upd_upd]
      have K68 := (K17.trans L14).trans K18
      clear L1 L2 L3 L4 L24 L14
      have hD3 := K68 _ _ hD3 (by simp)
      have hzs := hzs.tk K68.tk
      have ha1 := K68 _ _ ha1 (by simp)
      have hDp := K68 _ _ hDp (by simp)
      have hx := hx.tk K68.tk
      have hm := K68 _ _ hm16 (by simp)
      have tdT := tdT.tk K68.tk
      have tdO := tdO.tk K68.tk
      have hv2 := K68.tk _ _ (kt _ _ (E12.tk _ _ hv2))
      have A18 := A16.trans K68
      have rows : ∀ r ∈ (tiF i way, blockOf (nmF i way) (opF i way) paid sts) :: rnR (numOf sts) rs, PyData.strOk r.1 = true ∧ MoreOk r.2 := by
        intro r hr
        rcases List.mem_cons.mp hr with rfl | hr
        · exact ⟨ti1, bok⟩
        · obtain ⟨kk, hk, rfl⟩ := List.getElem_of_mem hr
          obtain ⟨r0, q1, q2, n', q3⟩ := rnR_get (List.getElem?_eq_getElem hk)
          have q4 := hrs kk r0 q1
          have q5 : kk < rs.length := (List.getElem?_eq_some_iff.mp q1).1
          rw [q2, q3, q4.1]
          exact ⟨titles_ok i way kk (by omega), q4.2.rn n'⟩
      have s3 := shd_rows rows
      have s1 : Shd ((osF i way).map dO) := shd_opts fun r hr => by
        have := List.mem_map_of_mem (f := Prod.fst) hr
        rw [osF_names] at this
        exact names_ok i way _ this
      have s2 : Shd ((sizesOf (nmF i way) sts).map dV) := shd_vars fun r hr => by
        unfold sizesOf at hr
        obtain ⟨kk, hk, rfl⟩ := List.mem_map.mp hr
        exact nm3 kk (by have := List.mem_range.mp hk; omega)
      obtain ⟨ok1, ok2, ok3, ok4, ok5⟩ := ok_names i way
      obtain ⟨sw1, sw2, sw3, sw4⟩ := osF_sw i way
      have ol : (osF i way).length = 2 := by
        have := congrArg List.length (osF_names i way)
        rw [List.length_map] at this
        rw [this]; split <;> rfl
      refine ⟨_, rfl, _, rfl, _, rfl, _, rfl, _, rfl, _, rfl, a1, Dp, xs, sts, paid, _, _, g, _, _, _, _, D3, zs, rfl, ha1, hx, hG, h3, hDp, hpl, op2, nm1, nm2, G, hD3, hzs, fun r hr => (rows r hr).2.fit, by rw [rnR_len]; omega, s1, s2, s3, fun H19 K19 => ⟨_, rfl, iteF ?_⟩⟩
      have sT : Shd ((osT i way).map dO) := shd_opts fun r hr => by
        have := List.mem_map_of_mem (f := Prod.fst) hr
        rw [osT_names] at this
        exact names_ok i way _ this
      have otl : (osT i way).length = 2 := by
        have := congrArg List.length (osT_names i way)
        rw [List.length_map] at this
        rw [this]; split <;> rfl
      refine ⟨_, rfl, _, rfl, by show 1 ≤ sizeLine; decide, fun Lx nLx => ⟨g, osF i way, _, _, Lx, [opF i way], rfl, (G.keep K19).keep (Keep.new nLx), upd_same, by omega, by show 1 ≤ 100; decide, (fun _ go H20 Go K20 => ?_), (fun z => by rw [okN_M, osF_names, ok1] at z; cases z)⟩⟩
      rw [sw1] at Go
      have M20 := (K19.then_new nLx).trans K20
      have G20 := G.keep M20
      obtain ⟨dg20, oa, va, ra, hg20, ta20, tb20, tc20⟩ := G20.ex
      refine ⟨_, rfl, _, rfl, _, rfl, g, C_Game, _, _, _, rfl, hg20, T.cl_Game, T.a_Game_variables, rfl, _, rfl, g, C_Game, _, _, _, rfl, hg20, T.cl_Game, T.a_Game_rounds, rfl,  go, vT, va, ra, _, _, _, rfl, Go, tdT.tk M20.tk, tb20, tc20, sT, s2, s3, _, rfl, iteF ?_⟩
      refine ⟨_, rfl, _, rfl, by show 1 ≤ sizeLine; decide, fun L2 nL2 => ⟨go, osT i way, _, _, L2, [opF i way], rfl, Go.keep (Keep.new nL2), upd_same, by omega, by show 1 ≤ 100; decide, (fun _ g2 H21 G2 K21 => ?_), (fun z => by rw [okN_M, osT_names, ok1] at z; cases z)⟩⟩
      rw [sw2] at G2
      have M21 := (M20.then_new nL2).trans K21
      have G21 := G.keep M21
      obtain ⟨dg2, _, _, _, hg2, _⟩ := G2.ex
      obtain ⟨dg21, _, _, _, hg21, _⟩ := G21.ex
      refine ⟨_, rfl, g2, g, _, _, _, _, rfl, rfl, hg2, hg21, g2, g, _, _, _, rfl, G2, G21, s1, s2, s3, _, rfl, iteF ?_⟩
      refine ⟨_, rfl, Nat.zero_le _, fun L3 nL3 => ⟨g, osF i way, _, _, L3, [], rfl, G21.keep (Keep.new nL3), upd_same, by omega, by show 0 ≤ 100; decide, (fun _ g3 H22 G3 K22 => ?_), (fun z => by rw [okN_M, osF_names, ok2] at z; cases z)⟩⟩
      rw [sw3] at G3
      have M22 := (M21.then_new nL3).trans K22
      have G22 := G.keep M22
      obtain ⟨dg3, _, _, _, hg3, _⟩ := G3.ex
      obtain ⟨dg22, _, _, _, hg22, _⟩ := G22.ex
      refine ⟨_, rfl, g3, g, _, _, _, _, rfl, rfl, hg3, hg22, g3, g, _, _, _, rfl, G3, G22, s1, s2, s3, _, rfl, iteF ?_⟩
      obtain ⟨vos, _, tvo, hvo⟩ := td_sq (K := K) (tdO.tk M22.tk)
      have hvl : vos.length = (osF i way).length := by have := tvo.length; rw [List.length_map] at this; exact this
      refine ⟨_, rfl, vO, rfl, ⟨_, SqT.of hvo⟩, fun D4 nD4 => ?_⟩
      refine lc_tup (K := K) (a := vO) (xs := vos) (fun j H' => (∃ zs4, H' D4 = some (.lst zs4) ∧ TDs H' zs4 ((((osF i way).take j).map fun p => (p.1, !p.2)).map dO)) ∧ Keep [] H22 H') ⟨⟨[], upd_same, .nil⟩, Keep.new nD4⟩ ?_ ?_ ?_
      · rintro j H' _ ⟨_, kk⟩
        exact SqT.of (kk _ _ hvo (by simp))
      · rintro j y H' hy ⟨⟨zs4, hD, hz⟩, kk⟩
        obtain ⟨r, hr', hd⟩ := opts_get tvo hy
        obtain ⟨z, u, v, rfl, hzz, d0, d1⟩ := td2 (hd.tk kk.tk)
        cases td_str d0
        cases td_bl d1
        have hj : j < (osF i way).length := (List.getElem?_eq_some_iff.mp hr').1
        have hzl : zs4.length = j := by rw [hz.length, List.length_map, List.length_map, List.length_take]; omega
        refine ⟨rfl, yes_then ⟨_, rfl, _, _, _, _, rfl, rfl, SqT.of hzz, atI_nat (j := 0) rfl, _, rfl, _, _, _, _, rfl, rfl, SqT.of hzz, atI_nat (j := 1) rfl, _, rfl, by show 2 ≤ sizeLine; decide, fun tt ntt => ?_⟩⟩
        have hD2 : upd H' tt (.tup [.str r.1, .bl (!r.2)]) D4 = some (.lst zs4) := by rw [upd_ne (ne_of_none hD ntt)]; exact hD
        refine ⟨_, hD2, by rw [hzl]; exact smallL (by omega), ⟨_, upd_same, ?_⟩, (kk.then_new ntt).then_own nD4⟩
        rw [take_snoc hr', List.map_append, List.map_append]
        exact ((hz.tk (TK.new ntt)).tk (TK.lst hD2)).append (.cons ((TD.tup upd_same (.cons (.str _) (.cons (.bl _) .nil))).tk (TK.lst hD2)) .nil)
      rintro H23 ⟨⟨zs4, hD4, hz4⟩, K23⟩
      rw [hvl, List.take_length] at hz4
      refine ⟨D4, _, rfl, .inl ⟨SqL.of hD4, fun vB nvB => ?_⟩⟩
      have M24 := (M22.trans K23).then_new (o := .tup zs4) nvB
      have tdB : TD (upd H23 vB (.tup zs4)) (.ref vB) (.tuple (((osF i way).map fun p => (p.1, !p.2)).map dO)) := .tup upd_same (hz4.tk (TK.new nvB))
      revert tdB M24
      generalize upd H23 vB (.tup zs4) = H24
      intro M24 tdB
      have G24 := G.keep M24
      have mo : (if i = 0 then ("u" : Str) else "v") = moN i := rfl
      rw [mo] at hv2
      refine ⟨_, rfl, _, rfl, _, _, _, _, rfl, rfl, SqT.of (M24.tk _ _ hv2), rfl, _, rfl, by show 2 ≤ sizeLine; decide, fun L5 nL5 => ⟨g, osF i way, _, _, L5, [moN i, opF i way], rfl, G24.keep (Keep.new nL5), upd_same, by omega, by show 2 ≤ 100; decide, (fun _ g5 H25 G5 K25 => ?_), (fun z => by rw [okN_M, osF_names, ok3] at z; cases z)⟩⟩
      rw [sw4] at G5
      have M25 := (M24.then_new nL5).trans K25
      have G25 := G.keep M25
      obtain ⟨dg25, oa5, va5, ra5, hg25, ta25, tb25, tc25⟩ := G25.ex
      have sB : Shd (((osF i way).map fun p => (p.1, !p.2)).map dO) := shd_opts fun r hr => by
        obtain ⟨q, hq, rfl⟩ := List.mem_map.mp hr
        have := List.mem_map_of_mem (f := Prod.fst) hq
        rw [osF_names] at this
        exact names_ok i way _ this
      refine ⟨_, rfl, _, rfl, g, C_Game, _, _, _, rfl, hg25, T.cl_Game, T.a_Game_variables, rfl, _, rfl, g, C_Game, _, _, _, rfl, hg25, T.cl_Game, T.a_Game_rounds, rfl,  g5, vB, va5, ra5, _, _, _, rfl, G5, tdB.tk (((Keep.new (W := []) nL5).trans K25).tk), tb25, tc25, sB, s2, s3, _, rfl, iteF ?_⟩
      refine ⟨_, rfl, by show 1 ≤ sizeLine; decide, fun L6 nL6 => ⟨g, osF i way, _, _, L6, ["q"], rfl, G25.keep (Keep.new nL6), upd_same, by omega, by show 1 ≤ 100; decide, by rw [okN_M, osF_names]; exact ok4, fun H26 K26 => ⟨_, rfl, iteF ?_⟩⟩⟩
      have M26 := (M25.then_new nL6).trans K26
      refine ⟨_, rfl, _, rfl, _, rfl, by show 2 ≤ sizeLine; decide, fun L7 nL7 => ⟨g, osF i way, _, _, L7, [opF i way, opF i way], rfl, (G.keep M26).keep (Keep.new nL7), upd_same, by omega, by show 2 ≤ 100; decide, by rw [okN_M, osF_names]; exact ok5, fun H27 K27 => ⟨_, rfl, iteF ?_⟩⟩⟩
      have M27 := (M26.then_new nL7).trans K27
      have A27 := A18.trans M27
      have hPA27 := A27 _ _ hPA (by simp)
      refine ⟨_, rfl, .inl ⟨rfl, _, SqL.of hPA27⟩, _, rfl, _, rfl, _, rfl, _, rfl, _, rfl, _, rfl, _, rfl, _, _, _, _, rfl, rfl, SqL.of (M27 _ _ hm (by simp)), rfl, _, rfl, by show 8 ≤ sizeLine; decide, fun q nq => ?_⟩
      have K28 := fun {o : HO} => Keep.new (W := []) (o := o) nq
      refine ⟨PA, _, _, rfl, rfl, K28 _ _ hPA27 (by simp), by rw [List.length_map]; exact smallL (by omega), ?_⟩
      have nPA' : H PA = none := nPA
      have hrs' : ∀ (kk : Nat) r, (rnR (numOf sts) rs)[kk]? = some r → r.1 = titleN (tiF i way) kk ∧ MoreOk r.2 := fun kk r h => by
        obtain ⟨r0, q1, q2, n', q3⟩ := rnR_get h
        have q4 := hrs kk r0 q1
        rw [q2, q3]
        exact ⟨q4.1, q4.2.rn n'⟩
      have hN : numOf sts + ((mvR rs : Nat) : Int) = ((mvR ((tiF i way, blockOf (nmF i way) (opF i way) paid sts) :: rnR (numOf sts) rs) : Nat) : Int) := by
        have e1 : ∀ (l : List (Str × List Sm)) (n : Int), mvR (rnR n l) = mvR l := by
          intro l
          induction l with
          | nil => intro n; rfl
          | cons r l ih => intro n; obtain ⟨x, l'⟩ := r; simp [rnR, mvR, mvs_rn]; exact ih _
        have e2 : mvR ((tiF i way, blockOf (nmF i way) (opF i way) paid sts) :: rnR (numOf sts) rs) = mvs (blockOf (nmF i way) (opF i way) paid sts) + mvR (rnR (numOf sts) rs) := by simp [mvR]
        rw [e2, e1]
        push_cast
        rw [bmv]
      refine ⟨qs ++ [q], _, _, _, _, _, _, _, _, _, _, _, _, _, _, _, _, rfl, by rw [List.map_append]; exact upd_same, by rw [List.length_append, hql]; rfl, ?_, TK.lst (K28 _ _ hPA27 (by simp)) _ _ (K28 _ _ (A27 _ _ htt (by simp)) (by simp)), ((K1.trans A27).trans K28).then_own nPA'⟩
      intro j q' hj
      rcases Nat.lt_or_ge j i with z | z
      · rw [List.getElem?_append_left (by omega)] at hj
        exact ((hq j q' hj).keep (A27.trans K28)).own (K28 _ _ hPA27 (by simp))
      · rw [List.getElem?_append_right (by omega)] at hj
        have hji : j = i := by
          rcases Nat.eq_or_lt_of_le z with z | z
          · exact z.symm
          · rw [List.getElem?_eq_none (by rw [List.length_singleton]; omega)] at hj; cases hj
        rw [hji, hql, Nat.sub_self] at hj
        cases hj
        rw [hji]
        have nD31 : H1 D3 = none := A15.free nD3
        have ne1 : a1 ≠ PA := fun z => by rw [z, hPA] at na1'; cases na1'
        have ne2 : Dp ≠ PA := fun z => by rw [z, hPA] at nDp1; cases nDp1
        have ne3 : D3 ≠ PA := fun z => by rw [z, hPA] at nD31; cases nD31
        refine PartAt.own ⟨g, a1, Dp, D3, sts, paid, rnR (numOf sts) rs, xs, zs, ?_, (G.keep M27).keep K28, K28 _ _ (M27 _ _ ha1 (by simp)) (by simp), (hx.tk M27.tk).tk (Keep.tk K28), hG, h3, K28 _ _ (M27 _ _ hDp (by simp)) (by simp), hpl, K28 _ _ (M27 _ _ hD3 (by simp)) (by simp), (hzs.tk M27.tk).tk (Keep.tk K28), by rw [rnR_len]; exact hrs2, hrs', ne1, ne2, ne3⟩ (K28 _ _ hPA27 (by simp))
        rw [← hN]; exact upd_same
    · rintro σ H1 ⟨qs, o4, o5, o6, o7, o8, o9, o10, o11, o12, o13, o14, o15, o16, o17, o18, o19, rfl, hPA, hql, hq, htt, K1⟩
      obtain ⟨q0, q1, rfl⟩ : ∃ q0 q1, qs = [q0, q1] := by
        rcases qs with _ | ⟨q0, _ | ⟨q1, _ | ⟨q2, r⟩⟩⟩
        · cases hql
        · cases hql
        · exact ⟨q0, q1, rfl⟩
        · cases hql
      obtain ⟨g1, a1, p1, m1, sts1, paid1, rs1, xs1, ys1, hq0, G1, hA1, hX1, gd1, st1, hP1, pl1, hM1, hY1, rl1, hR1, _⟩ := (hq 0 q0 rfl).ex
      obtain ⟨g2, a2, p2, m2, sts2, paid2, rs2, xs2, ys2, hq1, G2, hA2, hX2, gd2, st2, hP2, pl2, hM2, hY2, rl2, hR2, _⟩ := (hq 1 q1 rfl).ex
      clear hq hql htt
      have rows1 := rows_ok (paid := paid1) gd1 st1 rl1 hR1
      have rows2 := rows_ok (paid := paid2) gd2 st2 rl2 hR2
      have hcl := cl_all way (vs1 := sizesOf (nmF 0 way) sts1) (vs2 := sizesOf (nmF 1 way) sts2) (b1 := blockOf (nmF 0 way) (opF 0 way) paid1 sts1) (b2 := blockOf (nmF 1 way) (opF 1 way) paid2 sts2) rl1 rl2 hR1 hR2
      have mb1 := mvR_bound rows1
      have mb2 := mvR_bound rows2
      rw [List.length_cons] at mb1 mb2
      have sv1 := sizes_ok st1 (nmF_ok 0 way).2.2
      have sv2 := sizes_ok st2 (nmF_ok 1 way).2.2
      have lv1 : (sizesOf (nmF 0 way) sts1).length ≤ 3 := by unfold sizesOf; rw [List.length_map, List.length_range]; exact st1
      have lv2 : (sizesOf (nmF 1 way) sts2).length ≤ 3 := by unfold sizesOf; rw [List.length_map, List.length_range]; exact st2
      obtain ⟨nmB1, nmB2, _⟩ := nmF_ok 1 way
      obtain ⟨_, opB2⟩ := opF_ok 1 way
      change H1 PA = some (.lst [.ref q0, .ref q1]) at hPA
      refine ⟨_, rfl, _, _, _, _, rfl, rfl, SqL.of hPA, rfl, _, _, _, _, rfl, rfl, SqT.of hq0, rfl, _, rfl, _, _, _, _, rfl, rfl, SqL.of hPA, rfl, _, _, _, _, rfl, rfl, SqT.of hq1, rfl, fun σ H' => σ = [some (.ref a), some (.int half), some (.ref PA), some (.int way), o4, o5, o6, o7, o8, o9, o10, o11, o12, o13, o14, o15, o16, o17, o18, o19, some (.ref g1), some (.ref g2), some (.bl (clo way)), none, none, none, none, none, none, none] ∧ H' = H1, ?_, ?_⟩
      · refine ⟨_, rfl, _, _, _, _, rfl, rfl, SqL.of hPA, rfl, _, _, _, _, rfl, rfl, SqT.of hq1, rfl, rfl, _, rfl, iteD (fun e => ⟨?_, rfl⟩) (fun e => ⟨_, rfl, _, _, _, _, rfl, rfl, SqL.of hPA, rfl, _, _, _, _, rfl, rfl, SqT.of hq1, rfl, rfl, ?_, rfl⟩)⟩
        · unfold clo; rw [decide_eq_true e] <;> rfl
        · unfold clo; rw [decide_eq_false e] <;> rfl
      rintro σ H2 ⟨rfl, rfl⟩
      obtain ⟨dx1, oa1, va1, ra1, hg1, to1, tv1, tr1⟩ := G1.ex
      obtain ⟨dx2, oa2, va2, ra2, hg2, to2, tv2, tr2⟩ := G2.ex
      have hd2 : ∀ p : Str × Int, ∃ d, dV p = .tuple [.str p.1, d] := fun p => ⟨_, rfl⟩
      obtain ⟨_, us, e, hU, hul, hu⟩ := nt_of hd2 tv2
      cases e
      obtain ⟨_, ws, e, hW, hwl, hw⟩ := nt_of hd2 tv1
      cases e
      revert hcl hul hu hwl hw
      generalize hn1 : (sizesOf (nmF 0 way) sts1).map Prod.fst = n1
      generalize hn2 : (sizesOf (nmF 1 way) sts2).map Prod.fst = n2
      intro hcl hul hu hwl hw
      have ln1 : n1.length ≤ 3 := by rw [← hn1, List.length_map]; exact lv1
      have ln2 : n2.length ≤ 3 := by rw [← hn2, List.length_map]; exact lv2
      refine ⟨_, rfl, g2, C_Game, dx2, _, _, rfl, hg2, T.cl_Game, T.a_Game_variables, rfl, va2, rfl, ⟨_, SqT.of hU⟩, for_tup (K := K) (a := va2) (xs := us) (fun (i : Nat) (σ : List (Option V)) (H' : Hp) => ∃ o23 : Option V, σ = [some (.ref a), some (.int half), some (.ref PA), some (.int way), o4, o5, o6, o7, o8, o9, o10, o11, o12, o13, o14, o15, o16, o17, o18, o19, some (.ref g1), some (.ref g2), some (.bl (clo way || clB n1 (n2.take i))), o23, none, none, none, none, none, none] ∧ Keep [] H2 H') ⟨none, by rw [List.take_zero, show clB n1 [] = false from rfl, Bool.or_false], Keep.refl _ _⟩ ?_ ?_ ?_⟩
      · rintro i σ H' _ ⟨o23, rfl, k⟩
        exact SqT.of (k _ _ hU (by simp))
      · rintro i x σ H3 hx ⟨o23, rfl, k3⟩
        obtain ⟨p, r, n, rfl, hp, hn⟩ := hu i x hx
        refine ⟨_, rfl, _, _, _, _, rfl, rfl, SqT.of (k3 _ _ hp (by simp)), atI_nat (j := 0) rfl, _, rfl, g1, C_Game, _, _, _, rfl, k3 _ _ hg1 (by simp), T.cl_Game, T.a_Game_variables, rfl, va1, rfl, ⟨_, SqT.of (k3 _ _ hW (by simp))⟩, fun D1 nD1 => ?_⟩
        refine lc_tup (K := K) (a := va1) (xs := ws) (fun j H' => H' D1 = some (.lst ((n1.take j).map V.str)) ∧ Keep [] H3 H') ⟨upd_same, Keep.new nD1⟩ ?_ ?_ ?_
        · rintro j H' _ ⟨_, k⟩
          exact SqT.of (k _ _ (k3 _ _ hW (by simp)) (by simp))
        · rintro j y H' hy ⟨hD, k⟩
          obtain ⟨p', r', n', rfl, hp', hn'⟩ := hw j y hy
          refine ⟨rfl, yes_then ⟨_, rfl, _, _, _, _, rfl, rfl, SqT.of (k _ _ (k3 _ _ hp' (by simp)) (by simp)), atI_nat (j := 0) rfl, _, hD, by rw [List.length_map, List.length_take]; exact smallL (by omega), ?_, k.then_own nD1⟩⟩
          rw [upd_same, take_snoc hn', List.map_append]; rfl
        rintro H4 ⟨hD1, K4⟩
        rw [hwl, List.take_length] at hD1
        refine ⟨D1, _, rfl, .inl (SqL.of hD1), rfl, strs_flat _, _, rfl, iteB (fun e => ⟨some (.ref p), ?_, k3.trans K4⟩) (fun e => ⟨some (.ref p), ?_, k3.trans K4⟩)⟩
        · change inV (V.str n) (n1.map V.str) = true at e
          rw [take_snoc hn, clB_snoc, e, Bool.or_true, Bool.or_true] <;> rfl
        · change inV (V.str n) (n1.map V.str) = false at e
          rw [take_snoc hn, clB_snoc, e, Bool.or_false] <;> rfl
      rintro σ H3 ⟨o23, eσ, K3⟩
      rw [hul, List.take_length, ← hcl] at eσ
      subst eσ
      have f1 : ∀ r ∈ (tiF 0 way, blockOf (nmF 0 way) (opF 0 way) paid1 sts1) :: rs1, Fit 4 r.2 := fun r hr => (rows1 r hr).2.fit
      have f2 : ∀ r ∈ (tiF 1 way, blockOf (nmF 1 way) (opF 1 way) paid2 sts2) :: rs2, Fit 4 r.2 := fun r hr => (rows2 r hr).2.fit
      have lo1 := osF_len 0 way
      have lo2 := osF_len 1 way
      clear hcl
      refine ⟨_, rfl, _, rfl, g1, g2, osF 0 way, osF 1 way, sizesOf (nmF 0 way) sts1, sizesOf (nmF 1 way) sts2, _, _, rfl, G1.keep K3, G2.keep K3, f1, f2, by omega, by omega, by omega, by omega, by rw [List.length_cons]; omega, by rw [List.length_cons]; omega, by omega, by omega, fun e r H4 Gr K4 => ?_, fun e d H4 nd hd K4 => ?_⟩
      · rw [e]
        have k4 := K3.trans K4
        have hPA := k4 _ _ hPA (by simp)
        have hq0 := k4 _ _ hq0 (by simp)
        have hq1 := k4 _ _ hq1 (by simp)
        generalize hN : ((mvR ((tiF 0 way, blockOf (nmF 0 way) (opF 0 way) paid1 sts1) :: rs1) : Nat) : Int) = N at hq0 Gr
        refine ⟨_, rfl, _, _, _, _, rfl, rfl, SqL.of hPA, rfl, _, _, _, _, rfl, rfl, SqT.of hq0, rfl, by show 1 ≤ sizeLine; decide, fun C nC => ?_⟩
        have KC := Keep.new (W := []) (o := .lst [.int N]) nC
        have hC := upd_same (H := H4) (a := C) (o := .lst [.int N])
        have k5 := k4.trans KC
        have Gr := Gr.keep KC
        have hPA := KC _ _ hPA (by simp)
        have hq1 := KC _ _ hq1 (by simp)
        have nC2 := k4.free nC
        revert hC k5 Gr hPA hq1
        generalize upd H4 C (.lst [.int N]) = H5
        intro hC k5 Gr hPA hq1
        refine ⟨_, rfl, _, _, _, _, rfl, rfl, SqL.of hPA, rfl, _, _, _, _, rfl, rfl, SqT.of hq1, rfl, _, rfl, _, _, _, _, rfl, rfl, SqL.of hPA, rfl, _, _, _, _, rfl, rfl, SqT.of hq1, rfl, _, rfl, _, _, _, _, rfl, rfl, SqL.of hPA, rfl, _, _, _, _, rfl, rfl, SqT.of hq1, rfl, _, rfl, _, _, _, _, rfl, rfl, SqL.of hPA, rfl, _, _, _, _, rfl, rfl, SqT.of hq1, rfl, a2, p2, xs2, sts2, paid2, _, _, rfl, k5 _ _ hA2 (by simp), hX2.tk k5.tk, gd2, st2, k5 _ _ hP2 (by simp), pl2, opB2, nmB1, nmB2, fun rb H6 trb K6 => ?_⟩
        refine ⟨_, rfl, _, _, C, N, rfl, K6 _ _ hC (by simp), trb, f2 _ (List.mem_cons_self ..), fun v7 H7 t7 hC7 K7 => ?_⟩
        have hC6 := K6 _ _ hC (by simp)
        have kt7 := K7.tk1 hC6
        have nePA : PA ≠ C := fun z => by rw [z] at hPA; rw [hC] at hPA; cases hPA
        have neq1 : q1 ≠ C := fun z => by rw [z] at hq1; rw [hC] at hq1; cases hq1
        have hPA7 := K7 _ _ (K6 _ _ hPA (by simp)) (by simpa using nePA)
        have hq17 := K7 _ _ (K6 _ _ hq1 (by simp)) (by simpa using neq1)
        refine ⟨_, rfl, _, _, _, _, rfl, rfl, SqL.of hPA7, rfl, _, _, _, _, rfl, rfl, SqT.of hq17, rfl, _, rfl, by show 2 ≤ sizeLine; decide, fun t1 nt1 => ⟨by show 1 ≤ sizeLine; decide, fun L nL => ?_⟩⟩
        have L1 := Keep.new (W := []) (o := .tup [.str (tiF 1 way), v7]) nt1
        have L2 := Keep.new (W := []) (o := .lst [.ref t1]) nL
        have L12 := L1.trans L2
        have T1 : TD (upd (upd H7 t1 (.tup [.str (tiF 1 way), v7])) L (.lst [.ref t1])) (.ref t1) (dR (tiF 1 way, rns N (blockOf (nmF 1 way) (opF 1 way) paid2 sts2))) :=
          TD.tk L2.tk (.tup upd_same (.cons (.str _) (.cons (t7.tk L1.tk) .nil)))
        have hL := upd_same (H := upd H7 t1 (.tup [.str (tiF 1 way), v7])) (a := L) (o := .lst [.ref t1])
        have hC8 := L12 _ _ hC7 (by simp)
        have hPA8 := L12 _ _ hPA7 (by simp)
        have hq18 := L12 _ _ hq17 (by simp)
        have kM : ∀ b o, H2 b = some o → upd (upd H7 t1 (.tup [.str (tiF 1 way), v7])) L (.lst [.ref t1]) b = some o := fun b o h => L12 _ _ (K7 _ _ (K6 _ _ (k5 _ _ h (by simp)) (by simp)) (by rw [List.mem_singleton]; intro z; rw [z, nC2] at h; cases h)) (by simp)
        have Gr8 := Gr.keep K6
        have neL : L ≠ C := fun z => by rw [z, L1 _ _ hC7 (by simp)] at nL; cases nL
        have Gr8 := (Gr8.keep1 K7 hC6).keep L12
        revert T1 hL hC8 hPA8 hq18 kM Gr8
        generalize upd (upd H7 t1 (.tup [.str (tiF 1 way), v7])) L (.lst [.ref t1]) = H8
        intro T1 hL hC8 hPA8 hq18 kM Gr8
        have kM : Keep [] H2 H8 := fun b o h _ => kM b o h
        refine ⟨_, rfl, _, _, _, _, rfl, rfl, SqL.of hPA8, rfl, _, _, _, _, rfl, rfl, SqT.of hq18, rfl, m2, rfl, ⟨_, SqL.of (kM _ _ hM2 (by simp))⟩, fun D3 nD3 => ?_⟩
        have hyl : ys2.length = rs2.length := by rw [hY2.length, List.length_map]
        have neD : D3 ≠ C := fun z => by rw [z, hC8] at nD3; cases nD3
        have neM : m2 ≠ C := fun z => by rw [z, nC2] at hM2; cases hM2
        generalize hN2 : N + ((mvs (blockOf (nmF 1 way) (opF 1 way) paid2 sts2) : Nat) : Int) = N2 at hC8
        refine lc_list (K := K) (a := m2) (xs := ys2) (fun j H' => (∃ zs, H' D3 = some (.lst zs) ∧ TDs H' zs ((rnR N2 (rs2.take j)).map dR)) ∧ H' C = some (.lst [.int (N2 + (mvR (rs2.take j) : Nat))]) ∧ Keep [C] H8 H') ⟨⟨[], upd_same, .nil⟩, ?_, Keep.new nD3⟩ ?_ ?_ ?_
        · rw [upd_ne neD.symm, hC8, List.take_zero, show N2 + ((mvR [] : Nat) : Int) = N2 by simp [mvR]]
        · rintro j H' _ ⟨_, _, kk⟩
          exact SqL.of (kk _ _ (kM _ _ hM2 (by simp)) (by simpa using neM))
        · rintro j y H' hy ⟨⟨zs, hD, hz⟩, hm, kk⟩
          obtain ⟨r, hr', hd⟩ := rounds_get hY2 hy
          have hd := (hd.tk kM.tk).tk (kk.tk1 hC8)
          obtain ⟨z, u, v, rfl, hzz, d0, d1⟩ := td2 hd
          cases td_str d0
          have hj : j < rs2.length := (List.getElem?_eq_some_iff.mp hr').1
          have hzl : zs.length = j := by rw [hz.length, List.length_map, rnR_len, List.length_take]; omega
          refine ⟨rfl, yes_then ⟨_, rfl, _, _, _, _, rfl, rfl, SqT.of hzz, atI_nat (j := 0) rfl, _, rfl, _, _, _, _, rfl, rfl, SqT.of hzz, atI_nat (j := 1) rfl, _, rfl, _, r.2, C, _, rfl, hm, d1, (hR2 j r hr').2.fit, fun q H9 tq hm2 K9 => ⟨by show 2 ≤ sizeLine; decide, fun t nt => ?_⟩⟩⟩
          have kt := K9.tk1 hm
          have hD2 := K9 _ _ hD (by simpa using neD)
          have hD3 : upd H9 t (.tup [.str r.1, q]) D3 = some (.lst zs) := by rw [upd_ne (ne_of_none hD2 nt)]; exact hD2
          refine ⟨_, hD3, by rw [hzl]; exact smallL (by omega), ⟨_, upd_same, ?_⟩, ?_, ((kk.trans K9).then_new nt).then_own nD3⟩
          · rw [rnR_take hr', List.map_append]
            exact (((hz.tk kt).tk (TK.new nt)).tk (TK.lst hD3)).append (.cons ((TD.tup upd_same (.cons (.str _) (.cons (tq.tk (TK.new nt)) .nil))).tk (TK.lst hD3)) .nil)
          · rw [upd_ne neD.symm, upd_ne (ne_of_none hm2 nt), hm2, mvR_take hr', show N2 + ((mvR (rs2.take j) + mvs r.2 : Nat) : Int) = N2 + (mvR (rs2.take j) : Nat) + (mvs r.2 : Nat) by omega]
        rintro H9 ⟨⟨zs, hD3, hzs⟩, _, K9⟩
        rw [hyl, List.take_length] at hzs
        have hzl : zs.length = rs2.length := by rw [hzs.length, List.length_map, rnR_len]
        refine ⟨L, D3, _, _, rfl, rfl, K9 _ _ hL (by simpa using neL), hD3, by show 1 + zs.length ≤ _; exact smallM (by omega), fun p np => ?_⟩
        have hkM : Keep [] H2 H9 := fun b o h _ => K9 _ _ (kM _ _ h (by simp)) (by rw [List.mem_singleton]; intro z; rw [z, nC2] at h; cases h)
        have kt9 := K9.tk1 hC8
        have Gr9 := Gr8.keep1 K9 hC8
        have KP := Keep.new (W := []) (o := .lst ([.ref t1] ++ zs)) np
        have hp := upd_same (H := H9) (a := p) (o := .lst ([.ref t1] ++ zs))
        have TP : TDs (upd H9 p (.lst ([.ref t1] ++ zs))) ([.ref t1] ++ zs) ((rnR N ((tiF 1 way, blockOf (nmF 1 way) (opF 1 way) paid2 sts2) :: rs2)).map dR) := by
          rw [rnR, List.map_cons, hN2]
          exact .cons ((T1.tk kt9).tk KP.tk) (hzs.tk KP.tk)
        have hkP := hkM.trans KP
        have GrP := Gr9.keep KP
        revert hp TP hkP GrP
        generalize upd H9 p (.lst ([.ref t1] ++ zs)) = HP
        intro hp TP hkP GrP
        refine ⟨_, rfl, _, rfl, _, rfl, iteT ?_⟩
        refine ⟨_, rfl, _, rfl, g1, C_Game, dx1, _, _, rfl, hkP _ _ hg1 (by simp), T.cl_Game, T.a_Game_options, rfl, _, rfl, g2, C_Game, dx2, _, _, rfl, hkP _ _ hg2 (by simp), T.cl_Game, T.a_Game_options, rfl, cat_td (to1.tk hkP.tk) (to2.tk hkP.tk) (by rw [List.length_map, List.length_map]; omega) fun u1 HA tu1 KA => ?_⟩
        have hkA := hkP.trans KA
        refine ⟨_, rfl, g1, C_Game, dx1, _, _, rfl, hkA _ _ hg1 (by simp), T.cl_Game, T.a_Game_variables, rfl, _, rfl, g2, C_Game, dx2, _, _, rfl, hkA _ _ hg2 (by simp), T.cl_Game, T.a_Game_variables, rfl, cat_td (tv1.tk hkA.tk) (tv2.tk hkA.tk) (by rw [List.length_map, List.length_map]; omega) fun u2 HB tu2 KB => ?_⟩
        have hkB := hkA.trans KB
        refine ⟨_, rfl, g1, C_Game, dx1, _, _, rfl, hkB _ _ hg1 (by simp), T.cl_Game, T.a_Game_rounds, rfl, _, rfl, p, _, rfl, .inl ⟨SqL.of (KB _ _ (KA _ _ hp (by simp)) (by simp)), fun tp ntp => ?_⟩⟩
        have KT := Keep.new (W := []) (o := .tup ([.ref t1] ++ zs)) ntp
        have TT := TD.tup (upd_same (a := tp) (o := .tup ([.ref t1] ++ zs))) (TP.tk ((KA.trans KB).trans KT).tk)
        refine cat_td ((tr1.tk hkB.tk).tk KT.tk) TT (by rw [List.length_map, List.length_map, rnR_len, List.length_cons, List.length_cons]; omega) fun u3 HC tu3 KC2 => ?_
        have kTC := KT.trans KC2
        have kBC := KB.trans kTC
        have kAC := KA.trans kBC
        refine ⟨r, u1, u2, u3, _, _, _, rfl, GrP.keep kAC, ?_, ?_, ?_, ?_, ?_, ?_, kq _⟩
        · rw [List.map_append]; exact tu1.tk kBC.tk
        · rw [List.map_append]; exact tu2.tk kTC.tk
        · rw [List.map_append]; exact tu3
        · exact shd_opts fun q hq => (List.mem_append.mp hq).elim (osF_ok 0 way q) (osF_ok 1 way q)
        · exact shd_vars fun q hq => (List.mem_append.mp hq).elim (sv1 q) (sv2 q)
        · exact shd_rows fun q hq => (List.mem_append.mp hq).elim (rows1 q) (rows_rn rows2 _ q)
      · rw [e]
        refine ⟨true, PySem.W.exm_ref T.gE T.gH T.gT T.gS, fun _ a' ha' => ?_, fun q => nomatch q⟩
        refine ⟨_, rfl, _, rfl, iteT ?_⟩
        refine ⟨_, rfl, _, _, d, _, true, rfl, rfl, rfl, T.e_BadEdit, hd, kitSelf, _, rfl, iteT ?_⟩
        refine ⟨_, rfl, rfl, rfl, d, _, _, rfl, hd, rfl, rfl, ?_⟩
        rw [decide_eq_true rfl]
        exact kq _
end

theorem all_mk {l : PySem.W.OpenLaw} {w : World} {K : PySem.W.Frag} {h : Heap} {mg : Str → Option Value} {fa : Addr} (X : K.In h) (G : h.Ns mainGlobals mg) (hfa : mg "law" = some (.ref fa))
    {f_moves_in : Addr} {od_moves_in an_moves_in : Option Addr} {sl_moves_in : Array (Option Value)} {oc_moves_in kV_moves_in dc_moves_in pm_moves_in cd_moves_in ct_moves_in : Value}
    {f_swapped_block : Addr} {od_swapped_block an_swapped_block : Option Addr} {sl_swapped_block : Array (Option Value)} {oc_swapped_block kV_swapped_block dc_swapped_block pm_swapped_block cd_swapped_block ct_swapped_block : Value}
    {f_swapped : Addr} {od_swapped an_swapped : Option Addr} {sl_swapped : Array (Option Value)} {oc_swapped kV_swapped dc_swapped pm_swapped cd_swapped ct_swapped : Value}
    {f_renumbered : Addr} {od_renumbered an_renumbered : Option Addr} {sl_renumbered : Array (Option Value)} {oc_renumbered kV_renumbered dc_renumbered pm_renumbered cd_renumbered ct_renumbered : Value}
    {f_before : Addr} {od_before an_before : Option Addr} {sl_before : Array (Option Value)} {oc_before kV_before dc_before pm_before cd_before ct_before : Value}
    {f_switched : Addr} {od_switched an_switched : Option Addr} {sl_switched : Array (Option Value)} {oc_switched kV_switched dc_switched pm_switched cd_switched ct_switched : Value}
    {f_law_cell : Addr} {od_law_cell an_law_cell : Option Addr} {sl_law_cell : Array (Option Value)} {oc_law_cell kV_law_cell dc_law_cell pm_law_cell cd_law_cell ct_law_cell : Value}
    {f_law_row : Addr} {od_law_row an_law_row : Option Addr} {sl_law_row : Array (Option Value)} {oc_law_row kV_law_row dc_law_row pm_law_row cd_law_row ct_law_row : Value}
    {f_law_stages : Addr} {od_law_stages an_law_stages : Option Addr} {sl_law_stages : Array (Option Value)} {oc_law_stages kV_law_stages dc_law_stages pm_law_stages cd_law_stages ct_law_stages : Value}
    {f_law_paths : Addr} {od_law_paths an_law_paths : Option Addr} {sl_law_paths : Array (Option Value)} {oc_law_paths kV_law_paths dc_law_paths pm_law_paths cd_law_paths ct_law_paths : Value}
    {f_law_block : Addr} {od_law_block an_law_block : Option Addr} {sl_law_block : Array (Option Value)} {oc_law_block kV_law_block dc_law_block pm_law_block cd_law_block ct_law_block : Value}
    {f_law_sizes : Addr} {od_law_sizes an_law_sizes : Option Addr} {sl_law_sizes : Array (Option Value)} {oc_law_sizes kV_law_sizes dc_law_sizes pm_law_sizes cd_law_sizes ct_law_sizes : Value}
    {f_law_turned : Addr} {od_law_turned an_law_turned : Option Addr} {sl_law_turned : Array (Option Value)} {oc_law_turned kV_law_turned dc_law_turned pm_law_turned cd_law_turned ct_law_turned : Value}
    {f_law_is : Addr} {od_law_is an_law_is : Option Addr} {sl_law_is : Array (Option Value)} {oc_law_is kV_law_is dc_law_is pm_law_is cd_law_is ct_law_is : Value}
    {f_law_refused : Addr} {od_law_refused an_law_refused : Option Addr} {sl_law_refused : Array (Option Value)} {oc_law_refused kV_law_refused dc_law_refused pm_law_refused cd_law_refused ct_law_refused : Value}
    {f_law_swaps : Addr} {od_law_swaps an_law_swaps : Option Addr} {sl_law_swaps : Array (Option Value)} {oc_law_swaps kV_law_swaps dc_law_swaps pm_law_swaps cd_law_swaps ct_law_swaps : Value}
    {f_law_swapped : Addr} {od_law_swapped an_law_swapped : Option Addr} {sl_law_swapped : Array (Option Value)} {oc_law_swapped kV_law_swapped dc_law_swapped pm_law_swapped cd_law_swapped ct_law_swapped : Value}
    {f_law_numbered : Addr} {od_law_numbered an_law_numbered : Option Addr} {sl_law_numbered : Array (Option Value)} {oc_law_numbered kV_law_numbered dc_law_numbered pm_law_numbered cd_law_numbered ct_law_numbered : Value}
    {f_law_more : Addr} {od_law_more an_law_more : Option Addr} {sl_law_more : Array (Option Value)} {oc_law_more kV_law_more dc_law_more pm_law_more cd_law_more ct_law_more : Value}
    {f_law : Addr} {od_law an_law : Option Addr} {sl_law : Array (Option Value)} {oc_law kV_law dc_law pm_law cd_law ct_law : Value}
    {C_Game : Addr}
    {f_Game___init : Addr} {od_Game___init an_Game___init : Option Addr} {sl_Game___init : Array (Option Value)} {oc_Game___init kV_Game___init dc_Game___init pm_Game___init cd_Game___init ct_Game___init : Value}
    {f_Game___eq : Addr} {od_Game___eq an_Game___eq : Option Addr} {sl_Game___eq : Array (Option Value)} {oc_Game___eq kV_Game___eq dc_Game___eq pm_Game___eq cd_Game___eq ct_Game___eq : Value}
    {C_GameError : Addr}
    {C_BadText : Addr}
    {C_BadMove : Addr}
    {C_BadEdit : Addr}
    {nm_BadEdit q_BadEdit : Str} {N_BadEdit : Addr} {bs_BadEdit : List Value} {sn_BadEdit : List Str} {sub_BadEdit : List Value} {ab_BadEdit : Bool} {col_BadEdit : Option Bool} {dd_BadEdit : Option Addr} {m0_BadEdit m1_BadEdit m2_BadEdit m3_BadEdit m5_BadEdit : Option Value}
    {f_BadEdit___init cda_BadEdit___init cc_BadEdit___init : Addr} {od_BadEdit___init an_BadEdit___init cld_BadEdit___init cdd_BadEdit___init : Option Addr} {sl_BadEdit___init csl_BadEdit___init ccs_BadEdit___init : Array (Option Value)} {vs_BadEdit___init : Array Value} {oc_BadEdit___init dc_BadEdit___init pm_BadEdit___init ct_BadEdit___init cl_BadEdit___init ccl_BadEdit___init : Value} {file_BadEdit___init : Str} {tf_BadEdit___init : Tok}
    (a_moves_in : PySem.W.nsIn K mainGlobals "moves_in" = some (some (.ref f_moves_in))) (l_moves_in : K.lookup f_moves_in = some ⟨oc_moves_in, od_moves_in, .func (PySem.W.fnOf "moves_in" "moves_in" (fnArgs s_moves_in) (fnBody s_moves_in) (fnScope s_moves_in) .none kV_moves_in dc_moves_in pm_moves_in an_moves_in cd_moves_in ct_moves_in), sl_moves_in⟩) (c_moves_in : PySem.W.codeIn K cd_moves_in "moves_in" = true) (k_moves_in : PySem.W.keepIn K (.ref f_moves_in) = true)
    (a_swapped_block : PySem.W.nsIn K mainGlobals "swapped_block" = some (some (.ref f_swapped_block))) (l_swapped_block : K.lookup f_swapped_block = some ⟨oc_swapped_block, od_swapped_block, .func (PySem.W.fnOf "swapped_block" "swapped_block" (fnArgs s_swapped_block) (fnBody s_swapped_block) (fnScope s_swapped_block) .none kV_swapped_block dc_swapped_block pm_swapped_block an_swapped_block cd_swapped_block ct_swapped_block), sl_swapped_block⟩) (c_swapped_block : PySem.W.codeIn K cd_swapped_block "swapped_block" = true) (k_swapped_block : PySem.W.keepIn K (.ref f_swapped_block) = true)
    (a_swapped : PySem.W.nsIn K mainGlobals "swapped" = some (some (.ref f_swapped))) (l_swapped : K.lookup f_swapped = some ⟨oc_swapped, od_swapped, .func (PySem.W.fnOf "swapped" "swapped" (fnArgs s_swapped) (fnBody s_swapped) (fnScope s_swapped) .none kV_swapped dc_swapped pm_swapped an_swapped cd_swapped ct_swapped), sl_swapped⟩) (c_swapped : PySem.W.codeIn K cd_swapped "swapped" = true) (k_swapped : PySem.W.keepIn K (.ref f_swapped) = true)
    (a_renumbered : PySem.W.nsIn K mainGlobals "renumbered" = some (some (.ref f_renumbered))) (l_renumbered : K.lookup f_renumbered = some ⟨oc_renumbered, od_renumbered, .func (PySem.W.fnOf "renumbered" "renumbered" (fnArgs s_renumbered) (fnBody s_renumbered) (fnScope s_renumbered) .none kV_renumbered dc_renumbered pm_renumbered an_renumbered cd_renumbered ct_renumbered), sl_renumbered⟩) (c_renumbered : PySem.W.codeIn K cd_renumbered "renumbered" = true) (k_renumbered : PySem.W.keepIn K (.ref f_renumbered) = true)
    (a_before : PySem.W.nsIn K mainGlobals "before" = some (some (.ref f_before))) (l_before : K.lookup f_before = some ⟨oc_before, od_before, .func (PySem.W.fnOf "before" "before" (fnArgs s_before) (fnBody s_before) (fnScope s_before) .none kV_before dc_before pm_before an_before cd_before ct_before), sl_before⟩) (c_before : PySem.W.codeIn K cd_before "before" = true) (k_before : PySem.W.keepIn K (.ref f_before) = true)
    (a_switched : PySem.W.nsIn K mainGlobals "switched" = some (some (.ref f_switched))) (l_switched : K.lookup f_switched = some ⟨oc_switched, od_switched, .func (PySem.W.fnOf "switched" "switched" (fnArgs s_switched) (fnBody s_switched) (fnScope s_switched) .none kV_switched dc_switched pm_switched an_switched cd_switched ct_switched), sl_switched⟩) (c_switched : PySem.W.codeIn K cd_switched "switched" = true) (k_switched : PySem.W.keepIn K (.ref f_switched) = true)
    (a_law_cell : PySem.W.nsIn K mainGlobals "_law_cell" = some (some (.ref f_law_cell))) (l_law_cell : K.lookup f_law_cell = some ⟨oc_law_cell, od_law_cell, .func (PySem.W.fnOf "_law_cell" "_law_cell" (fnArgs s_law_cell) (fnBody s_law_cell) (fnScope s_law_cell) .none kV_law_cell dc_law_cell pm_law_cell an_law_cell cd_law_cell ct_law_cell), sl_law_cell⟩) (c_law_cell : PySem.W.codeIn K cd_law_cell "_law_cell" = true) (k_law_cell : PySem.W.keepIn K (.ref f_law_cell) = true)
    (a_law_row : PySem.W.nsIn K mainGlobals "_law_row" = some (some (.ref f_law_row))) (l_law_row : K.lookup f_law_row = some ⟨oc_law_row, od_law_row, .func (PySem.W.fnOf "_law_row" "_law_row" (fnArgs s_law_row) (fnBody s_law_row) (fnScope s_law_row) .none kV_law_row dc_law_row pm_law_row an_law_row cd_law_row ct_law_row), sl_law_row⟩) (c_law_row : PySem.W.codeIn K cd_law_row "_law_row" = true) (k_law_row : PySem.W.keepIn K (.ref f_law_row) = true)
    (a_law_stages : PySem.W.nsIn K mainGlobals "_law_stages" = some (some (.ref f_law_stages))) (l_law_stages : K.lookup f_law_stages = some ⟨oc_law_stages, od_law_stages, .func (PySem.W.fnOf "_law_stages" "_law_stages" (fnArgs s_law_stages) (fnBody s_law_stages) (fnScope s_law_stages) .none kV_law_stages dc_law_stages pm_law_stages an_law_stages cd_law_stages ct_law_stages), sl_law_stages⟩) (c_law_stages : PySem.W.codeIn K cd_law_stages "_law_stages" = true) (k_law_stages : PySem.W.keepIn K (.ref f_law_stages) = true)
    (a_law_paths : PySem.W.nsIn K mainGlobals "_law_paths" = some (some (.ref f_law_paths))) (l_law_paths : K.lookup f_law_paths = some ⟨oc_law_paths, od_law_paths, .func (PySem.W.fnOf "_law_paths" "_law_paths" (fnArgs s_law_paths) (fnBody s_law_paths) (fnScope s_law_paths) .none kV_law_paths dc_law_paths pm_law_paths an_law_paths cd_law_paths ct_law_paths), sl_law_paths⟩) (c_law_paths : PySem.W.codeIn K cd_law_paths "_law_paths" = true) (k_law_paths : PySem.W.keepIn K (.ref f_law_paths) = true)
    (a_law_block : PySem.W.nsIn K mainGlobals "_law_block" = some (some (.ref f_law_block))) (l_law_block : K.lookup f_law_block = some ⟨oc_law_block, od_law_block, .func (PySem.W.fnOf "_law_block" "_law_block" (fnArgs s_law_block) (fnBody s_law_block) (fnScope s_law_block) .none kV_law_block dc_law_block pm_law_block an_law_block cd_law_block ct_law_block), sl_law_block⟩) (c_law_block : PySem.W.codeIn K cd_law_block "_law_block" = true) (k_law_block : PySem.W.keepIn K (.ref f_law_block) = true)
    (a_law_sizes : PySem.W.nsIn K mainGlobals "_law_sizes" = some (some (.ref f_law_sizes))) (l_law_sizes : K.lookup f_law_sizes = some ⟨oc_law_sizes, od_law_sizes, .func (PySem.W.fnOf "_law_sizes" "_law_sizes" (fnArgs s_law_sizes) (fnBody s_law_sizes) (fnScope s_law_sizes) .none kV_law_sizes dc_law_sizes pm_law_sizes an_law_sizes cd_law_sizes ct_law_sizes), sl_law_sizes⟩) (c_law_sizes : PySem.W.codeIn K cd_law_sizes "_law_sizes" = true) (k_law_sizes : PySem.W.keepIn K (.ref f_law_sizes) = true)
    (a_law_turned : PySem.W.nsIn K mainGlobals "_law_turned" = some (some (.ref f_law_turned))) (l_law_turned : K.lookup f_law_turned = some ⟨oc_law_turned, od_law_turned, .func (PySem.W.fnOf "_law_turned" "_law_turned" (fnArgs s_law_turned) (fnBody s_law_turned) (fnScope s_law_turned) .none kV_law_turned dc_law_turned pm_law_turned an_law_turned cd_law_turned ct_law_turned), sl_law_turned⟩) (c_law_turned : PySem.W.codeIn K cd_law_turned "_law_turned" = true) (k_law_turned : PySem.W.keepIn K (.ref f_law_turned) = true)
    (a_law_is : PySem.W.nsIn K mainGlobals "_law_is" = some (some (.ref f_law_is))) (l_law_is : K.lookup f_law_is = some ⟨oc_law_is, od_law_is, .func (PySem.W.fnOf "_law_is" "_law_is" (fnArgs s_law_is) (fnBody s_law_is) (fnScope s_law_is) .none kV_law_is dc_law_is pm_law_is an_law_is cd_law_is ct_law_is), sl_law_is⟩) (c_law_is : PySem.W.codeIn K cd_law_is "_law_is" = true) (k_law_is : PySem.W.keepIn K (.ref f_law_is) = true)
    (a_law_refused : PySem.W.nsIn K mainGlobals "_law_refused" = some (some (.ref f_law_refused))) (l_law_refused : K.lookup f_law_refused = some ⟨oc_law_refused, od_law_refused, .func (PySem.W.fnOf "_law_refused" "_law_refused" (fnArgs s_law_refused) (fnBody s_law_refused) (fnScope s_law_refused) .none kV_law_refused dc_law_refused pm_law_refused an_law_refused cd_law_refused ct_law_refused), sl_law_refused⟩) (c_law_refused : PySem.W.codeIn K cd_law_refused "_law_refused" = true) (k_law_refused : PySem.W.keepIn K (.ref f_law_refused) = true)
    (a_law_swaps : PySem.W.nsIn K mainGlobals "_law_swaps" = some (some (.ref f_law_swaps))) (l_law_swaps : K.lookup f_law_swaps = some ⟨oc_law_swaps, od_law_swaps, .func (PySem.W.fnOf "_law_swaps" "_law_swaps" (fnArgs s_law_swaps) (fnBody s_law_swaps) (fnScope s_law_swaps) .none kV_law_swaps dc_law_swaps pm_law_swaps an_law_swaps cd_law_swaps ct_law_swaps), sl_law_swaps⟩) (c_law_swaps : PySem.W.codeIn K cd_law_swaps "_law_swaps" = true) (k_law_swaps : PySem.W.keepIn K (.ref f_law_swaps) = true)
    (a_law_swapped : PySem.W.nsIn K mainGlobals "_law_swapped" = some (some (.ref f_law_swapped))) (l_law_swapped : K.lookup f_law_swapped = some ⟨oc_law_swapped, od_law_swapped, .func (PySem.W.fnOf "_law_swapped" "_law_swapped" (fnArgs s_law_swapped) (fnBody s_law_swapped) (fnScope s_law_swapped) .none kV_law_swapped dc_law_swapped pm_law_swapped an_law_swapped cd_law_swapped ct_law_swapped), sl_law_swapped⟩) (c_law_swapped : PySem.W.codeIn K cd_law_swapped "_law_swapped" = true) (k_law_swapped : PySem.W.keepIn K (.ref f_law_swapped) = true)
    (a_law_numbered : PySem.W.nsIn K mainGlobals "_law_numbered" = some (some (.ref f_law_numbered))) (l_law_numbered : K.lookup f_law_numbered = some ⟨oc_law_numbered, od_law_numbered, .func (PySem.W.fnOf "_law_numbered" "_law_numbered" (fnArgs s_law_numbered) (fnBody s_law_numbered) (fnScope s_law_numbered) .none kV_law_numbered dc_law_numbered pm_law_numbered an_law_numbered cd_law_numbered ct_law_numbered), sl_law_numbered⟩) (c_law_numbered : PySem.W.codeIn K cd_law_numbered "_law_numbered" = true) (k_law_numbered : PySem.W.keepIn K (.ref f_law_numbered) = true)
    (a_law_more : PySem.W.nsIn K mainGlobals "_law_more" = some (some (.ref f_law_more))) (l_law_more : K.lookup f_law_more = some ⟨oc_law_more, od_law_more, .func (PySem.W.fnOf "_law_more" "_law_more" (fnArgs s_law_more) (fnBody s_law_more) (fnScope s_law_more) .none kV_law_more dc_law_more pm_law_more an_law_more cd_law_more ct_law_more), sl_law_more⟩) (c_law_more : PySem.W.codeIn K cd_law_more "_law_more" = true) (k_law_more : PySem.W.keepIn K (.ref f_law_more) = true)
    (a_law : PySem.W.nsIn K mainGlobals "law" = some (some (.ref f_law))) (l_law : K.lookup f_law = some ⟨oc_law, od_law, .func (PySem.W.fnOf "law" "law" (fnArgs s_law) (fnBody s_law) (fnScope s_law) .none kV_law dc_law pm_law an_law cd_law ct_law), sl_law⟩) (c_law : PySem.W.codeIn K cd_law "law" = true) (k_law : PySem.W.keepIn K (.ref f_law) = true)
    (mc_Game : PySem.W.nsIn K mainGlobals "Game" = some (some (.ref C_Game)))
    (pg_Game : PySem.W.plainGet K C_Game Str.empty = true)
    (hd_Game : PySem.W.hasDictIn K C_Game = true)
    (po_Game : PySem.W.plainOver K C_Game = true)
    (sa_Game : PySem.W.findIn K (.ref C_Game) "__setattr__" = some (some (.builtin "object.__setattr__")))
    (mk_Game : PySem.W.makesIn K C_Game = true)
    (kc_Game : PySem.W.keepIn K (.ref C_Game) = true)
    (ha_Game : PySem.W.findIn K (.ref C_Game) "__class__" = some (some (.builtin "object.__class__")))
    (hn_Game : PySem.W.specialIn K (.builtin "object.__class__") "__get__" = some (some (.builtin "getset_descriptor.__get__")))
    (ht_Game : PySem.W.takesIn K (.builtin "object.__class__") = some true)
    (hm_Game : PySem.W.mroIn K C_Game (.type "object") = some true)
    (noptions_Game : PySem.W.findIn K (.ref C_Game) "options" = some none)
    (nvariables_Game : PySem.W.findIn K (.ref C_Game) "variables" = some none)
    (nrounds_Game : PySem.W.findIn K (.ref C_Game) "rounds" = some none)
    (a_Game___init : PySem.W.findIn K (.ref C_Game) "__init__" = some (some (.ref f_Game___init))) (i_Game___init : PySem.W.isFn K (.ref f_Game___init) = true) (l_Game___init : K.lookup f_Game___init = some ⟨oc_Game___init, od_Game___init, .func (PySem.W.fnOf "__init__" "Game.__init__" (fnArgs s_Game___init) (fnBody s_Game___init) (fnScope s_Game___init) .none kV_Game___init dc_Game___init pm_Game___init an_Game___init cd_Game___init ct_Game___init), sl_Game___init⟩) (c_Game___init : PySem.W.codeIn K cd_Game___init "Game.__init__" = true) (k_Game___init : PySem.W.keepIn K (.ref f_Game___init) = true)
    (a_Game___eq : PySem.W.findIn K (.ref C_Game) "__eq__" = some (some (.ref f_Game___eq))) (i_Game___eq : PySem.W.isFn K (.ref f_Game___eq) = true) (l_Game___eq : K.lookup f_Game___eq = some ⟨oc_Game___eq, od_Game___eq, .func (PySem.W.fnOf "__eq__" "Game.__eq__" (fnArgs s_Game___eq) (fnBody s_Game___eq) (fnScope s_Game___eq) .none kV_Game___eq dc_Game___eq pm_Game___eq an_Game___eq cd_Game___eq ct_Game___eq), sl_Game___eq⟩) (c_Game___eq : PySem.W.codeIn K cd_Game___eq "Game.__eq__" = true) (k_Game___eq : PySem.W.keepIn K (.ref f_Game___eq) = true)
    (mc_GameError : PySem.W.nsIn K mainGlobals "GameError" = some (some (.ref C_GameError)))
    (mc_BadText : PySem.W.nsIn K mainGlobals "BadText" = some (some (.ref C_BadText)))
    (mc_BadMove : PySem.W.nsIn K mainGlobals "BadMove" = some (some (.ref C_BadMove)))
    (mc_BadEdit : PySem.W.nsIn K mainGlobals "BadEdit" = some (some (.ref C_BadEdit)))
    (opq : PySem.W.nsIn K PySem.cStatics "thirdparty.any" = some none)
    (zsup : PySem.W.nsIn K mainGlobals "super" = some none)
    (ptop : (l.prog.main.scope.names.lookup ("super" : Str)).isSome = false)
    (xsp : PySem.W.specialIn K (.builtin "object.__class__") "__get__" = some (some (.builtin "getset_descriptor.__get__")))
    (xtk : PySem.W.takesIn K (.builtin "object.__class__") = some true)
    (xL_BadEdit : K.lookup C_BadEdit = some (excClassObj nm_BadEdit q_BadEdit C_BadEdit N_BadEdit bs_BadEdit [.ref C_GameError, .type "ValueError", .type "Exception", .type "BaseException", .type "object"] true sn_BadEdit sub_BadEdit ab_BadEdit col_BadEdit dd_BadEdit m0_BadEdit m1_BadEdit m2_BadEdit m3_BadEdit m5_BadEdit "ValueError.__new__"))
    (al_BadEdit : PySem.W.ks_superIn K C_BadEdit C_BadEdit "__init__" = some (some (.builtin "ValueError.__init__")))
    (ve_BadEdit : PySem.W.subIn K (.ref C_BadEdit) (.type "ValueError") = some true)
    (sa_BadEdit : PySem.W.findIn K (.ref C_BadEdit) "__setattr__" = some (some (.builtin "object.__setattr__")))
    (ga_BadEdit : PySem.W.findIn K (.ref C_BadEdit) "__getattribute__" = some (some (.builtin "BaseException.__getattribute__")))
    (gg_BadEdit : PySem.W.findIn K (.ref C_BadEdit) "__getattr__" = some none)
    (nb_BadEdit : PySem.W.findIn K (.ref C_BadEdit) "what" = some none)
    (iC_BadEdit : PySem.W.findIn K (.ref C_BadEdit) "__init__" = some (some (.ref f_BadEdit___init)))
    (tf_BadEdit : PySem.W.typeIn K (.ref f_BadEdit___init) = some (.type "function"))
    (kC_BadEdit : PySem.W.keepIn K (.ref C_BadEdit) = true)
    (eC_BadEdit : PySem.W.subIn K (.ref C_BadEdit) (.type "BaseException") = some true)
    (tC_BadEdit : PySem.W.typeIn K (.ref C_BadEdit) = some (.type "type"))
    (hC_BadEdit : PySem.W.hasDictIn K C_BadEdit = true)
    (mo_BadEdit : PySem.W.mroIn K C_BadEdit (.ref C_BadEdit) = some true)
    (ma_BadEdit : PySem.W.mroIn K C_BadEdit (.type "object") = some true)
    (ca_BadEdit : PySem.W.findIn K (.ref C_BadEdit) "__class__" = some (some (.builtin "object.__class__")))
    (ss_BadEdit : PySem.W.subIn K (.ref C_BadEdit) (.ref C_BadEdit) = some true)
    (lf_BadEdit : K.lookup f_BadEdit___init = some ⟨oc_BadEdit___init, od_BadEdit___init, .func (PySem.W.fnX "__init__" "BadEdit.__init__" (fnArgs s_BadEdit___init) (fnBody s_BadEdit___init) (fnScope s_BadEdit___init) [("__class__", cc_BadEdit___init)] .none .none dc_BadEdit___init pm_BadEdit___init an_BadEdit___init (.ref cda_BadEdit___init) ct_BadEdit___init), sl_BadEdit___init⟩)
    (cf_BadEdit : PySem.W.codeIn K (.ref cda_BadEdit___init) "BadEdit.__init__" = true)
    (lc_BadEdit : K.lookup cc_BadEdit___init = some ⟨cl_BadEdit___init, cld_BadEdit___init, .cell (some (.ref C_BadEdit)), csl_BadEdit___init⟩)
    (ld_BadEdit : K.lookup cda_BadEdit___init = some ⟨ccl_BadEdit___init, cdd_BadEdit___init, .fields vs_BadEdit___init, ccs_BadEdit___init⟩)
    (vf_BadEdit : vs_BadEdit___init[2]? = some (.str file_BadEdit___init tf_BadEdit___init))
    (fe_BadEdit : ((l.prog.main.file : Str) == file_BadEdit___init) = true)
    (hnG : PySem.W.findIn K (.ref C_Game) "__ne__" = some (some (.builtin "object.__ne__")))
    (hmG : PySem.W.mroIn K C_Game (.type "object") = some true)
    (hgE : PySem.W.subIn K (.ref C_GameError) (.type "BaseException") = some true)
    (hgH : PySem.W.hasDictIn K C_GameError = true)
    (hgT : PySem.W.typeIn K (.ref C_GameError) = some (.type "type"))
    (hgS : PySem.W.subIn K (.ref C_BadEdit) (.ref C_GameError) = some true)
    (hkX : PySem.W.kitAny K (.ref C_BadEdit) [.ref C_BadMove, .ref C_BadText] = some false)
    (z_abs : PySem.W.nsIn K mainGlobals "abs" = some none)
    (z_any : PySem.W.nsIn K mainGlobals "any" = some none)
    (z_enumerate : PySem.W.nsIn K mainGlobals "enumerate" = some none)
    (z_int : PySem.W.nsIn K mainGlobals "int" = some none)
    (z_isinstance : PySem.W.nsIn K mainGlobals "isinstance" = some none)
    (z_len : PySem.W.nsIn K mainGlobals "len" = some none)
    (z_range : PySem.W.nsIn K mainGlobals "range" = some none)
    (z_str : PySem.W.nsIn K mainGlobals "str" = some none)
    (z_sum : PySem.W.nsIn K mainGlobals "sum" = some none)
    (z_tuple : PySem.W.nsIn K mainGlobals "tuple" = some none)
    : ∃ fd : FuncData, (∀ (s : Shared) (v : Value), BindsTo s fd ⟨[v], []⟩ [("script", v)]) ∧ ∀ base : Heap, K.In base → base.Ns mainGlobals mg → FnOk l.prog w K mg base C8.CX0 9 fa fd ["script"] (sp_law K) := by
  have e := hfa.symm.trans (PySem.W.mg_of X G a_law)
  cases e
  have T : Txt K mg C_Game C_GameError C_BadText C_BadMove C_BadEdit := ⟨PySem.W.mg_none_of X G z_abs, PySem.W.mg_none_of X G z_any, PySem.W.mg_none_of X G z_enumerate, PySem.W.mg_none_of X G z_int, PySem.W.mg_none_of X G z_isinstance, PySem.W.mg_none_of X G z_len, PySem.W.mg_none_of X G z_range, PySem.W.mg_none_of X G z_str, PySem.W.mg_none_of X G z_sum, PySem.W.mg_none_of X G z_tuple, ⟨pg_Game, hd_Game, po_Game, sa_Game⟩, PySem.W.mg_of X G mc_Game, ⟨⟨pg_Game, hd_Game, po_Game, sa_Game⟩, ha_Game, hn_Game, ht_Game, hm_Game, kitSelf⟩, noptions_Game, nvariables_Game, nrounds_Game, PySem.W.mg_of X G mc_GameError, PySem.W.mg_of X G mc_BadText, PySem.W.mg_of X G mc_BadMove, PySem.W.mg_of X G mc_BadEdit, ⟨ga_BadEdit, gg_BadEdit, eC_BadEdit, hC_BadEdit, ca_BadEdit, xsp, xtk, ma_BadEdit⟩, ⟨ga_BadEdit, gg_BadEdit, eC_BadEdit, hC_BadEdit⟩, nb_BadEdit, PySem.W.exm_ref eC_BadEdit hC_BadEdit tC_BadEdit ss_BadEdit, hnG, hmG, hgE, hgH, hgT, hgS, hkX, True.intro⟩
  have X_BadEdit : SupX_BadEdit.Txt l.prog K mg "BadEdit" C_BadEdit f_BadEdit___init := { gC := PySem.W.mg_of X G mc_BadEdit, cls := ⟨_, _, _, _, _, _, _, _, _, _, _, _, _, _, _, xL_BadEdit, rfl⟩, along := al_BadEdit, veC := ve_BadEdit, sa := sa_BadEdit, ga := ga_BadEdit, gg := gg_BadEdit, noN := nb_BadEdit, iC := iC_BadEdit, tC := tf_BadEdit, kC := kC_BadEdit, exC := eC_BadEdit, tyC := tC_BadEdit, hdC := hC_BadEdit, opq := opq, noS := PySem.W.mg_none_of X G zsup, mroC := mo_BadEdit, top := ptop, fn := ⟨_, _, _, _, _, _, _, _, _, _, _, _, _, _, _, _, _, _, lf_BadEdit, cf_BadEdit, lc_BadEdit, ld_BadEdit, vf_BadEdit, fe_BadEdit⟩ }
  have F_Game___init : C8.Fun K "__init__" "Game.__init__" s_Game___init _ _ := ⟨⟨_, _, _, _, _, _, _, _, _, _, rfl, l_Game___init, c_Game___init⟩⟩
  have M_Game : Mk K C_Game f_Game___init := ⟨mk_Game, a_Game___init, i_Game___init, kc_Game⟩
  have b_Game___init : Binds K _ ["self", "options", "variables", "rounds"] [] := C8.Fun.binds F_Game___init rfl fun _ _ _ _ _ _ us hl => match us, hl with | [_, _, _, _], _ => rfl
  have F_Game___eq : C8.Fun K "__eq__" "Game.__eq__" s_Game___eq _ _ := ⟨⟨_, _, _, _, _, _, _, _, _, _, rfl, l_Game___eq, c_Game___eq⟩⟩
  have M_Game___eq : Meth K C_Game "__eq__" f_Game___eq := ⟨a_Game___eq, i_Game___eq, k_Game___eq⟩
  have b_Game___eq : Binds K _ ["self", "other"] [] := C8.Fun.binds F_Game___eq rfl fun _ _ _ _ _ _ us hl => match us, hl with | [_, _], _ => rfl
  have D_moves_in : C8.Def K mg "moves_in" s_moves_in _ _ := ⟨⟨⟨_, _, _, _, _, _, _, _, _, _, rfl, l_moves_in, c_moves_in⟩⟩, PySem.W.mg_of X G a_moves_in, k_moves_in⟩
  have b_moves_in : Binds K _ ["block"] [] := C8.Fun.binds D_moves_in.fn rfl fun _ _ _ _ _ _ us hl => match us, hl with | [_], _ => rfl
  have D_swapped_block : C8.Def K mg "swapped_block" s_swapped_block _ _ := ⟨⟨⟨_, _, _, _, _, _, _, _, _, _, rfl, l_swapped_block, c_swapped_block⟩⟩, PySem.W.mg_of X G a_swapped_block, k_swapped_block⟩
  have b_swapped_block : Binds K _ ["block"] [] := C8.Fun.binds D_swapped_block.fn rfl fun _ _ _ _ _ _ us hl => match us, hl with | [_], _ => rfl
  have D_swapped : C8.Def K mg "swapped" s_swapped _ _ := ⟨⟨⟨_, _, _, _, _, _, _, _, _, _, rfl, l_swapped, c_swapped⟩⟩, PySem.W.mg_of X G a_swapped, k_swapped⟩
  have b_swapped : Binds K _ ["game"] [] := C8.Fun.binds D_swapped.fn rfl fun _ _ _ _ _ _ us hl => match us, hl with | [_], _ => rfl
  have D_renumbered : C8.Def K mg "renumbered" s_renumbered _ _ := ⟨⟨⟨_, _, _, _, _, _, _, _, _, _, rfl, l_renumbered, c_renumbered⟩⟩, PySem.W.mg_of X G a_renumbered, k_renumbered⟩
  have b_renumbered : Binds K _ ["block", "number"] [] := C8.Fun.binds D_renumbered.fn rfl fun _ _ _ _ _ _ us hl => match us, hl with | [_, _], _ => rfl
  have D_before : C8.Def K mg "before" s_before _ _ := ⟨⟨⟨_, _, _, _, _, _, _, _, _, _, rfl, l_before, c_before⟩⟩, PySem.W.mg_of X G a_before, k_before⟩
  have b_before : Binds K _ ["game", "other"] [] := C8.Fun.binds D_before.fn rfl fun _ _ _ _ _ _ us hl => match us, hl with | [_, _], _ => rfl
  have D_switched : C8.Def K mg "switched" s_switched _ _ := ⟨⟨⟨_, _, _, _, _, _, _, _, _, _, rfl, l_switched, c_switched⟩⟩, PySem.W.mg_of X G a_switched, k_switched⟩
  have b_switched : Binds K _ ["game", "names"] [] := C8.Fun.binds D_switched.fn rfl fun _ _ _ _ _ _ us hl => match us, hl with | [_, _], _ => rfl
  have D_law_cell : C8.Def K mg "_law_cell" s_law_cell _ _ := ⟨⟨⟨_, _, _, _, _, _, _, _, _, _, rfl, l_law_cell, c_law_cell⟩⟩, PySem.W.mg_of X G a_law_cell, k_law_cell⟩
  have b_law_cell : Binds K _ ["script", "k"] [] := C8.Fun.binds D_law_cell.fn rfl fun _ _ _ _ _ _ us hl => match us, hl with | [_, _], _ => rfl
  have D_law_row : C8.Def K mg "_law_row" s_law_row _ _ := ⟨⟨⟨_, _, _, _, _, _, _, _, _, _, rfl, l_law_row, c_law_row⟩⟩, PySem.W.mg_of X G a_law_row, k_law_row⟩
  have b_law_row : Binds K _ ["cell", "count", "size"] [] := C8.Fun.binds D_law_row.fn rfl fun _ _ _ _ _ _ us hl => match us, hl with | [_, _, _], _ => rfl
  have D_law_stages : C8.Def K mg "_law_stages" s_law_stages _ _ := ⟨⟨⟨_, _, _, _, _, _, _, _, _, _, rfl, l_law_stages, c_law_stages⟩⟩, PySem.W.mg_of X G a_law_stages, k_law_stages⟩
  have b_law_stages : Binds K _ ["script", "most"] [] := C8.Fun.binds D_law_stages.fn rfl fun _ _ _ _ _ _ us hl => match us, hl with | [_, _], _ => rfl
  have D_law_paths : C8.Def K mg "_law_paths" s_law_paths _ _ := ⟨⟨⟨_, _, _, _, _, _, _, _, _, _, rfl, l_law_paths, c_law_paths⟩⟩, PySem.W.mg_of X G a_law_paths, k_law_paths⟩
  have b_law_paths : Binds K _ ["stages"] [] := C8.Fun.binds D_law_paths.fn rfl fun _ _ _ _ _ _ us hl => match us, hl with | [_], _ => rfl
  have D_law_block : C8.Def K mg "_law_block" s_law_block _ _ := ⟨⟨⟨_, _, _, _, _, _, _, _, _, _, rfl, l_law_block, c_law_block⟩⟩, PySem.W.mg_of X G a_law_block, k_law_block⟩
  have b_law_block : Binds K _ ["stages", "paid", "names", "first", "option"] [] := C8.Fun.binds D_law_block.fn rfl fun _ _ _ _ _ _ us hl => match us, hl with | [_, _, _, _, _], _ => rfl
  have D_law_sizes : C8.Def K mg "_law_sizes" s_law_sizes _ _ := ⟨⟨⟨_, _, _, _, _, _, _, _, _, _, rfl, l_law_sizes, c_law_sizes⟩⟩, PySem.W.mg_of X G a_law_sizes, k_law_sizes⟩
  have b_law_sizes : Binds K _ ["stages", "names"] [] := C8.Fun.binds D_law_sizes.fn rfl fun _ _ _ _ _ _ us hl => match us, hl with | [_, _], _ => rfl
  have D_law_turned : C8.Def K mg "_law_turned" s_law_turned _ _ := ⟨⟨⟨_, _, _, _, _, _, _, _, _, _, rfl, l_law_turned, c_law_turned⟩⟩, PySem.W.mg_of X G a_law_turned, k_law_turned⟩
  have b_law_turned : Binds K _ ["stages"] [] := C8.Fun.binds D_law_turned.fn rfl fun _ _ _ _ _ _ us hl => match us, hl with | [_], _ => rfl
  have D_law_is : C8.Def K mg "_law_is" s_law_is _ _ := ⟨⟨⟨_, _, _, _, _, _, _, _, _, _, rfl, l_law_is, c_law_is⟩⟩, PySem.W.mg_of X G a_law_is, k_law_is⟩
  have b_law_is : Binds K _ ["game", "options", "variables", "rounds"] [] := C8.Fun.binds D_law_is.fn rfl fun _ _ _ _ _ _ us hl => match us, hl with | [_, _, _, _], _ => rfl
  have D_law_refused : C8.Def K mg "_law_refused" s_law_refused _ _ := ⟨⟨⟨_, _, _, _, _, _, _, _, _, _, rfl, l_law_refused, c_law_refused⟩⟩, PySem.W.mg_of X G a_law_refused, k_law_refused⟩
  have b_law_refused : Binds K _ ["game", "names"] [] := C8.Fun.binds D_law_refused.fn rfl fun _ _ _ _ _ _ us hl => match us, hl with | [_, _], _ => rfl
  have D_law_swaps : C8.Def K mg "_law_swaps" s_law_swaps _ _ := ⟨⟨⟨_, _, _, _, _, _, _, _, _, _, rfl, l_law_swaps, c_law_swaps⟩⟩, PySem.W.mg_of X G a_law_swaps, k_law_swaps⟩
  have b_law_swaps : Binds K _ ["stages", "paid", "names", "option", "game", "more"] [] := C8.Fun.binds D_law_swaps.fn rfl fun _ _ _ _ _ _ us hl => match us, hl with | [_, _, _, _, _, _], _ => rfl
  have D_law_swapped : C8.Def K mg "_law_swapped" s_law_swapped _ _ := ⟨⟨⟨_, _, _, _, _, _, _, _, _, _, rfl, l_law_swapped, c_law_swapped⟩⟩, PySem.W.mg_of X G a_law_swapped, k_law_swapped⟩
  have b_law_swapped : Binds K _ ["block"] [] := C8.Fun.binds D_law_swapped.fn rfl fun _ _ _ _ _ _ us hl => match us, hl with | [_], _ => rfl
  have D_law_numbered : C8.Def K mg "_law_numbered" s_law_numbered _ _ := ⟨⟨⟨_, _, _, _, _, _, _, _, _, _, rfl, l_law_numbered, c_law_numbered⟩⟩, PySem.W.mg_of X G a_law_numbered, k_law_numbered⟩
  have b_law_numbered : Binds K _ ["block", "state"] [] := C8.Fun.binds D_law_numbered.fn rfl fun _ _ _ _ _ _ us hl => match us, hl with | [_, _], _ => rfl
  have D_law_more : C8.Def K mg "_law_more" s_law_more _ _ := ⟨⟨⟨_, _, _, _, _, _, _, _, _, _, rfl, l_law_more, c_law_more⟩⟩, PySem.W.mg_of X G a_law_more, k_law_more⟩
  have b_law_more : Binds K _ ["cell", "stages", "names", "option", "title"] [] := C8.Fun.binds D_law_more.fn rfl fun _ _ _ _ _ _ us hl => match us, hl with | [_, _, _, _, _], _ => rfl
  have F_law : C8.Fun K "law" "law" s_law _ _ := ⟨⟨_, _, _, _, _, _, _, _, _, _, rfl, l_law, c_law⟩⟩
  refine ⟨PySem.W.fnOf "law" "law" (fnArgs s_law) (fnBody s_law) (fnScope s_law) .none kV_law dc_law pm_law an_law cd_law ct_law, fun s v => .of_eq rfl, fun base _ _ => ?_⟩
  have c_Game := ok_game (P := l.prog) (w := w) (base := base) M_Game F_Game___init b_Game___init T
  have c_Game_eq := ok_geq (P := l.prog) (w := w) (base := base) M_Game___eq F_Game___eq b_Game___eq T
  have c_moves_in := moves_all (P := l.prog) (w := w) (base := base) D_moves_in b_moves_in T 4
  have c_swapped_block := sw_all (P := l.prog) (w := w) (base := base) D_swapped_block b_swapped_block T 4
  have c_law_swapped := lsw_all (P := l.prog) (w := w) (base := base) D_law_swapped b_law_swapped T 4
  have c_renumbered := rn_all (P := l.prog) (w := w) (base := base) D_renumbered b_renumbered T D_moves_in b_moves_in 4
  have c_law_numbered := num_all (P := l.prog) (w := w) (base := base) D_law_numbered b_law_numbered T 4
  have c_law_is := ok_is (P := l.prog) (w := w) (base := base) D_law_is b_law_is T
  have c_swapped := ok_swapped D_swapped b_swapped T (by decide) c_swapped_block c_Game
  have c_before := ok_before D_before b_before T X_BadEdit (by decide) c_renumbered c_moves_in c_Game
  have c_switchedX := ok_switched D_switched b_switched T X_BadEdit c_Game
  have c_switched := calNr c_switchedX
  have c_law_cell := ok_cell (P := l.prog) (w := w) (base := base) D_law_cell b_law_cell T
  have c_law_row := ok_row (P := l.prog) (w := w) (base := base) D_law_row b_law_row T
  have c_law_stages := ok_stages D_law_stages b_law_stages T c_law_cell c_law_row
  have c_law_paths := ok_paths (P := l.prog) (w := w) (base := base) D_law_paths b_law_paths T
  have c_law_turned := ok_turned (P := l.prog) (w := w) (base := base) D_law_turned b_law_turned T
  have c_law_sizes := ok_sizes (P := l.prog) (w := w) (base := base) D_law_sizes b_law_sizes T
  have c_law_block := ok_block D_law_block b_law_block T c_law_paths
  have c_law_refused := ok_refused D_law_refused b_law_refused T c_switchedX
  have c_law_swaps := ok_swaps (m := 4) (k := 7) D_law_swaps b_law_swaps T (by decide) c_swapped c_law_block c_law_turned (calUp c_law_swapped (by decide)) c_law_is c_Game_eq
  have c_law_more := ok_more D_law_more b_law_more T c_law_row
  exact ok_law (k := 4) F_law T c_law_cell c_law_row c_law_stages c_law_paths c_law_block c_law_sizes c_law_more (calUp c_law_numbered (by decide)) c_Game c_law_swaps c_switched c_law_is c_law_refused c_Game_eq (c_before.up (by decide))
theorem walk {l : PySem.W.OpenLaw} {q : Program} {loose : List Str} {XP : (Str → Option Value) → Heap → Prop} {YP : World → Heap → Prop} {d : DefRec} {K : Params → PySem.W.Frag} (hn : l.most = some 63) (hdf : d.params.defaults = [])
    (hY : ∀ (w : World) (h : Heap), YP w h → (K w.params).In h)
    (F : ∀ (w : World) (mg : Str → Option Value) (fa : Addr) (h : Heap), (K w.params).In h → h.Ns mainGlobals mg → mg d.name = some (.ref fa) →
      ∃ fd : FuncData, (∀ (s : Shared) (u : Value), BindsTo s fd ⟨[u], []⟩ [("script", u)]) ∧ ∀ base : Heap, (K w.params).In base → base.Ns mainGlobals mg → FnOk l.prog w (K w.params) mg base C8.CX0 9 fa fd ["script"] (sp_law (K w.params))) :
    PySem.W.WalkO q loose XP YP l.row.toRowW d [] (fun f vs => PySem.call f vs) :=
  L2.walk_ofB (n := 63) (k := 9) (x := "script") (CX := fun _ => C8.CX0) (sp := fun w => sp_law (K w.params)) hn (by decide) hdf ⟨rfl, by decide, by decide⟩ hY F (fun _ _ a ns hl hb _ hS => ⟨a, ns, rfl, hS, fun _ => rfl⟩) fun _ _ _ _ _ z => z
end My
open PySem PySem.W PyProof.Rows
set_option maxRecDepth 100000 in
set_option maxHeartbeats 0 in
theorem PySem.Challenge.cw_bothgain_k82_composed_games_holds : PySem.Challenge.rw_bothgain_k82_composed_games.Holds := by
  w_on; o_law; k_head; (case hw => w_witness2)
  k_fill
  refine My.walk (l := PySem.Challenge.rw_bothgain_k82_composed_games) rfl rfl (fun w h Y => PySem.W.kIn_of Y) ?F
  case F =>
    intro w mg fa h KX G hmg
    refine' My.all_mk KX G hmg ?a_moves_in ?l_moves_in ?c_moves_in ?k_moves_in ?a_swapped_block ?l_swapped_block ?c_swapped_block ?k_swapped_block ?a_swapped ?l_swapped ?c_swapped ?k_swapped ?a_renumbered ?l_renumbered ?c_renumbered ?k_renumbered ?a_before ?l_before ?c_before ?k_before ?a_switched ?l_switched ?c_switched ?k_switched ?a_law_cell ?l_law_cell ?c_law_cell ?k_law_cell ?a_law_row ?l_law_row ?c_law_row ?k_law_row ?a_law_stages ?l_law_stages ?c_law_stages ?k_law_stages ?a_law_paths ?l_law_paths ?c_law_paths ?k_law_paths ?a_law_block ?l_law_block ?c_law_block ?k_law_block ?a_law_sizes ?l_law_sizes ?c_law_sizes ?k_law_sizes ?a_law_turned ?l_law_turned ?c_law_turned ?k_law_turned ?a_law_is ?l_law_is ?c_law_is ?k_law_is ?a_law_refused ?l_law_refused ?c_law_refused ?k_law_refused ?a_law_swaps ?l_law_swaps ?c_law_swaps ?k_law_swaps ?a_law_swapped ?l_law_swapped ?c_law_swapped ?k_law_swapped ?a_law_numbered ?l_law_numbered ?c_law_numbered ?k_law_numbered ?a_law_more ?l_law_more ?c_law_more ?k_law_more ?a_law ?l_law ?c_law ?k_law ?mc_Game ?pg_Game ?hd_Game ?po_Game ?sa_Game ?mk_Game ?kc_Game ?ha_Game ?hn_Game ?ht_Game ?hm_Game ?noptions_Game ?nvariables_Game ?nrounds_Game ?a_Game___init ?i_Game___init ?l_Game___init ?c_Game___init ?k_Game___init ?a_Game___eq ?i_Game___eq ?l_Game___eq ?c_Game___eq ?k_Game___eq ?mc_GameError ?mc_BadText ?mc_BadMove ?mc_BadEdit ?opq ?zsup ?ptop ?xsp ?xtk ?xL_BadEdit ?al_BadEdit ?ve_BadEdit ?sa_BadEdit ?ga_BadEdit ?gg_BadEdit ?nb_BadEdit ?iC_BadEdit ?tf_BadEdit ?kC_BadEdit ?eC_BadEdit ?tC_BadEdit ?hC_BadEdit ?mo_BadEdit ?ma_BadEdit ?ca_BadEdit ?ss_BadEdit ?lf_BadEdit ?cf_BadEdit ?lc_BadEdit ?ld_BadEdit ?vf_BadEdit ?fe_BadEdit ?hnG ?hmG ?hgE ?hgH ?hgT ?hgS ?hkX ?z_abs ?z_any ?z_enumerate ?z_int ?z_isinstance ?z_len ?z_range ?z_str ?z_sum ?z_tuple
    (case a_moves_in => k_is)
    (case l_moves_in => k_is)
    (case c_moves_in => k_is)
    (case k_moves_in => k_is)
    (case a_swapped_block => k_is)
    (case l_swapped_block => k_is)
    (case c_swapped_block => k_is)
    (case k_swapped_block => k_is)
    (case a_swapped => k_is)
    (case l_swapped => k_is)
    (case c_swapped => k_is)
    (case k_swapped => k_is)
    (case a_renumbered => k_is)
    (case l_renumbered => k_is)
    (case c_renumbered => k_is)
    (case k_renumbered => k_is)
    (case a_before => k_is)
    (case l_before => k_is)
    (case c_before => k_is)
    (case k_before => k_is)
    (case a_switched => k_is)
    (case l_switched => k_is)
    (case c_switched => k_is)
    (case k_switched => k_is)
    (case a_law_cell => k_is)
    (case l_law_cell => k_is)
    (case c_law_cell => k_is)
    (case k_law_cell => k_is)
    (case a_law_row => k_is)
    (case l_law_row => k_is)
    (case c_law_row => k_is)
    (case k_law_row => k_is)
    (case a_law_stages => k_is)
    (case l_law_stages => k_is)
    (case c_law_stages => k_is)
    (case k_law_stages => k_is)
    (case a_law_paths => k_is)
    (case l_law_paths => k_is)
    (case c_law_paths => k_is)
    (case k_law_paths => k_is)
    (case a_law_block => k_is)
    (case l_law_block => k_is)
    (case c_law_block => k_is)
    (case k_law_block => k_is)
    (case a_law_sizes => k_is)
    (case l_law_sizes => k_is)
    (case c_law_sizes => k_is)
    (case k_law_sizes => k_is)
    (case a_law_turned => k_is)
    (case l_law_turned => k_is)
    (case c_law_turned => k_is)
    (case k_law_turned => k_is)
    (case a_law_is => k_is)
    (case l_law_is => k_is)
    (case c_law_is => k_is)
    (case k_law_is => k_is)
    (case a_law_refused => k_is)
    (case l_law_refused => k_is)
    (case c_law_refused => k_is)
    (case k_law_refused => k_is)
    (case a_law_swaps => k_is)
    (case l_law_swaps => k_is)
    (case c_law_swaps => k_is)
    (case k_law_swaps => k_is)
    (case a_law_swapped => k_is)
    (case l_law_swapped => k_is)
    (case c_law_swapped => k_is)
    (case k_law_swapped => k_is)
    (case a_law_numbered => k_is)
    (case l_law_numbered => k_is)
    (case c_law_numbered => k_is)
    (case k_law_numbered => k_is)
    (case a_law_more => k_is)
    (case l_law_more => k_is)
    (case c_law_more => k_is)
    (case k_law_more => k_is)
    (case a_law => k_is)
    (case l_law => k_is)
    (case c_law => k_is)
    (case k_law => k_is)
    (case mc_Game => k_is)
    (case pg_Game => k_is)
    (case hd_Game => k_is)
    (case po_Game => k_is)
    (case sa_Game => k_is)
    (case mk_Game => k_is)
    (case kc_Game => k_is)
    (case ha_Game => k_is)
    (case hn_Game => k_is)
    (case ht_Game => k_is)
    (case hm_Game => k_is)
    (case noptions_Game => k_is)
    (case nvariables_Game => k_is)
    (case nrounds_Game => k_is)
    (case a_Game___init => k_is)
    (case i_Game___init => k_is)
    (case l_Game___init => k_is)
    (case c_Game___init => k_is)
    (case k_Game___init => k_is)
    (case a_Game___eq => k_is)
    (case i_Game___eq => k_is)
    (case l_Game___eq => k_is)
    (case c_Game___eq => k_is)
    (case k_Game___eq => k_is)
    (case mc_GameError => k_is)
    (case mc_BadText => k_is)
    (case mc_BadMove => k_is)
    (case mc_BadEdit => k_is)
    (case opq => first | k_is | rfl | decide +kernel)
    (case zsup => k_is)
    (case ptop => first | k_is | rfl | decide +kernel)
    (case xsp => k_is)
    (case xtk => k_is)
    (case xL_BadEdit => k_is)
    (case al_BadEdit => first | k_is | rfl | decide +kernel)
    (case ve_BadEdit => k_is)
    (case sa_BadEdit => k_is)
    (case ga_BadEdit => k_is)
    (case gg_BadEdit => k_is)
    (case nb_BadEdit => k_is)
    (case iC_BadEdit => k_is)
    (case tf_BadEdit => k_is)
    (case kC_BadEdit => k_is)
    (case eC_BadEdit => k_is)
    (case tC_BadEdit => k_is)
    (case hC_BadEdit => k_is)
    (case mo_BadEdit => k_is)
    (case ma_BadEdit => k_is)
    (case ca_BadEdit => k_is)
    (case ss_BadEdit => first | k_is | rfl | decide +kernel)
    (case lf_BadEdit => k_is)
    (case cf_BadEdit => k_is)
    (case lc_BadEdit => k_is)
    (case ld_BadEdit => k_is)
    (case vf_BadEdit => first | k_is | rfl | decide +kernel)
    (case fe_BadEdit => first | k_is | rfl | decide +kernel)
    (case hnG => first | k_is | kit_is | rfl | decide +kernel)
    (case hmG => first | k_is | kit_is | rfl | decide +kernel)
    (case hgE => first | k_is | kit_is | rfl | decide +kernel)
    (case hgH => first | k_is | kit_is | rfl | decide +kernel)
    (case hgT => first | k_is | kit_is | rfl | decide +kernel)
    (case hgS => first | k_is | kit_is | rfl | decide +kernel)
    (case hkX => first | k_is | kit_is | rfl | decide +kernel)
    (case z_abs => k_is)
    (case z_any => k_is)
    (case z_enumerate => k_is)
    (case z_int => k_is)
    (case z_isinstance => k_is)
    (case z_len => k_is)
    (case z_range => k_is)
    (case z_str => k_is)
    (case z_sum => k_is)
    (case z_tuple => k_is)

