
import PyProof.Rows.All
import Wide.All
import OpenK.AllK
import Wide.FinOn
import HandS.ForMost
import HandS.Codes
import HandS.IsInst
import HandS.EndBits
import HandS.Walk
import HandS.DeepEq
import HandS.Gcd
import HandS.Wide
import HandS.Defaults
import HandS.OwnEq
import HandS.Dict
import HandS.WordsDict
import HandS.Star
import HandS.Strs
import HandS.RaiseMore
import HandS.More
import HandS.Iter
import HandS.Zip
import HandS.Style
import HandS.ForExc
import HandS.ExcIs
import HandS.ExcField
import KE.KExcSuper
import KE.KSuper
import HandS.TryMany
import HandS.ExcInit
import HandS.CallSlots
import HandS.WrittenGet
import KE.RegKIsAll
import KE.IntBitsLaws
import PySem.Challenge.RW_bothgain_k64_all_outcomes_of_a_move
set_option Elab.async false
set_option linter.all false
set_option maxRecDepth 100000
set_option maxHeartbeats 4000000
set_option pp.maxSteps 400

namespace My
open PySem L2 C8 SX
/-! own base: tests, heaps -/
theorem bo_len : bootBuiltins "len" = some (.builtin "len") := by decide +kernel
theorem bo_isinstance : bootBuiltins "isinstance" = some (.builtin "isinstance") := by decide +kernel
theorem bo_min : bootBuiltins "min" = some (.builtin "min") := by decide +kernel
theorem bo_max : bootBuiltins "max" = some (.builtin "max") := by decide +kernel
theorem bo_abs : bootBuiltins "abs" = some (.builtin "abs") := by decide +kernel
theorem bo_int : bootBuiltins "int" = some (.type "int") := by decide +kernel
theorem bo_str : bootBuiltins "str" = some (.type "str") := by decide +kernel
theorem bo_bool : bootBuiltins "bool" = some (.type "bool") := by decide +kernel
theorem bo_list : bootBuiltins "list" = some (.type "list") := by decide +kernel
theorem bo_ord : bootBuiltins "ord" = some (.builtin "ord") := by decide +kernel
theorem bo_chr : bootBuiltins "chr" = some (.builtin "chr") := by decide +kernel
theorem bo_sum : bootBuiltins "sum" = some (.builtin "sum") := by decide +kernel
theorem bo_all : bootBuiltins "all" = some (.builtin "all") := by decide +kernel
theorem bo_any : bootBuiltins "any" = some (.builtin "any") := by decide +kernel
theorem bo_sorted : bootBuiltins "sorted" = some (.builtin "sorted") := by decide +kernel
theorem bo_dict : bootBuiltins "dict" = some (.type "dict") := by decide +kernel
theorem bo_tuple : bootBuiltins "tuple" = some (.type "tuple") := by decide +kernel
theorem iteD {p A B : Prop} [Decidable p] (h1 : p → A) (h2 : ¬ p → B) : if decide p = true then A else B := by
  by_cases h : p
  · rw [decide_eq_true h]; exact iteT (h1 h)
  · rw [decide_eq_false h]; exact iteF (h2 h)
theorem iteN {p A B : Prop} [Decidable p] (h1 : ¬ p → A) (h2 : p → B) : if (!decide p) = true then A else B := by
  by_cases h : p
  · rw [decide_eq_true h]; exact iteF (h2 h)
  · rw [decide_eq_false h]; exact iteT (h1 h)
theorem iteDT {p A B : Prop} [Decidable p] (h : p) (k : A) : if decide p = true then A else B := iteD (fun _ => k) fun z => absurd h z
theorem iteDF {p A B : Prop} [Decidable p] (h : ¬ p) (k : B) : if decide p = true then A else B := iteD (fun z => absurd z h) fun _ => k
theorem iteNT {p A B : Prop} [Decidable p] (h : ¬ p) (k : A) : if (!decide p) = true then A else B := iteN (fun _ => k) fun z => absurd z h
theorem iteNF {p A B : Prop} [Decidable p] (h : p) (k : B) : if (!decide p) = true then A else B := iteN (fun z => absurd h z) fun _ => k
theorem iteB {b : Bool} {A B : Prop} (h1 : b = true → A) (h2 : b = false → B) : if b = true then A else B := by
  cases b with
  | true => exact iteT (h1 rfl)
  | false => exact iteF (h2 rfl)
/-- in a comprehension without a test -/
theorem yes_then {σ : St} {H : Hp} {F G : Hp → Prop} (h : F H) : tYes σ H (fun b H3 => if b = true then F H3 else G H3) := h
/-- all that was tracked stands, but at W -/
def Keep (W : List Addr) (H H' : Hp) : Prop := ∀ b o, H b = some o → b ∉ W → H' b = some o
theorem Keep.refl (W : List Addr) (H : Hp) : Keep W H H := fun _ _ h _ => h
theorem Keep.trans {W : List Addr} {H H1 H2 : Hp} (a : Keep W H H1) (b : Keep W H1 H2) : Keep W H H2 := fun c o h w => b c o (a c o h w) w
theorem Keep.mono {W W' : List Addr} {H H1 : Hp} (a : Keep W H H1) (h : ∀ b, b ∈ W → b ∈ W') : Keep W' H H1 := fun c o q w => a c o q fun z => w (h c z)
theorem Keep.new {W : List Addr} {H : Hp} {p : Addr} {o : HO} (h : H p = none) : Keep W H (upd H p o) := fun b u q _ => by
  rw [upd_ne (ne_of_none q h)]; exact q
theorem Keep.at_ {W : List Addr} {H : Hp} {p : Addr} {o : HO} (h : p ∈ W) : Keep W H (upd H p o) := fun b u q w => by
  rw [upd_ne (fun z => w (by rw [z]; exact h))]; exact q
theorem Keep.then_new {W : List Addr} {H H1 : Hp} {p : Addr} {o : HO} (a : Keep W H H1) (h : H1 p = none) : Keep W H (upd H1 p o) := a.trans (Keep.new h)
theorem Keep.then_at {W : List Addr} {H H1 : Hp} {p : Addr} {o : HO} (a : Keep W H H1) (h : p ∈ W) : Keep W H (upd H1 p o) := a.trans (Keep.at_ h)
/-- what was new since H is not among the kept -/
theorem Keep.then_own {W : List Addr} {H H1 : Hp} {p : Addr} {o : HO} (a : Keep W H H1) (h : H p = none) : Keep W H (upd H1 p o) := fun b u q w => by
  rw [upd_ne (ne_of_none q h)]; exact a b u q w
theorem Keep.free {H H' : Hp} (e : Keep [] H H') {l : Addr} (h : H' l = none) : H l = none := by
  cases q : H l with
  | none => rfl
  | some o => rw [e l o q (by simp)] at h; cases h
theorem Keep.free1 {H H' : Hp} {p : Addr} {o : HO} (e : Keep [p] H H') (hp : H' p = some o) {l : Addr} (h : H' l = none) : H l = none := by
  cases q : H l with
  | none => rfl
  | some u =>
    by_cases z : l = p
    · subst z; rw [hp] at h; cases h
    · rw [e l u q (by simpa using z)] at h; cases h
theorem Keep.seqL {W : List Addr} {K : PySem.W.Frag} {H H' : Hp} {a : Addr} {xs : List V} (e : Keep W H H') (h : SqL K H a xs) (w : a ∉ W) : SqL K H' a xs := by
  rcases h with (h | ⟨o, h⟩) | h
  · exact .inl (.inl (e _ _ h w))
  · exact .inl (.inr ⟨o, e _ _ h w⟩)
  · exact .inr h
theorem Keep.seqT {W : List Addr} {K : PySem.W.Frag} {H H' : Hp} {a : Addr} {xs : List V} (e : Keep W H H') (h : SqT K H a xs) (w : a ∉ W) : SqT K H' a xs := by
  rcases h with (h | ⟨o, h⟩) | h
  · exact .inl (.inl (e _ _ h w))
  · exact .inl (.inr ⟨o, e _ _ h w⟩)
  · exact .inr h
theorem Keep.same {H H' : Hp} (e : Keep [] H H') : Same H H' := fun b o h => e b o h (by simp)
theorem ints_get {ns : List Int} {i : Nat} {v : V} (h : (ns.map V.int)[i]? = some v) : ∃ z, ns[i]? = some z ∧ v = V.int z := by
  rw [List.getElem?_map] at h
  cases e : ns[i]? with
  | none => rw [e] at h; cases h
  | some z => rw [e] at h; exact ⟨z, rfl, (Option.some.inj h).symm⟩
theorem strs_get {ns : List Str} {i : Nat} {v : V} (h : (ns.map V.str)[i]? = some v) : ∃ z, ns[i]? = some z ∧ v = V.str z := by
  rw [List.getElem?_map] at h
  cases e : ns[i]? with
  | none => rw [e] at h; cases h
  | some z => rw [e] at h; exact ⟨z, rfl, (Option.some.inj h).symm⟩
theorem smallM {n : Nat} (h : n ≤ 1000000) : n ≤ sizeLine := Nat.le_trans h (by decide)
theorem smallL {n : Nat} (h : n ≤ 1000000) : n < sizeLine := Nat.lt_of_le_of_lt h (by decide)
/-- a promise that asks the impossible: any def at all keeps it -/
def spNo : Sp := fun _ _ _ _ => False
/-! the same rules with the written part named (within a comprehension) -/
section
variable {X : Cx} {K : PySem.W.Frag}
theorem pe_fldK {e : Expr} {f : Str} {pos : Pos} {ta : TE} (he : PE X e ta) (hb : attributeBase e f X.env (eval e X.env) = eval e X.env) (hK : X.K = K := by rfl) : PE X (.Attribute e f pos) (tFld K ta f) := hK ▸ pe_fld he hb
theorem ix_listK (hK : X.K = K := by rfl) : IxR X (rIxL K) := hK ▸ ix_list
theorem ix_tupK (hK : X.K = K := by rfl) : IxR X (rIxT K) := hK ▸ ix_tup
theorem sl_listK (hK : X.K = K := by rfl) : SlR X (rSlL K) := hK ▸ sl_list
theorem sl_tupK (hK : X.K = K := by rfl) : SlR X (rSlT K) := hK ▸ sl_tup
theorem call_len_seqK (hK : X.K = K := by rfl) : CallR X (.builtin "len") (fun xs H Q => ∃ p ys, xs = [.ref p] ∧ (SqL K H p ys ∨ SqT K H p ys) ∧ Q (.int ys.length) H) := hK ▸ call_len_seq
theorem call_list_ofK (hK : X.K = K := by rfl) : CallR X (.type "list") (fun xs H Q => ∃ p ys, xs = [.ref p] ∧ (SqL K H p ys ∨ SqT K H p ys) ∧ ∀ l, H l = none → Q (.ref l) (upd H l (.lst ys))) := hK ▸ call_list_of
theorem call_isiK2 (hK : X.K = K := by rfl) : CallR X (.builtin "isinstance") (rIsi K) := hK ▸ call_isi
end
/-- behind the making of an instance -/
theorem keep_made {H H2 : Hp} {x dx : Addr} {o : HO} (hx : H x = none) (hd : H dx = none) (k : Keep [x] (upd (upd H dx (.own x)) x o) H2) : Keep [] H H2 := fun b u e _ =>
  k b u (by rw [upd_ne (ne_of_none e hx), upd_ne (ne_of_none e hd)]; exact e) (by simpa using ne_of_none e hx)
theorem kitSelf {K : PySem.W.Frag} {C : Addr} : PySem.W.kitOne K (.ref C) (.ref C) = some true := by
  unfold PySem.W.kitOne
  simp
/-- a call without arguments -/
theorem pe_c0 {X : Cx} {x : Str} {p pos : Pos} {k j : Nat} {sp : Sp} {dvs : List V} (c : C8.Cal X.prog X.w X.K X.mg X.base k x sp dvs) (hr : Room j X.A) (hk : k ≤ j) (hg : Gl X x) (hdb : (x == ("__debug__" : Str)) = false := by decide) :
    PE X (.Call (.Name x p) [] [] pos) (tCall sp dvs C8.E0 tNil) := by
  obtain ⟨f, fd, ps, ds, F, hm, kp, b, d⟩ := c.ex
  exact pe_call0 F (hr.mono hk) hg hm kp b d C8.pass0 hdb

/-! the text by places -/
def top (i : Nat) : Stmt := PySem.Challenge.pw_bothgain_k64_all_outcomes_of_a_move.main.body.getD i (.Pass ⟨0, 0, 0, 0⟩)
abbrev s_TooLarge___init : Stmt := L2.inClass (top 5) 0
abbrev s_Ratio___init : Stmt := L2.inClass (top 11) 0
theorem sc_Ratio___init : FnScope ["self", "num", "den", "part"] ["self", "num", "den"] (fnScope s_Ratio___init) := fnScope_by (by decide +kernel)
abbrev s_Tape___init : Stmt := L2.inClass (top 13) 0
theorem sc_Tape___init : FnScope ["self", "results"] ["self", "results"] (fnScope s_Tape___init) := fnScope_by (by decide +kernel)
abbrev s_Tape_take : Stmt := L2.inClass (top 13) 1
theorem sc_Tape_take : FnScope ["self", "count", "result"] ["self", "count"] (fnScope s_Tape_take) := fnScope_by (by decide +kernel)
abbrev s_Tape_chance : Stmt := L2.inClass (top 13) 2
theorem sc_Tape_chance : FnScope ["self", "ways", "_", "count"] ["self"] (fnScope s_Tape_chance) := fnScope_by (by decide +kernel)
abbrev s_Tape_following : Stmt := L2.inClass (top 13) 3
theorem sc_Tape_following : FnScope ["self", "at", "result", "count", "row"] ["self"] (fnScope s_Tape_following) := fnScope_by (by decide +kernel)
abbrev s_Brain___init : Stmt := L2.inClass (top 22) 0
theorem sc_Brain___init : FnScope ["self", "units", "cells", "block", "answer"] ["self", "units", "cells", "block", "answer"] (fnScope s_Brain___init) := fnScope_by (by decide +kernel)
abbrev s_Thinker___init : Stmt := L2.inClass (top 18) 0
theorem sc_Thinker___init : FnScope ["self", "brain", "cells", "seen", "tape", "row", "value"] ["self", "brain", "cells", "seen", "tape"] (fnScope s_Thinker___init) := fnScope_by (by decide +kernel)
abbrev s_Thinker_value : Stmt := L2.inClass (top 18) 1
theorem sc_Thinker_value : FnScope ["self", "expression"] ["self", "expression"] (fnScope s_Thinker_value) := fnScope_by (by decide +kernel)
abbrev s_Thinker_unit : Stmt := L2.inClass (top 18) 2
theorem sc_Thinker_unit : FnScope ["self"] ["self"] (fnScope s_Thinker_unit) := fnScope_by (by decide +kernel)
abbrev s_Thinker_run : Stmt := L2.inClass (top 18) 3
theorem sc_Thinker_run : FnScope ["self", "block", "statement"] ["self", "block"] (fnScope s_Thinker_run) := fnScope_by (by decide +kernel)
abbrev s_Thinker_step : Stmt := L2.inClass (top 18) 4
theorem sc_Thinker_step : FnScope ["self", "statement", "kind", "value"] ["self", "statement"] (fnScope s_Thinker_step) := fnScope_by (by decide +kernel)
abbrev s_Thinker_loop : Stmt := L2.inClass (top 18) 5
theorem sc_Thinker_loop : FnScope ["self", "test", "block"] ["self", "test", "block"] (fnScope s_Thinker_loop) := fnScope_by (by decide +kernel)
abbrev s_view_numbers : Stmt := top 17
theorem sc_view_numbers : FnScope ["view", "numbers", "event"] ["view"] (fnScope s_view_numbers) := fnScope_by (by decide +kernel)
abbrev s_think : Stmt := top 19
theorem sc_think : FnScope ["brain", "cells", "view", "count", "tape", "thinker", "answer", "row"] ["brain", "cells", "view", "count", "tape"] (fnScope s_think) := fnScope_by (by decide +kernel)
abbrev s_combine : Stmt := top 8
theorem sc_combine : FnScope ["sign", "left", "right"] ["sign", "left", "right"] (fnScope s_combine) := fnScope_by (by decide +kernel)
abbrev s_value_of : Stmt := top 9
theorem sc_value_of : FnScope ["expression", "table", "on", "seen", "kind", "at", "chosen", "left", "right"] ["expression", "table", "on", "seen"] (fnScope s_value_of) := fnScope_by (by decide +kernel)
abbrev s_outcomes : Stmt := top 20
theorem sc_outcomes : FnScope ["brain", "cells", "view", "count", "found", "results", "tape", "move", "after"] ["brain", "cells", "view", "count"] (fnScope s_outcomes) := fnScope_by (by decide +kernel)
abbrev s_law_pool : Stmt := top 24
theorem sc_law_pool : FnScope ["script", "budget"] ["script", "budget"] (fnScope s_law_pool) := fnScope_by (by decide +kernel)
abbrev s_law_draw : Stmt := top 25
theorem sc_law_draw : FnScope ["pool", "size", "cell", "value"] ["pool", "size"] (fnScope s_law_draw) := fnScope_by (by decide +kernel)
abbrev s_law_spend : Stmt := top 26
theorem sc_law_spend : FnScope ["pool"] ["pool"] (fnScope s_law_spend) := fnScope_by (by decide +kernel)
abbrev s_law_few : Stmt := top 27
theorem sc_law_few : FnScope ["pool", "most", "few"] ["pool", "most"] (fnScope s_law_few) := fnScope_by (by decide +kernel)
abbrev s_law_number : Stmt := top 28
theorem sc_law_number : FnScope ["pool"] ["pool"] (fnScope s_law_number) := fnScope_by (by decide +kernel)
abbrev s_law_same : Stmt := top 29
theorem sc_law_same : FnScope ["actual", "due", "k"] ["actual", "due"] (fnScope s_law_same) := fnScope_by (by decide +kernel)
abbrev s_law_keys : Stmt := top 30
theorem sc_law_keys : FnScope ["text"] [] (fnScope s_law_keys) := fnScope_by (by decide +kernel)
abbrev s_law_name : Stmt := top 31
theorem sc_law_name : FnScope ["pool", "taken", "signs", "name", "k"] ["pool", "taken"] (fnScope s_law_name) := fnScope_by (by decide +kernel)
abbrev s_law_names : Stmt := top 32
theorem sc_law_names : FnScope ["pool", "most", "names", "k"] ["pool", "most"] (fnScope s_law_names) := fnScope_by (by decide +kernel)
abbrev s_law_expression : Stmt := top 33
theorem sc_law_expression : FnScope ["pool", "names", "deep", "kind", "sign", "left"] ["pool", "names", "deep"] (fnScope s_law_expression) := fnScope_by (by decide +kernel)
abbrev s_law_combine : Stmt := top 37
theorem sc_law_combine : FnScope ["sign", "a", "b", "whole"] ["sign", "a", "b"] (fnScope s_law_combine) := fnScope_by (by decide +kernel)
abbrev s_law_value : Stmt := top 38
theorem sc_law_value : FnScope ["due", "table", "on", "seen", "at", "left"] ["due", "table", "on", "seen"] (fnScope s_law_value) := fnScope_by (by decide +kernel)
abbrev s_law_thoughts : Stmt := top 34
theorem sc_law_thoughts : FnScope ["pool", "names", "deep", "loops", "block", "k"] ["pool", "names", "deep", "loops"] (fnScope s_law_thoughts) := fnScope_by (by decide +kernel)
abbrev s_law_thought : Stmt := top 35
theorem sc_law_thought : FnScope ["pool", "names", "deep", "loops", "kind", "test", "then", "name"] ["pool", "names", "deep", "loops"] (fnScope s_law_thought) := fnScope_by (by decide +kernel)
abbrev s_law_brain : Stmt := top 36
theorem sc_law_brain : FnScope ["pool", "units", "loops", "names", "cells", "block", "name"] ["pool", "units", "loops"] (fnScope s_law_brain) := fnScope_by (by decide +kernel)
abbrev s_law_seen : Stmt := top 39
theorem sc_law_seen : FnScope ["view", "seen", "event", "rest"] ["view"] (fnScope s_law_seen) := fnScope_by (by decide +kernel)
abbrev s_law_fall : Stmt := top 40
theorem sc_law_fall : FnScope ["results", "taken", "count", "result"] ["results", "taken", "count"] (fnScope s_law_fall) := fnScope_by (by decide +kernel)
abbrev s_law_unit : Stmt := top 41
theorem sc_law_unit : FnScope ["run"] ["run"] (fnScope s_law_unit) := fnScope_by (by decide +kernel)
abbrev s_law_run : Stmt := top 42
theorem sc_law_run : FnScope ["run", "block", "due", "k", "chosen", "value", "table"] ["run", "block"] (fnScope s_law_run) := fnScope_by (by decide +kernel)
abbrev s_law_think : Stmt := top 43
theorem sc_law_think : FnScope ["brain", "cells", "view", "count", "results", "taken", "table", "k", "run", "answer", "row"] ["brain", "cells", "view", "count", "results", "taken"] (fnScope s_law_think) := fnScope_by (by decide +kernel)
abbrev s_law_view : Stmt := top 44
theorem sc_law_view : FnScope ["pool", "view", "k", "kind", "many"] ["pool"] (fnScope s_law_view) := fnScope_by (by decide +kernel)
abbrev s_law_count : Stmt := top 45
theorem sc_law_count : FnScope ["pool", "view", "count"] ["pool", "view"] (fnScope s_law_count) := fnScope_by (by decide +kernel)
abbrev s_law_lowest : Stmt := top 46
theorem sc_law_lowest : FnScope ["num", "den", "a", "b", "k", "c"] ["num", "den"] (fnScope s_law_lowest) := fnScope_by (by decide +kernel)
abbrev s_law_is_ratio : Stmt := top 47
theorem sc_law_is_ratio : FnScope ["actual", "num", "den", "due"] ["actual", "num", "den"] (fnScope s_law_is_ratio) := fnScope_by (by decide +kernel)
abbrev s_law_small_lots : Stmt := top 48
theorem sc_law_small_lots : FnScope ["pool", "block", "small", "due", "then"] ["pool", "block"] (fnScope s_law_small_lots) := fnScope_by (by decide +kernel)
abbrev s_law_outcomes : Stmt := top 49
theorem sc_law_outcomes : FnScope ["brain", "cells", "view", "count", "rows", "results", "k", "taken", "told", "ways", "row", "last", "at"] ["brain", "cells", "view", "count"] (fnScope s_law_outcomes) := fnScope_by (by decide +kernel)
abbrev s_law_told : Stmt := top 50
theorem sc_law_told : FnScope ["brain", "cells", "view", "count", "e"] ["brain", "cells", "view", "count"] (fnScope s_law_told) := fnScope_by (by decide +kernel)
abbrev s_law_right : Stmt := top 51
theorem sc_law_right : FnScope ["made", "brain", "cells", "view", "count", "due", "told", "actual", "k", "whole", "row"] ["made", "brain", "cells", "view", "count"] (fnScope s_law_right) := fnScope_by (by decide +kernel)
abbrev s_law : Stmt := top 52
theorem sc_law : FnScope ["script", "pool", "brain", "cells", "view", "made", "first", "plain", "seen", "count", "row"] ["script"] (fnScope s_law) := fnScope_by (by decide +kernel)
end My
/-! an own exception class over ValueError (by way of GameError) whose __init__ says super().__init__('..') and keeps its one argument -/
namespace SupX_TooLarge
open My PySem L2 C8 PySem.W PySem.Calls PyProof.Rows PySem.HandSPX
/-- what the written part says of the class at C, and of its __init__ at fI -/
structure Txt (P : Program) (K : Frag) (mg : Str → Option Value) (nm : Str) (C fI : Addr) : Prop where
  gC : mg nm = some (.ref C)
  cls : ∃ nm q N bs bm sn sub ab col dd k0 k1 k2 k3 k5, K.lookup C = some (excClassObj nm q C N bs bm true sn sub ab col dd k0 k1 k2 k3 k5 "ValueError.__new__") ∧ refsVE bm = true
  along : ks_superIn K C C "__init__" = some (some (.builtin "ValueError.__init__"))
  veC : subIn K (.ref C) (.type "ValueError") = some true
  sa : findIn K (.ref C) "__setattr__" = some (some (.builtin "object.__setattr__"))
  ga : findIn K (.ref C) "__getattribute__" = some (some (.builtin "BaseException.__getattribute__"))
  gg : findIn K (.ref C) "__getattr__" = some none
  noN : findIn K (.ref C) "what" = some none
  iC : findIn K (.ref C) "__init__" = some (some (.ref fI))
  tC : typeIn K (.ref fI) = some (.type "function")
  kC : keepIn K (.ref C) = true
  exC : subIn K (.ref C) (.type "BaseException") = some true
  tyC : typeIn K (.ref C) = some (.type "type")
  hdC : hasDictIn K C = true
  opq : nsIn K cStatics "thirdparty.any" = some none
  noS : mg "super" = none
  mroC : mroIn K C (.ref C) = some true
  top : (P.main.scope.names.lookup ("super" : Str)).isSome = false
  fn : ∃ (oc : Value) (od : Option Addr) (doc pm : Value) (an : Option Addr) (cda : Addr) (ct : Value) (osl : Array (Option Value)) (cc : Addr) (cl : Value) (cld : Option Addr) (csl : Array (Option Value)) (ccl : Value) (cdd : Option Addr) (vs : Array Value) (ccs : Array (Option Value)) (file : Str) (tf : Tok),
    K.lookup fI = some ⟨oc, od, .func (fnX "__init__" "TooLarge.__init__" (fnArgs s_TooLarge___init) (fnBody s_TooLarge___init) (fnScope s_TooLarge___init) [("__class__", cc)] .none .none doc pm an (.ref cda) ct), osl⟩ ∧ codeIn K (.ref cda) "TooLarge.__init__" = true ∧
    K.lookup cc = some ⟨cl, cld, .cell (some (.ref C)), csl⟩ ∧ K.lookup cda = some ⟨ccl, cdd, .fields vs, ccs⟩ ∧ vs[2]? = some (.str file tf) ∧ ((P.main.file : Str) == file) = true
/-- what __init__ leaves of a fresh exception at x -/
structure Left (h h' : Heap) (x C dx t1 : Addr) (v : Value) : Prop where
  keep : ∀ b o, b ≠ x → h.get? b = some o → h'.get? b = some o
  obj : h'.get? x = some { cls := .ref C, dict := some dx, data := .fields #[.ref t1, .none, .none, .none, .bool false, .none] }
  dbig : h.objs.size ≤ dx
  dne : dx ≠ x
  ns : h'.Ns1 dx (fun y => if y = "what" then some v else none)
section
variable {prog : Program} {w : World} {A : Around} {E : Value → Shared → Prop} {R : Result → Shared → Prop} {s : Shared} {K : Frag} {mg mb : Str → Option Value} {C fI : Addr} {nm : Str}
/-- such an __init__, run on a fresh exception -/
theorem init (T : Txt prog K mg nm C fI) {x t0 : Addr} {v : Value} (X : K.In s.heap) (hlim : s.heap.NoLimit) (hmg : s.heap.Ns mainGlobals mg) (hmb : s.heap.Ns builtinsNs mb) (hsu : mb "super" = some (.type "super"))
    (hx : s.heap.get? x = some (excO C t0)) (hnx : K.lookup x = none) (hroom : A.depth < recursionLimit)
    (hq : ∀ h' tk dx t1, Left s.heap h' x C dx t1 v → R (.ok (.ret .none)) { s with heap := h', toks := tk }) :
    codeAny (model prog w) A (.call (.ref fI) ⟨[.ref x, v], []⟩) R s := by
  obtain ⟨oc, od, doc, pm, an, cda, ct, osl, cc, cl, cld, csl, ccl, cdd, vs, ccs, file, tf, ho, hcd, hcc, hcda, hvs, hfile⟩ := T.fn
  obtain ⟨nmC, q, N, bs, bm, sn, sub, ab, col, dd, k0, k1, k2, k3, k5, hC, hbm⟩ := T.cls
  have hcl : clsIn K C = some { name := nmC, bases := bs, mro := .ref C :: bm, ns := N, qualname := q, hasDict := true, slotNames := sn, subclasses := sub, abstract := ab, collection := col, hasDel := false } := by unfold clsIn; rw [hC] <;> rfl
  have hal := T.along
  unfold ks_superIn at hal
  rw [hcl] at hal
  have hxC : x ≠ C := fun z => by rw [z, hC] at hnx; cases hnx
  refine ks_codeAny_call_defAt (fd := fnX "__init__" "TooLarge.__init__" (fnArgs s_TooLarge___init) (fnBody s_TooLarge___init) (fnScope s_TooLarge___init) [("__class__", cc)] .none .none doc pm an (.ref cda) ct) (binds := [("self", .ref x), ("what", v)]) hroom (X _ _ ho) rfl hlim
    (codeRec_of X hcd) rfl ?hb ?hcell ?hloc (fun h₁ hns k => ?_) rfl rfl rfl
  case hb => exact BindsTo.of_eq (by first | rfl | with_unfolding_all rfl)
  case hcell =>
    show ∀ x ∈ (fnScope s_TooLarge___init).names, x.2 ≠ .cell
    decide +kernel
  case hloc =>
    intro y hy
    rcases List.mem_cons.mp hy with rfl | hy
    · first | rfl | kernel_rfl
    · rw [List.mem_singleton.mp hy]
      first | rfl | kernel_rfl
  have X1 : K.In h₁ := X.keeps k
  have hx1 := k _ _ hx
  have hxL : s.heap.objs.size ≠ x := Nat.ne_of_gt (Heap.lt_size hx)
  show PySem.wpAt _ (A.deeper (ksEnv "TooLarge.__init__" (fnScope s_TooLarge___init) s.heap.objs.size fI (.ref cda) cc)) (.func (fnBody s_TooLarge___init) (ksEnv "TooLarge.__init__" (fnScope s_TooLarge___init) s.heap.objs.size fI (.ref cda) cc)) (execs (fnBody s_TooLarge___init) (ksEnv "TooLarge.__init__" (fnScope s_TooLarge___init) s.heap.objs.size fI (.ref cda) cc)) _ _ _
  refine ks_wpAt_execs_cons (ks_wpAt_Expr_any (ks_wpAt_MethodCall ?_))
  obtain ⟨arS, har, hars⟩ : ∃ ar, ((fnArgs s_TooLarge___init).posonlyargs ++ (fnArgs s_TooLarge___init).args).head? = some ar ∧ ar.arg = "self" := ⟨_, rfl, rfl⟩
  refine ks_wpAt_super_base (f := fI) (cc := cda) (file := file) (tf := tf) (vs := vs) (ar := arS) rfl rfl (by decide) rfl (X1 _ _ ho) rfl har rfl (X1 _ _ hcda) rfl hvs hfile T.top ?_
  refine ks_loadName_global rfl rfl (loadGlobal_builtin (hmg.keeps k) T.noS (hmb.keeps k) hsu ⟨rfl, ?_⟩)
  refine wpAny_loadName_free rfl rfl (c := cc) rfl ⟨_, X1 _ _ hcc, rfl⟩ ?_
  rw [hars]
  refine wpAny_loadName_local rfl rfl hns (v := .ref x) ?_ ?_
  · first | rfl | with_unfolding_all rfl | kernel_rfl
  refine ks_wpAny_isType_cls (X1 _ _ hC) rfl ⟨rfl, ?_⟩
  refine ks_wpAny_call_super (X1 _ _ hC) rfl hx1 rfl (fun c e => by cases e) (looks_mroIn X1 T.mroC) (fun h2 e2 g2 => ?_)
  have X2 : K.In h2 := X1.keeps g2
  have hx2 := g2 _ _ hx1
  have hI : InstAt h2 x (excO C t0) C none := ⟨hx2, rfl, rfl, trivial⟩
  refine kxs_getMethod kxs_ValueError e2 (looks_opaque X2 T.opq) (l₀ := .ref C :: bm) ((looks_clsIn X2 hcl).andThen .now) rfl X2 hal (hI.type.andThen (looks_subIn X2 T.veC)) hxC (by decide) ?_
  have up3 : ∀ b o, h2.get? b = some o → (h2.push (kxs_mw "ValueError.__init__" x)).get? b = some o := fun b o e => Heap.get?_push_of_some _ e
  have hw3 : (h2.push (kxs_mw "ValueError.__init__" x)).get? h2.objs.size = some (kxs_mw "ValueError.__init__" x) := Heap.get?_push_at rfl rfl
  generalize h2.push (kxs_mw "ValueError.__init__" x) = h3 at *
  refine kxs_callWith1 (u := h2.objs.size) (i := "ValueError.__init__") (x := x) (h₀ := h2) (L := x) (news := [(h2.objs.size, kxs_mw "ValueError.__init__" x)]) (fun p hp => ?_) (by simp) ?_
  · rw [List.mem_singleton] at hp
    subst hp
    exact ⟨hw3, fun z => absurd (Heap.lt_size hx2) (by rw [← show h2.objs.size = x from z]; exact Nat.lt_irrefl _), by
      cases e : h2.get? h2.objs.size with
      | none => rfl
      | some o => exact absurd (Heap.lt_size e) (Nat.lt_irrefl _)⟩
  refine PyProof.Rows.spliced_more (wpAny_Constant_str (PyProof.Rows.spliced_none ⟨hw3, ?_⟩))
  refine wpAny_call (codeAny_of_tree ?_)
  show wpAny _ _ (callAny (.ref h2.objs.size) ⟨[_], []⟩) _ _ _
  have hmwT : (Value.type "method-wrapper" == Value.type "method" || Value.type "method-wrapper" == Value.type "builtin_function_or_method" || Value.type "method-wrapper" == Value.type "method-wrapper") = true := by decide
  simp only [callAny]
  refine wpAny_bind (wpAny_load hw3 ?_)
  simp only [kxs_mw, hmwT, if_true]
  have X3 : K.In h3 := X2.keeps up3
  have hx3 := up3 _ _ hx2
  refine KFB.if_so (by decide) (wpAny_bind (check_bound_init F.excBase_ValueError.toExcCallFacts (X3 _ _ hC) hx3 rfl (wpAny_bind (wpAny_pure (wpAny_pure ⟨plainId_quiet F.excBase_ValueError.init.plain _, codeAny_builtin F.excBase_ValueError.initEntry ?_⟩)))))
  refine exc_init_tree (cls := .ref C) (t0 := t0) (dv := none) (c2 := .none) (c3 := .none) (b4 := .bool false) hx3 (by show 1 ≤ sizeLine; decide) (fun h4 k4 hx4 _ => ?_)
  have X4 : K.In h4 := fun a o e => k4 a o (fun z => by rw [z, hnx] at e; cases e) (X3 a o e)
  have old : ∀ b o, b ≠ x → h₁.get? b = some o → h4.get? b = some o := fun b o hb e => k4 b o hb (up3 b o (g2 b o e))
  have hns4 := hns.at (h' := h4) fun o e => old _ o hxL e
  refine wpAt_of_wpAny (wpAny_execs_cons (plainObj_wpAny_Assign_Attribute (wpAny_Name (wpAny_loadName_local rfl rfl hns4 (v := v) ?_ (wpAny_Name (wpAny_loadName_local rfl rfl hns4 (v := .ref x) ?_ ?_))))))
  · first | rfl | with_unfolding_all rfl | kernel_rfl
  · first | rfl | with_unfolding_all rfl | kernel_rfl
  refine set_plain X4 (ox := excO C h3.objs.size) (od := none) ⟨hx4, rfl, rfl, trivial⟩ T.sa ?_
  refine exc_osa X4 hx4 hcl (show refsVE (.ref C :: bm) = true from hbm) rfl T.noN (fun h5 tk5 dx k5 dn dne hx5 hn5 => wpAny_execs_nil (hq h5 tk5 dx _ ⟨fun b o hb e => k5 b o hb (old b o hb (k b o e)), hx5, ?_, dne, hn5⟩))
  exact Nat.le_of_lt (Nat.lt_of_lt_of_le hns4.lt dn)
/-- a made one -/
structure Made (h h' : Heap) (e C d : Addr) (v : Value) : Prop where
  keep : ∀ b o, h.get? b = some o → h'.get? b = some o
  new : h.objs.size ≤ e
  obj : ∃ oe vs, h'.get? e = some oe ∧ oe.cls = .ref C ∧ oe.dict = some d ∧ oe.data = .fields vs ∧ vs[1]? = some .none
  dbig : h.objs.size ≤ d
  dne : d ≠ e
  ns : h'.Ns1 d (fun y => if y = "what" then some v else none)
theorem made (T : Txt prog K mg nm C fI) {v : Value} (X : K.In s.heap) (hlim : s.heap.NoLimit) (hmg : s.heap.Ns mainGlobals mg) (hmb : s.heap.Ns builtinsNs mb) (hsu : mb "super" = some (.type "super")) (hroom : A.depth + 1 < recursionLimit)
    (hq : ∀ h' tk e d, Made s.heap h' e C d v → R (.ok (.ret (.ref e))) { s with heap := h', toks := tk }) : codeAny (model prog w) A (.call (.ref C) ⟨[v], []⟩) R s := by
  obtain ⟨nmC, q, N, bs, bm, sn, sub, ab, col, dd, k0, k1, k2, k3, k5, hC, hbm⟩ := T.cls
  obtain ⟨hp, g, dr, tk, os⟩ := s
  have up : ∀ b o, hp.get? b = some o → ((hp.push (kdv_tup [v])).push (excO C hp.objs.size)).get? b = some o := fun b o e => Heap.get?_push_of_some _ (Heap.get?_push_of_some _ e)
  have at2 : ((hp.push (kdv_tup [v])).push (excO C hp.objs.size)).get? (hp.objs.size + 1) = some (excO C hp.objs.size) := by heap_get
  have none2 : K.lookup (hp.objs.size + 1) = none := by
    cases e : K.lookup (hp.objs.size + 1) with
    | none => rfl
    | some o => exact absurd (Nat.lt_of_succ_lt (Heap.lt_size (show hp.get? (hp.objs.size + 1) = some o from X _ _ e))) (Nat.lt_irrefl _)
  refine call_own F.excBase_ValueError (fun Y => refsVE_contains Y bm hbm) (X _ _ hC) (looks_findIn X T.iC) (fun self => bind_fn X self T.tC) (by show 1 ≤ sizeLine; decide) ?_
  refine init (s := ⟨(hp.push (kdv_tup [v])).push (excO C hp.objs.size), g, dr, tk, os⟩) T (X.keeps up) (hlim.keeps up) (hmg.keeps up) (hmb.keeps up) hsu at2 none2 ?_ fun h' tk' dx t1 L => ⟨rfl, ?_⟩
  · show A.depth + 1 < recursionLimit
    exact hroom
  · have big : hp.objs.size + 1 + 1 ≤ dx := by
      have z := L.dbig
      rw [Heap.size_push, Heap.size_push] at z
      exact z
    exact hq h' tk' (hp.objs.size + 1) dx ⟨fun b o e => L.keep b o (Nat.ne_of_lt (Nat.lt_succ_of_lt (Heap.lt_size e))) (up b o e), Nat.le_succ _, ⟨_, _, L.obj, rfl, rfl, rfl, rfl⟩, Nat.le_trans (Nat.le_trans (Nat.le_succ _) (Nat.le_succ _)) big, L.dne, L.ns⟩
end
/-! the rules -/
theorem relO_fld {v : V} {u : Value} (r : RelV v u) (f : Str) : RelO (List.lookup f [(("what" : Str), v)]) (if f = "what" then some u else none) := by
  by_cases h : f = "what"
  · subst h
    have q : List.lookup ("what" : Str) [(("what" : Str), v)] = some v := by simp [List.lookup]
    rw [q, if_pos rfl]
    exact r
  · have e : (f == ("what" : Str)) = false := by simpa using h
    rw [if_neg h]
    simp [List.lookup, e]
    trivial
/-- TooLarge(e), raised -/
def tMkE (C : Addr) (ta : TA) : L2.St → Hp → XK → Prop := fun σ H Q => ta σ H fun vs H1 => ∃ v, vs = [v] ∧ ∀ d, H1 d = none → Q (.ref C) (some d) (upd H1 d (.xd [(("what" : Str), v)]))
section
variable {X : Cx} {C fI : Addr} {nm : Str}
theorem pmk {a : Expr} {ta : TA} {p pos : Pos} {k : Nat} (T : Txt X.prog X.K X.mg nm C fI) (hr : Room k X.A) (ha : PA X [a] ta) (hg : Gl X nm := by rfl) (hdb : (nm == ("__debug__" : Str)) = false := by decide)
    (he : starEach (a :: []) X.env = (false, eval a X.env) :: starEach [] X.env := by rfl) (hpl : (backTo pos (starEach [] X.env)).any (·.1) = false := by rfl) :
    PMk X (.Call (.Name nm p) [a] [] pos) (tMkE C ta) := by
  intro pins s σ H Q I h
  refine wpAny_Call_Name_kw (ld_glob I hg T.gC ?_ hdb)
  refine PySem.W.callWith_K (h₀ := X.base) I.ok.mod.kin T.kC (thn (ha.run pos pins s σ H _ I h) fun us s1 hh => ?_) he hpl
  obtain ⟨vs, H1, I1, r1, v, ev, q1⟩ := hh
  subst ev
  refine ⟨I1.kIn, ?_⟩
  cases r1 with
  | cons rv rn =>
    rename_i u us'
    cases rn
    show wpAny _ _ (call (.ref C) [u]) _ _ _
    have lim := I1.nolimit
    obtain ⟨mb, hmb1, hmb2⟩ := I1.mod.blt
    have hg1 := I1.mod.glob.keeps I1.bk
    have hb1 := hmb1.keeps I1.bk
    have hsu : mb "super" = some (.type "super") := (hmb2 _ (by decide)).trans (by decide +kernel)
    obtain ⟨hp, g, dr, tk, os⟩ := s1
    refine wpAny_call (made (mb := mb) T I1.kIn lim hg1 hb1 hsu (by have := hr.dp; omega) fun h' tk' e d M => ?_)
    show MkP X pins σ Q (.ref e) ⟨h', g, dr, tk', os⟩
    obtain ⟨oe, fv, hoe, hc, hd, hdat, h1⟩ := M.obj
    obtain ⟨G', g1, g2⟩ := restrict h' fun b => decide (b ≠ e)
    have there : ∀ b, b ≠ e → G'.get? b = h'.get? b := fun b hb => g1 b (decide_eq_true hb)
    have gone : G'.get? e = none := g2 e (by simp)
    have J : Inv X pins σ (upd H1 d (.xd [(("what" : Str), v)])) ⟨G', g, dr, tk', os⟩ := I1.laid (t' := tk') (fun b o q => (there b (Nat.ne_of_lt (Nat.lt_of_lt_of_le (Heap.lt_size q) M.new))).trans (M.keep b o q)) M.dbig
      ⟨_, M.ns.at (fun o q => (there d M.dne).trans q), fun f => relO_fld rv f⟩
    refine ⟨e, oe, fv, ⟨G', g, dr, tk', os⟩, _, .ref C, some d, rfl, J, fun b o q => ?_, gone, hoe, ⟨hc, hd⟩, hdat, h1, ?_, rfl, I1.bare, raises_own T.exC T.tyC, q1 d (I1.hok.fresh M.dbig)⟩
    · by_cases hb : b = e
      · have q' : G'.get? b = some o := q
        rw [hb, gone] at q'; cases q'
      · exact (there b hb).symm.trans q
    · rw [upd_ne (Ne.symm M.dne)]
      exact I1.hok.fresh M.new
/-- raise TooLarge(e) -/
def tRaiseE (C : Addr) (W : WX) (ta : TA) : TS := fun _ σ H => tMkE C ta σ H fun cls d H' => W cls d σ H'
theorem ps_raiseE {a : Expr} {ta : TA} {W : WX} {p pos pos2 : Pos} {k : Nat} (hc : X.calm = true) (T : Txt X.prog X.K X.mg nm C fI) (hr : Room k X.A) (tk : Takes X W) (ha : PA X [a] ta) (hg : Gl X nm := by rfl) (hdb : (nm == ("__debug__" : Str)) = false := by decide)
    (he : starEach (a :: []) X.env = (false, eval a X.env) :: starEach [] X.env := by rfl) (hpl : (backTo pos (starEach [] X.env)).any (·.1) = false := by rfl) :
    PS X (.Raise (some (.Call (.Name nm p) [a] [] pos)) none pos2) (tRaiseE C W ta) := ps_raise hc tk (pmk T hr ha hg hdb he hpl)
end
end SupX_TooLarge

namespace My
open PySem L2 C8 SX
end My
/-! isinstance(e, ..) of a caught error of an own class that has its dict -/
namespace ExIs
open PySem PySem.W PySem.Spec PySem.Calls PyProof.Rows
/-- what the class at D must say -/
structure ErrC (K : Frag) (D : Addr) : Prop where
  ga : findIn K (.ref D) "__getattribute__" = some (some (.builtin "BaseException.__getattribute__"))
  gg : findIn K (.ref D) "__getattr__" = some none
  exC : subIn K (.ref D) (.type "BaseException") = some true
  hdC : hasDictIn K D = true
  ca : findIn K (.ref D) "__class__" = some (some (.builtin "object.__class__"))
  sp : specialIn K (.builtin "object.__class__") "__get__" = some (some (.builtin "getset_descriptor.__get__"))
  tk : takesIn K (.builtin "object.__class__") = some true
  mo : mroIn K D (.type "object") = some true
theorem ErrC.clsThere {K : Frag} {D : Addr} (T : ErrC K D) : ∃ cd, clsIn K D = some cd := by
  obtain ⟨cd, hc, _⟩ := any_some T.hdC
  exact ⟨cd, hc⟩
theorem ErrC.binds {K : Frag} {D : Addr} (T : ErrC K D) (od : Option Obj) : findObj K D od "__class__" = some (.bind (.builtin "getset_descriptor.__get__") (.builtin "object.__class__")) := by
  obtain ⟨cd, hcd⟩ := T.clsThere
  have e1 := T.ca
  have e2 := T.sp
  have e3 := T.tk
  unfold findObj
  rw [hcd, Option.bind_some, e1, Option.bind_some]
  simp [e2, e3]
section
variable {prog : Program} {w : World} {A : Around} {E : Value → Shared → Prop} {s : Shared} {K : Frag} {x D : Addr} {ox : Obj} {od : Option Obj}
theorem askClass {Q : Option Value → Shared → Prop} (T : ErrC K D) (X : K.In s.heap) (I : InstAt s.heap x ox D od) (h : Q (some (.ref D)) { s with toks := s.toks + 1 }) : wpAny (model prog w) A (getAttr? (.ref x) "__class__") Q E s := by
  obtain ⟨hp, gs, dr, tok, os⟩ := s
  have ty := I.type (M := model prog w)
  have lga := looks_findIn (M := model prog w) X T.ga
  have lgg := looks_findIn (M := model prog w) X T.gg
  have lcl := looks_find (M := model prog w) X I (T.binds od)
  have isB : Looks (model prog w) hp (isInstance (.ref x) (.type "BaseException")) true := ty.andThen (looks_subIn X T.exC)
  have nq : (Value.builtin "BaseException.__getattribute__" == Value.builtin "object.__getattribute__") = false := by decide +kernel
  unfold getAttr? getAttrBy? getAttrBy
  refine wpAny_bind (wpAny_mkText (wpAny_bind (wpAny_attempt (wpAny_holding (wpAny_bind (ty.at (wpAny_bind (lga.at (?goal : _))))))))) 
  show wpAny _ _ (ite ((onTheHeap (Value.ref D) && Value.builtin "BaseException.__getattribute__" == Value.builtin "object.__getattribute__") = true) _ _) _ _ _
  rw [if_neg (by rw [nq]; simp)]
  unfold getAttrByItsOwn hookBefore
  refine wpAny_bind (?g2 : _)
  have onH : onTheHeap (Value.ref D) = true := rfl
  rw [if_pos onH]
  refine lgg.at (wpAny_bind (wpAny_attempt (wpAny_holding (?g3 : _))))
  unfold callGetattribute
  rw [if_neg (by simp)]
  unfold boundAndCalled
  rw [PySem.F.excAttr_ValueError.ga.bind (.ref x)]
  refine wpAny_bind (wpAny_pure (?g4 : _))
  show wpAny _ _ (call (.builtin "BaseException.__getattribute__") [.ref x, .str "__class__" tok]) _ _ _
  refine wpAny_call (codeAny_call_builtin PySem.F.excAttr_ValueError.ga.plain PySem.F.entry_bexc_ga (@check_slot (model prog w) _ _ ⟨hp, gs, dr, tok + 1, os⟩ "BaseException.__getattribute__" "BaseException" "__getattribute__" (.ref x) [.str "__class__" tok] [] _ (by decide +kernel) (by decide +kernel) isB
    (PySem.F.args_bexc_ga (.ref x) (.str "__class__" tok)) (?g5 : _)))
  unfold Builtin.«object.__getattribute__»
  refine wpAny_bind (wpAny_of_eq (a := ((Value.ref x : Value), [Value.str "__class__" tok])) (by first | rfl | (simp only [slotArgs]; rfl)) (wpAny_bind (wpAny_pure (wpAny_bind (ty.at (wpAny_bind (lcl.at (?g6 : _))))))))
  show wpAny _ _ (holding [Value.builtin "object.__class__"] (call (.builtin "getset_descriptor.__get__") [.builtin "object.__class__", .ref x, .ref D]) >>= ret) _ _ _
  refine wpAny_bind (wpAny_holding (wpAny_call (class_get (s := ⟨hp, gs, dr, tok + 1, os⟩) (ox := ox) (od := od) X I T.mo (wpAny_pure (?g7 : _)))))
  show wpAny _ _ (handedOut (.ref D)) _ _ _
  rw [handedOut_of (v := .ref D) rfl]
  first | exact wpAny_pure (wpAny_pure h) | exact wpAny_pure h | exact wpAny_pure (wpAny_bind (wpAny_pure (wpAny_pure h)))
theorem kit (T : ErrC K D) : KitX K (.ref x) (.ref D) (fun h => InstAt h x ox D od) where
  ty := fun _ _ _ I => I.type
  it := fun _ _ X _ => by
    obtain ⟨cd, hcd⟩ := T.clsThere
    unfold clsIn at hcd
    split at hcd
    · rename_i c' d' cd' sl' ho
      intro A' Q' E' s' k q
      unfold isType loadHead
      exact wpAny_bind (wpAny_loadPart (k _ _ (X _ _ ho)) (wpAny_pure q))
    · cases hcd
  ne := fun h tp dd its n sl X htp => Bool.eq_false_iff.mpr fun q => by
    obtain ⟨cd, hcd⟩ := T.clsThere
    have e : D = tp := Value.ref.inj (beq_iff_eq.mp q)
    subst e
    unfold clsIn at hcd
    split at hcd
    · rename_i c' d' cd' sl' ho
      cases (X _ _ ho).symm.trans htp
    · cases hcd
  ca := fun X I k => askClass T X I k
end
end ExIs
namespace L2
open PySem PySem.Spec PyProof.Rows
theorem inst_of {X : Cx} {pins : List (Addr × Obj)} {σ : L2.St} {H : Hp} {s : Shared} {a D dd : Addr} {oe : Obj} {pn : List (Addr × Obj)} {fs : List (Str × V)} (I : Inv (X.suite a ((a, oe) :: pn)) pins σ H s) (hz : Zc (.ref D) (some dd) oe) (hf : ∃ vs, oe.data = .fields vs) (he : H dd = some (.xd fs)) :
    ∃ od, PySem.W.InstAt s.heap a oe D (some od) := by
  obtain ⟨ha, _⟩ := I.pin (a, oe) (List.mem_append_left _ List.mem_cons_self)
  obtain ⟨vs, hd⟩ := hf
  have hx : ObjOk X.prog X.w H s.heap dd (.xd fs) := I.hok dd _ he
  obtain ⟨mA, hns, _⟩ := hx
  obtain ⟨od, ho, _⟩ := lookIn_ns hns
  exact ⟨od, ha, hz.1, by unfold PySem.W.notCls; rw [hd] <;> rfl, by rw [hz.2]; exact ho⟩
/-- isinstance(e, C), e the caught exception -/
def rIsX (K : PySem.W.Frag) (a : Addr) (cls : Value) (d : Option Addr) : List V → Hp → VK → Prop := fun xs H Q => ∃ (D C dd : Addr) (fs : List (Str × V)) (b : Bool), xs = [.ref a, .ref C] ∧ cls = .ref D ∧ d = some dd ∧ ExIs.ErrC K D ∧ H dd = some (.xd fs) ∧ PySem.W.kitOne K (.ref D) (.ref C) = some b ∧ Q (.bl b) H
theorem call_isX {X : Cx} {a : Addr} {cls : Value} {d : Option Addr} {oe : Obj} {pn : List (Addr × Obj)} (hz : Zc cls d oe) (hf : ∃ vs, oe.data = .fields vs) : CallR (X.suite a ((a, oe) :: pn)) (.builtin "isinstance") (rIsX X.K a cls d) := by
  intro pins s σ H xs us Q I r h
  obtain ⟨D, C, dd, fs, b, rfl, rfl, rfl, T, hx, e, q⟩ := h
  obtain ⟨u1, u2, rfl, r1, r2⟩ := vals2 r
  cases (show u1 = Value.ref a from r1)
  cases (show u2 = Value.ref C from r2)
  obtain ⟨od, J⟩ := inst_of I hz hf hx
  exact PySem.W.kia_one (ExIs.kit T) I.kIn J e (fun z => nomatch z) fun tk => ⟨.bl b, H, I.tok tk, rfl, q⟩
theorem crefs_of {cs : List Addr} {its : List Value} (h : Vals (cs.map V.ref) its) : its = cs.map Value.ref := by
  induction cs generalizing its with
  | nil => cases h; rfl
  | cons c cs ih =>
    cases h with
    | cons h1 h2 => rw [ih h2]; cases (show _ = Value.ref c from h1); rfl
/-- isinstance(e, (C1, ..)) -/
def rIsXT (K : PySem.W.Frag) (a : Addr) (cls : Value) (d : Option Addr) : List V → Hp → VK → Prop := fun xs H Q => ∃ (D tp dd : Addr) (cs : List Addr) (fs : List (Str × V)) (b : Bool), xs = [.ref a, .ref tp] ∧ cls = .ref D ∧ d = some dd ∧ ExIs.ErrC K D ∧ H dd = some (.xd fs) ∧ H tp = some (.tup (cs.map V.ref)) ∧
  PySem.W.kitAny K (.ref D) (cs.map Value.ref) = some b ∧ Q (.bl b) H
theorem call_isXT {X : Cx} {a : Addr} {cls : Value} {d : Option Addr} {oe : Obj} {pn : List (Addr × Obj)} (hz : Zc cls d oe) (hf : ∃ vs, oe.data = .fields vs) : CallR (X.suite a ((a, oe) :: pn)) (.builtin "isinstance") (rIsXT X.K a cls d) := by
  intro pins s σ H xs us Q I r h
  obtain ⟨D, tp, dd, cs, fs, b, rfl, rfl, rfl, T, hx, hT, e, q⟩ := h
  obtain ⟨u1, u2, rfl, r1, r2⟩ := vals2 r
  cases (show u1 = Value.ref a from r1)
  cases (show u2 = Value.ref tp from r2)
  obtain ⟨od, J⟩ := inst_of I hz hf hx
  obtain ⟨_, its, rv, o, h1, h2, n, h3⟩ := (show ObjOk X.prog X.w H s.heap tp (.tup (cs.map V.ref)) from I.hok tp _ hT)
  have e3 := crefs_of rv
  subst e3
  obtain ⟨oc, od2, dt, sl⟩ := o
  simp only at h2 h3
  subst h2 h3
  exact PySem.W.kia_tup (ExIs.kit T) I.kIn J h1 e (fun z => nomatch z) fun tk => ⟨.bl b, H, I.tok tk, rfl, q⟩
end L2
namespace My
open PySem L2 C8 SX

/-- what the walk asks of the module -/
structure Txt (K : PySem.W.Frag) (mg : Str → Option Value) (C_Ratio : Addr) (C_Tape : Addr) (C_Thinker : Addr) (C_Brain : Addr) (C_GameError : Addr) (C_TooLarge : Addr) (T_EVENTS : Addr) : Prop where
  n_abs : mg "abs" = none
  n_bool : mg "bool" = none
  n_int : mg "int" = none
  n_isinstance : mg "isinstance" = none
  n_len : mg "len" = none
  n_list : mg "list" = none
  n_max : mg "max" = none
  n_min : mg "min" = none
  n_range : mg "range" = none
  n_str : mg "str" = none
  n_tuple : mg "tuple" = none
  n_zip : mg "zip" = none
  f_gcd : mg "gcd" = some (.builtin "math.gcd")
  cl_Ratio : Cls K C_Ratio
  m_Ratio : mg "Ratio" = some (.ref C_Ratio)
  i_Ratio : InsC K C_Ratio
  a_Ratio_num : NoAttr K C_Ratio "num"
  a_Ratio_den : NoAttr K C_Ratio "den"
  cl_Tape : Cls K C_Tape
  m_Tape : mg "Tape" = some (.ref C_Tape)
  i_Tape : InsC K C_Tape
  a_Tape_results : NoAttr K C_Tape "results"
  a_Tape_taken : NoAttr K C_Tape "taken"
  cl_Thinker : Cls K C_Thinker
  m_Thinker : mg "Thinker" = some (.ref C_Thinker)
  i_Thinker : InsC K C_Thinker
  a_Thinker_table : NoAttr K C_Thinker "table"
  a_Thinker_left : NoAttr K C_Thinker "left"
  a_Thinker_seen : NoAttr K C_Thinker "seen"
  a_Thinker_tape : NoAttr K C_Thinker "tape"
  cl_Brain : Cls K C_Brain
  m_Brain : mg "Brain" = some (.ref C_Brain)
  i_Brain : InsC K C_Brain
  a_Brain_units : NoAttr K C_Brain "units"
  a_Brain_cells : NoAttr K C_Brain "cells"
  a_Brain_block : NoAttr K C_Brain "block"
  a_Brain_answer : NoAttr K C_Brain "answer"
  v_MOST_OUTCOMES : ∃ u, mg "MOST_OUTCOMES" = some u ∧ RelV (.int 200) u
  v_GREATEST : ∃ u, mg "GREATEST" = some u ∧ RelV (.int 65535) u
  v_EVENTS : ∃ u, mg "EVENTS" = some u ∧ RelV (.ref T_EVENTS) u
  q_EVENTS : ∀ H : Hp, SqT K H T_EVENTS ((["round", "told", "move", "did"] : List Str).map V.str)
  d_EVENTS : ∃ o, K.lookup T_EVENTS = some o ∧ o.cls = .type "tuple" ∧ o.dict = none
  m_GameError : mg "GameError" = some (.ref C_GameError)
  m_TooLarge : mg "TooLarge" = some (.ref C_TooLarge)
  e_TooLarge : ExIs.ErrC K C_TooLarge
  f_TooLarge : XfC K C_TooLarge
  no_TooLarge : PySem.W.findIn K (.ref C_TooLarge) "what" = some none
  x_TooLarge : PySem.W.exmOne K (.ref C_TooLarge) (.ref C_TooLarge) = some true
  kit1 : PySem.W.kitOne K (.ref C_TooLarge) (.ref C_GameError) = some true
  ok : True
/-! defs that raise: their promise, their calls (in a def that raises, in a try) -/
structure CalX (P : Program) (w : World) (K : PySem.W.Frag) (mg : Str → Option Value) (base : Heap) (k : Nat) (x : Str) (sp : Sp) (dvs : List V) : Prop where
  ex : ∃ (f : Addr) (fd : FuncData) (ps : List Str) (ds : List Value), FnOk P w K mg base (L2.CX P w) k f fd ps sp ∧ mg x = some (.ref f) ∧ PySem.W.keepIn K (.ref f) = true ∧ Binds K fd ps ds ∧ Vals dvs ds
/-- .. called with keywords -/
structure CalXK (P : Program) (w : World) (K : PySem.W.Frag) (mg : Str → Option Value) (base : Heap) (k : Nat) (x : Str) (sp : Sp) (n : Nat) (ks : List Str) (gV : List V → List V → List V) : Prop where
  ex : ∃ (f : Addr) (fd : FuncData) (ps : List Str) (g : List Value → List Value → List Value), FnOk P w K mg base (L2.CX P w) k f fd ps sp ∧ mg x = some (.ref f) ∧ PySem.W.keepIn K (.ref f) = true ∧ KBn K fd ps n ks g gV
structure MetX (P : Program) (w : World) (K : PySem.W.Frag) (mg : Str → Option Value) (base : Heap) (k : Nat) (C : Addr) (m : Str) (sp : Sp) (dvs : List V) : Prop where
  ex : ∃ (f : Addr) (fd : FuncData) (ps : List Str) (ds : List Value), Cls K C ∧ Meth K C m f ∧ FnOk P w K mg base (L2.CX P w) k f fd ps sp ∧ Binds K fd ps ds ∧ Vals dvs ds
section
variable {P : Program} {w : World} {K : PySem.W.Frag} {mg : Str → Option Value} {base : Heap}
theorem fnx {x qual : Str} {st : Stmt} {f : Addr} {fd : FuncData} {N ps : List Str} {k : Nat} {sp : Sp} (F : C8.Fun K x qual st f fd) (S : FnScope N ps (fnScope st)) (len : ∀ vs H Q E, sp vs H Q E → vs.length = ps.length)
    (hbody : ∀ (cdv : Value) (A : Around) (outer : List Env) (s : Shared) (H : Hp) (vs : List V) (Q : VK) (E : XK), Room k (A.deeper (PyProof.Rows.envOfC qual (fnScope st) s.heap.objs.size f cdv)) → sp vs H Q E →
      ∃ t, PSs (cxOf (L2.CX P w) P w K mg base N qual (fnScope st) f cdv A outer s H E) (fnBody st) t ∧ t { nx := fun _ H' => Q .non H', rt := Q } (start N vs) H) : FnOk P w K mg base (L2.CX P w) (k + 1) f fd ps sp := by
  obtain ⟨oc, od, dV, kV, doc, pm, an, cdv, ct, osl, rfl, lk, hcd⟩ := F.ex
  exact fn_of lk hcd S len fun A outer s H vs Q E hr hsp => hbody cdv A outer s H vs Q E hr hsp
theorem CalX.of {x : Str} {st : Stmt} {f : Addr} {fd : FuncData} {ps : List Str} {ds : List Value} {dvs : List V} {k : Nat} {sp : Sp} (F : C8.Def K mg x st f fd) (ok : FnOk P w K mg base (L2.CX P w) k f fd ps sp) (b : Binds K fd ps ds) (d : Vals dvs ds) : CalX P w K mg base k x sp dvs :=
  ⟨f, fd, ps, ds, ok, F.mgf, F.kp, b, d⟩
end
section
variable {X : Cx} {k j n : Nat} {C : Addr} {x m : Str} {sp : Sp} {dvs : List V} {p pos apos : Pos} {e o : Expr} {es : List Expr} {ta : TE} {t tk : TA} {E : XK} {W : WX} {ks : List Str} {gV : List V → List V → List V} {kws : List Keyword}
/-- called in a def that lets out what E says -/
theorem pe_cX (c : CalX X.prog X.w X.K X.mg X.base k x sp dvs) (hr : Room j X.A) (hk : k ≤ j) (hg : Gl X x) (hx : Passes (L2.CX X.prog X.w) X E) (ha : PA X (e :: es) t)
    (hdb : (x == ("__debug__" : Str)) = false := by decide) (he : starEach (e :: es) X.env = (false, eval e X.env) :: starEach es X.env := by rfl) (hpl : (backTo pos (starEach es X.env)).any (·.1) = false := by rfl) :
    PE X (.Call (.Name x p) (e :: es) [] pos) (tCall sp dvs E t) := by
  obtain ⟨f, fd, ps, ds, F, hm, kp, b, d⟩ := c.ex
  exact pe_call F (hr.mono hk) hg hm kp b d hx ha hdb he hpl
/-- called in a try -/
theorem pe_cS (c : CalX X.prog X.w X.K X.mg X.base k x sp dvs) (hr : Room j X.A) (hk : k ≤ j) (hg : Gl X x) (tk : Takes X W) (ha : PA X (e :: es) t)
    (hdb : (x == ("__debug__" : Str)) = false := by decide) (he : starEach (e :: es) X.env = (false, eval e X.env) :: starEach es X.env := by rfl) (hpl : (backTo pos (starEach es X.env)).any (·.1) = false := by rfl) :
    PE X (.Call (.Name x p) (e :: es) [] pos) (tCallSD sp dvs (WE W) t) := by
  obtain ⟨f, fd, ps, ds, F, hm, kp, b, d⟩ := c.ex
  exact pe_callSD F (hr.mono hk) hg hm kp b d (fun σ => passAt tk σ) ha hdb he hpl
def tCallSK (sp : Sp) (n : Nat) (ks : List Str) (gV : List V → List V → List V) (E : L2.St → XK) (t tk : TA) : TE := fun σ H Q => t σ H fun vs H1 => tk σ H1 fun zs H2 => vs.length = n ∧ zs.length = ks.length ∧ sp (gV vs zs) H2 Q (E σ)
/-- called in a try, with keywords -/
theorem pe_cKS (c : CalXK X.prog X.w X.K X.mg X.base k x sp n ks gV) (hr : Room j X.A) (hk : k ≤ j) (hg : Gl X x) (tw : Takes X W) (ha : PA X (e :: es) t) (hkw : PK X kws tk)
    (hall : (backToKw pos (keywordEach kws X.env)).all (·.1.isSome) = true := by rfl) (hks : (backToKw pos (keywordEach kws X.env)).filterMap (·.1) = ks := by rfl)
    (hdb : (x == ("__debug__" : Str)) = false := by decide) (he : starEach (e :: es) X.env = (false, eval e X.env) :: starEach es X.env := by rfl)
    (hpl : ((backTo pos (starEach (e :: es) X.env)).any (·.1) || (backToKw pos (keywordEach kws X.env)).any (·.1.isNone)) = false := by rfl) :
    PE X (.Call (.Name x p) (e :: es) kws pos) (tCallSK sp n ks gV (WE W) t tk) := by
  obtain ⟨f, fd, ps, g, F, hm, kp, b⟩ := c.ex
  refine ⟨fun pins s σ H Q I h => wpAny_Call_Name_kw (ld_glob I hg hm (PySem.W.callWith_KW (h₀ := X.base) I.ok.mod.kin kp hall (thn (ha.run pos pins s σ H _ I h) fun us s1 ⟨vs, H1, I1, r, q⟩ => ?_) hpl he) hdb)⟩
  refine thn (hkw.run pos pins s1 σ H1 _ I1 q) fun ws s2 ⟨zs, H2, I2, rz, l1, l2, q2⟩ => ⟨I2.kIn, ?_⟩
  rw [hks]
  have r2 := b.rel r rz
  refine wpAny_call (codeAny_mono (F.run X.A X.stack s2 H2 ⟨us, ks.zip ws⟩ (g us ws) (gV vs zs) Q (WE W σ) (hr.mono hk) I2.env0 (b.to s2 us ws I2.kIn (r.length.symm.trans l1) (rz.length.symm.trans l2)) r2 q2) fun r s' hq => ?_)
  cases r with
  | error er => exact passAt tw σ pins H2 s2 er s' I2 hq
  | ok fl =>
    cases fl with
    | ret u => exact I2.after hq
    | next => exact hq.elim
    | brk => exact hq.elim
    | cont => exact hq.elim
end

/-! ratios: an own object of two ints -/
theorem kND : ¬ (("num" : Str) = "den") := by decide +kernel
theorem kDN : ¬ (("den" : Str) = "num") := by decide +kernel
def rf (n d : Int) : List (Str × V) := putF "den" (.int d) (putF "num" (.int n) [])
theorem rf_num (n d : Int) : (rf n d).lookup ("num" : Str) = some (.int n) := by
  unfold rf
  rw [lookup_putF, if_neg kND, lookup_putF, if_pos rfl]
theorem rf_den (n d : Int) : (rf n d).lookup ("den" : Str) = some (.int d) := by
  unfold rf
  rw [lookup_putF, if_pos rfl]
theorem rf_no (n d : Int) {m : Str} (h1 : ¬ m = "num") (h2 : ¬ m = "den") : (rf n d).lookup m = none := by
  unfold rf
  rw [lookup_putF, if_neg h2, lookup_putF, if_neg h1]; rfl
/-- a Ratio stands at p -/
def RatAt (C : Addr) (H : Hp) (p : Addr) (n d : Int) : Prop := ∃ dx, H p = some (.ins C dx (rf n d))
theorem RatAt.keep {C p : Addr} {H H' : Hp} {W : List Addr} {n d : Int} (h : RatAt C H p n d) (k : Keep W H H') (w : p ∉ W) : RatAt C H' p n d := by
  obtain ⟨dx, h⟩ := h
  exact ⟨dx, k _ _ h w⟩
theorem RatAt.keep0 {C p : Addr} {H H' : Hp} {n d : Int} (h : RatAt C H p n d) (k : Keep [] H H') : RatAt C H' p n d := h.keep k (by simp)
/-- the sign of the divisor stands with the common part -/
def sg (n d : Int) : Int := if d < 0 then -((Nat.gcd n.natAbs d.natAbs : Nat) : Int) else ((Nat.gcd n.natAbs d.natAbs : Nat) : Int)
def redN (n d : Int) : Int := n.fdiv (sg n d)
def redD (n d : Int) : Int := d.fdiv (sg n d)
theorem gcd_pos_of {n d : Int} (h : d ≠ 0) : 0 < Nat.gcd n.natAbs d.natAbs := Nat.gcd_pos_of_pos_right _ (by omega)
theorem sg_ne {n d : Int} (h : d ≠ 0) : sg n d ≠ 0 := by
  have := gcd_pos_of (n := n) h
  unfold sg
  split <;> omega
theorem sg_dvd_n (n d : Int) : sg n d ∣ n := by
  have h : ((Nat.gcd n.natAbs d.natAbs : Nat) : Int) ∣ n := Int.ofNat_dvd_left.mpr (Nat.gcd_dvd_left _ _)
  unfold sg
  split
  · exact Int.neg_dvd.mpr h
  · exact h
theorem sg_dvd_d (n d : Int) : sg n d ∣ d := by
  have h : ((Nat.gcd n.natAbs d.natAbs : Nat) : Int) ∣ d := Int.ofNat_dvd_left.mpr (Nat.gcd_dvd_right _ _)
  unfold sg
  split
  · exact Int.neg_dvd.mpr h
  · exact h
theorem fdiv_of_mul {m c s : Int} (hs : s ≠ 0) (h : m = s * c) : m.fdiv s = c := by
  subst h; exact Int.mul_fdiv_cancel_left c hs
theorem red_n {n d : Int} (h : d ≠ 0) : redN n d * sg n d = n := by
  obtain ⟨c, hc⟩ := sg_dvd_n n d
  unfold redN
  rw [fdiv_of_mul (sg_ne h) hc, Int.mul_comm]; exact hc.symm
theorem red_d {n d : Int} (h : d ≠ 0) : redD n d * sg n d = d := by
  obtain ⟨c, hc⟩ := sg_dvd_d n d
  unfold redD
  rw [fdiv_of_mul (sg_ne h) hc, Int.mul_comm]; exact hc.symm
theorem redD_pos {n d : Int} (h : d ≠ 0) : 0 < redD n d := by
  have e := red_d (n := n) h
  have g := gcd_pos_of (n := n) h
  have hne : redD n d ≠ 0 := fun z => by rw [z, Int.zero_mul] at e; exact h e.symm
  rcases Int.lt_or_gt_of_ne hne with hl | hl
  · exfalso
    unfold sg at e
    split at e
    · rename_i hd
      have : 0 ≤ redD n d * -((Nat.gcd n.natAbs d.natAbs : Nat) : Int) := Int.mul_nonneg_of_nonpos_of_nonpos (by omega) (by omega)
      omega
    · rename_i hd
      have : redD n d * ((Nat.gcd n.natAbs d.natAbs : Nat) : Int) < 0 := Int.mul_neg_of_neg_of_pos hl (by omega)
      omega
  · exact hl
/-- the same ratio -/
theorem red_cross {n d : Int} (h : d ≠ 0) : redN n d * d = n * redD n d := by
  have e1 := red_n (n := n) h
  have e2 := red_d (n := n) h
  calc redN n d * d = redN n d * (redD n d * sg n d) := by rw [e2]
    _ = redN n d * sg n d * redD n d := by rw [Int.mul_comm (redD n d), Int.mul_assoc]
    _ = n * redD n d := by rw [e1]
theorem red_gcd {n d : Int} (h : d ≠ 0) : Nat.gcd (redN n d).natAbs (redD n d).natAbs = 1 := by
  have e1 : (redN n d).natAbs * (sg n d).natAbs = n.natAbs := by rw [← Int.natAbs_mul, red_n h]
  have e2 : (redD n d).natAbs * (sg n d).natAbs = d.natAbs := by rw [← Int.natAbs_mul, red_d h]
  have e3 : (sg n d).natAbs = Nat.gcd n.natAbs d.natAbs := by unfold sg; split <;> omega
  have e4 := Nat.gcd_mul_right (redN n d).natAbs (sg n d).natAbs (redD n d).natAbs
  rw [e1, e2, e3] at e4
  have g := gcd_pos_of (n := n) h
  exact Nat.eq_of_mul_eq_mul_right g (by omega)
theorem red_abs_n {n d : Int} (h : d ≠ 0) : (redN n d).natAbs ≤ n.natAbs := by
  have e1 : (redN n d).natAbs * (sg n d).natAbs = n.natAbs := by rw [← Int.natAbs_mul, red_n h]
  have : 0 < (sg n d).natAbs := by have := sg_ne (n := n) h; omega
  rw [← e1]
  exact Nat.le_mul_of_pos_right _ this
theorem red_dvd {n d : Int} (h : d ≠ 0) : redD n d ∣ d := ⟨sg n d, (red_d h).symm⟩
/-- what the rules ask of numbers below a power of two -/
theorem log2_lt9 {i : Int} {b : Nat} (h : i.natAbs < 2 ^ b) (h0 : 0 < b) : i.natAbs.log2 < b := PySem.Flt.log2_lt_of h0 h
section
variable {X : Cx}
def CDivG (_ j : Int) : Prop := j ≠ 0 ∧ j.natAbs.log2 < 9000
theorem op_fdivG : OpR X (binaryOp .FloorDiv) (rI CDivG fun i j => .int (i.fdiv j)) := opI fun i j _ _ _ _ _ hc q =>
  PyProof.Rows.floordiv_int hc.1 q (.inl (PyProof.noPylong_of_log2 hc.2))
def CPowB (i j : Int) : Prop := 2 ≤ i.natAbs ∧ 1 ≤ j ∧ (Builtin.Int.intBits i : Int) * j ≤ 100000000
theorem op_mulO : OpR X (binaryOp .Mult) (rI IntMulOk fun i j => .int (i * j)) := opI fun _ _ _ _ _ _ _ hc q => PyProof.Rows.mul_int q hc
end
def sp_rat (C : Addr) : Sp := fun vs H Q _ => ∃ (x dx : Addr) (n d : Int), vs = [.ref x, .int n, .int d] ∧ d ≠ 0 ∧ d.natAbs < 2 ^ 8000 ∧ H x = some (.ins C dx []) ∧
  ∀ H', Keep [x] H H' → H' x = some (.ins C dx (rf (redN n d) (redD n d))) → Q .non H'

/-! the law's draws -/
def Pool (H : Hp) (p q : Addr) (ns : List Int) : Prop := ∃ (i1 i2 i3 i4 i5 : Int), H p = some (.lst [.ref q, .int i1, .int i2, .int i3, .int i4, .int i5]) ∧ H q = some (.lst (ns.map V.int)) ∧ q ≠ p ∧ 0 ≤ i1
theorem Pool.some {H : Hp} {p q : Addr} {ns : List Int} (h : Pool H p q ns) : ∃ o, H p = Option.some o := by
  obtain ⟨i1, i2, i3, i4, i5, h, _⟩ := h
  exact ⟨_, h⟩
theorem Pool.some2 {H : Hp} {p q : Addr} {ns : List Int} (h : Pool H p q ns) : ∃ o, H q = Option.some o := by
  obtain ⟨i1, i2, i3, i4, i5, _, h, _⟩ := h
  exact ⟨_, h⟩
theorem Pool.keep {H H' : Hp} {p q : Addr} {ns : List Int} {W : List Addr} (h : Pool H p q ns) (k : Keep W H H') (w : ∀ b, b ∈ W → H b = none) : Pool H' p q ns := by
  obtain ⟨i1, i2, i3, i4, i5, h1, h2, h3, h4⟩ := h
  have no : ∀ b o, H b = Option.some o → b ∉ W := fun b o e z => by rw [w b z] at e; cases e
  exact ⟨i1, i2, i3, i4, i5, k _ _ h1 (no _ _ h1), k _ _ h2 (no _ _ h2), h3, h4⟩
theorem Pool.keep0 {H H' : Hp} {p q : Addr} {ns : List Int} (h : Pool H p q ns) (k : Keep [] H H') : Pool H' p q ns := h.keep k fun _ z => by cases z
theorem Pool.new {H : Hp} {p q a : Addr} {ns : List Int} {o : HO} (h : Pool H p q ns) (n : H a = none) : Pool (upd H a o) p q ns := h.keep0 (Keep.new n)
theorem Pool.own {H : Hp} {p q a : Addr} {ns : List Int} {o : HO} (h : Pool H p q ns) (h1 : a ≠ p) (h2 : a ≠ q) : Pool (upd H a o) p q ns := by
  obtain ⟨i1, i2, i3, i4, i5, g1, g2, g3, g4⟩ := h
  exact ⟨i1, i2, i3, i4, i5, by rw [upd_ne h1.symm]; exact g1, by rw [upd_ne h2.symm]; exact g2, g3, g4⟩
theorem Pool.free {H H' : Hp} {p q l : Addr} {ns : List Int} (P : Pool H' p q ns) (e : Keep [p] H H') (h : H' l = none) : H l = none := by
  obtain ⟨o, ho⟩ := P.some
  exact e.free1 ho h
theorem Pool.nep {H : Hp} {p q l : Addr} {ns : List Int} (P : Pool H p q ns) (h : H l = none) : l ≠ p := by
  obtain ⟨o, ho⟩ := P.some
  exact (ne_of_none ho h).symm
theorem Pool.neq {H : Hp} {p q l : Addr} {ns : List Int} (P : Pool H p q ns) (h : H l = none) : l ≠ q := by
  obtain ⟨o, ho⟩ := P.some2
  exact (ne_of_none ho h).symm
def sp_law_pool (K : PySem.W.Frag) : Sp := fun vs H Q _ => ∃ (a : Addr) (ns : List Int) (b : Int), vs = [.ref a, .int b] ∧ SqL K H a (ns.map V.int) ∧
  ∀ p q H', H p = none → Pool H' p q ns → Keep [] H H' → Q (.ref p) H'
def sp_law_draw : Sp := fun vs H Q _ => ∃ (p q : Addr) (ns : List Int) (size : Int), vs = [.ref p, .int size] ∧ 0 < size ∧ size < 2 ^ 60 ∧ Pool H p q ns ∧
  ∀ r H', 0 ≤ r → r < size → Pool H' p q ns → Keep [p] H H' → Q (.int r) H'
section
variable {P : Program} {w : World} {K : PySem.W.Frag} {mg : Str → Option Value} {base : Heap} {C_Ratio : Addr} {C_Tape : Addr} {C_Thinker : Addr} {C_Brain : Addr} {C_GameError : Addr} {C_TooLarge : Addr} {f_TooLarge___init : Addr} {T_EVENTS : Addr}
theorem ok_law_pool {f : Addr} {fd : FuncData} (D : C8.Def K mg "_law_pool" s_law_pool f fd) (b : Binds K fd ["script", "budget"] []) (T : Txt K mg C_Ratio C_Tape C_Thinker C_Brain C_GameError C_TooLarge T_EVENTS) : C8.Cal P w K mg base 1 "_law_pool" (sp_law_pool K) [] := by
  refine cal0 D b .nil sc_law_pool (fun vs H Q E h => ?_) (fun cdv A outer s H vs Q E hr h => ?_)
  · obtain ⟨a, ns, b, rfl, _⟩ := h
    rfl
  · obtain ⟨a, ns, b, rfl, hS, k⟩ := h
    refine ⟨_, (pss_one (ps_ret (pe_lst (pa_cons (pe_callTy call_list_of (by rfl) T.n_list bo_list (pa_cons (pv 0) pa_nil)) (pa_cons pe_int (pa_cons pe_int (pa_cons pe_int (pa_cons pe_int (pa_cons (pv 1) pa_nil))))))))), ?_⟩
    refine ⟨_, rfl, _, _, rfl, .inl hS, fun l hl => ⟨_, rfl, (by show 6 ≤ sizeLine; decide), fun p hp => ?_⟩⟩
    have hlp : l ≠ p := ne_of_none (H := upd H l (.lst (ns.map V.int))) upd_same hp
    have hp0 : H p = none := (Keep.new (W := []) hl).free hp
    refine k p l _ hp0 ⟨_, _, _, _, _, upd_same, (by rw [upd_ne hlp]; exact upd_same), hlp, Int.le_refl 0⟩ ((Keep.new hl).then_new hp)
theorem ok_law_draw {f : Addr} {fd : FuncData} (D : C8.Def K mg "_law_draw" s_law_draw f fd) (b : Binds K fd ["pool", "size"] []) (T : Txt K mg C_Ratio C_Tape C_Thinker C_Brain C_GameError C_TooLarge T_EVENTS) : C8.Cal P w K mg base 1 "_law_draw" sp_law_draw [] := by
  refine cal0 D b .nil sc_law_draw (fun vs H Q E h => ?_) (fun cdv A outer s H vs Q E hr h => ?_)
  · obtain ⟨p, q, ns, size, rfl, _⟩ := h
    rfl
  · obtain ⟨p, q, ns, size, rfl, hs0, hs1, ⟨i1, i2, i3, i4, i5, h1, h2, hqp, hi1⟩, k⟩ := h
    have hbig : (2147483647 : Int) > 0 := by decide
    have cdg : ∀ {i : Int}, CDivG i size := ⟨by omega, Nat.lt_trans (log2_lt9 (b := 60) (by omega) (by decide)) (by decide)⟩
    refine ⟨_, (pss_cut (ps_if (PW.pt (pw_and (pt_cmpR op_le (pe_ix ix_list (pv 0) pe_int (fun _ _ => rfl)) pe_int (nomark _)) (pw_and (pt_cmpR op_le (pe_ix ix_list (pv 0) pe_int (fun _ _ => rfl)) pe_int (nomark _)) (pw_and1 (pt_cmpR op_lt (pe_ix ix_list (pv 0) pe_int (fun _ _ => rfl)) (pe_callB call_len_seq (by rfl) T.n_len bo_len (pa_cons (pe_ix ix_list (pv 0) pe_int (fun _ _ => rfl)) pa_nil)) (nomark _))))))
  (pss_cons (ps_set (i := 2) sc_law_draw.nd rfl (by first | exact Or.inl rfl | exact Or.inr rfl) (pe_ix ix_list (pe_ix ix_list (pv 0) pe_int (fun _ _ => rfl)) (pe_ix ix_list (pv 0) pe_int (fun _ _ => rfl)) (fun _ _ => rfl)))
  (pss_cons (ps_asg (pe_op op_add (pe_ix ix_list (pv 0) pe_int (fun _ _ => rfl)) pe_int) (pg_sub (pv 0) pe_int set_list))
  (pss_cons (ps_asg (pe_op op_mod (pe_callTy call_int1 (by rfl) T.n_int bo_int (pa_cons (pe_op op_add (pe_op op_mul (pe_ix ix_list (pv 0) pe_int (fun _ _ => rfl)) pe_int) (pv 2)) pa_nil)) pe_int) (pg_sub (pv 0) pe_int set_list))
  (pss_cons (ps_asg pe_int (pg_sub (pv 0) pe_int set_list))
  (pss_one (ps_if (pt_cmpR op_ge (pv 2) (pe_op op_pow pe_int pe_int) (nomark _))
    (pss_one (ps_asg (pv 2) (pg_sub (pv 0) pe_int set_list)))
    pss_nil))))))
  pss_nil)
(pss_cons (ps_if (pt_cmpR op_gt (pe_ix ix_list (pv 0) pe_int (fun _ _ => rfl)) pe_int (nomark _))
  (pss_cons (ps_set (i := 3) sc_law_draw.nd rfl (by first | exact Or.inl rfl | exact Or.inr rfl) (pe_op op_mod (pe_callTy call_int1 (by rfl) T.n_int bo_int (pa_cons (pe_ix ix_list (pv 0) pe_int (fun _ _ => rfl)) pa_nil)) (pv 1)))
  (pss_cons (ps_asg (pe_op op_fdivG (pe_ix ix_list (pv 0) pe_int (fun _ _ => rfl)) (pv 1)) (pg_sub (pv 0) pe_int set_list))
  (pss_cons (ps_asg pe_int (pg_sub (pv 0) pe_int set_list))
  (pss_one (ps_ret (pv 3))))))
  pss_nil)
(pss_cons (ps_asg (pe_op op_sub (pe_ix ix_list (pv 0) pe_int (fun _ _ => rfl)) pe_int) (pg_sub (pv 0) pe_int set_list))
(pss_cons (ps_asg (pe_op op_mod (pe_callTy call_int1 (by rfl) T.n_int bo_int (pa_cons (pe_op op_add (pe_op op_mul (pe_ix ix_list (pv 0) pe_int (fun _ _ => rfl)) pe_int) pe_int) pa_nil)) pe_int) (pg_sub (pv 0) pe_int set_list))
(pss_one (ps_ret (pe_op op_mod (pe_op op_mod (pe_callTy call_int1 (by rfl) T.n_int bo_int (pa_cons (pe_op op_add (pe_op op_mul (pe_ix ix_list (pv 0) pe_int (fun _ _ => rfl)) pe_int) pe_int) pa_nil)) pe_int) (pv 1)))))))), ?_⟩
    -- the state between the statements
    refine ⟨fun σ H' => ∃ (c : Option V) (j1 j2 j3 j4 j5 : Int), σ = [some (.ref p), some (.int size), c, none] ∧ H' p = some (.lst [.ref q, .int j1, .int j2, .int j3, .int j4, .int j5]) ∧ Keep [p] H H' ∧ 0 ≤ j1, ?_, ?_⟩
    · have stay : ∃ (c : Option V) (j1 j2 j3 j4 j5 : Int), ([some (.ref p), some (.int size), none, none] : List (Option V)) = [some (.ref p), some (.int size), c, none] ∧ H p = some (.lst [.ref q, .int j1, .int j2, .int j3, .int j4, .int j5]) ∧ Keep [p] H H ∧ 0 ≤ j1 :=
        ⟨_, i1, i2, i3, i4, i5, rfl, h1, Keep.refl _ _, hi1⟩
      refine ⟨_, rfl, _, _, _, _, rfl, rfl, SqL.of h1, rfl, _, _, rfl, rfl, _, rfl, iteD (fun _ => ?_) (fun _ => stay)⟩
      refine ⟨_, rfl, _, _, _, _, rfl, rfl, SqL.of h1, rfl, _, _, rfl, rfl, _, rfl, iteD (fun _ => ?_) (fun _ => stay)⟩
      refine ⟨_, rfl, _, _, _, _, rfl, rfl, SqL.of h1, rfl, _, rfl, _, _, _, _, rfl, rfl, SqL.of h1, rfl, _, _, rfl, .inl (SqL.of h2), _, _, rfl, rfl, _, rfl, iteD (fun hlt => ?_) (fun _ => stay)⟩
      obtain ⟨j, rfl⟩ : ∃ j : Nat, i1 = (j : Int) := ⟨i1.toNat, by omega⟩
      rw [List.length_map] at hlt
      have hj : j < ns.length := by omega
      have hc : (ns.map V.int)[j]? = some (.int ns[j]) := by rw [List.getElem?_map, List.getElem?_eq_getElem hj]; rfl
      refine ⟨_, rfl, _, _, _, _, rfl, rfl, SqL.of h1, rfl, _, rfl, _, _, _, _, rfl, rfl, SqL.of h1, rfl, _, _, _, _, rfl, rfl, SqL.of h2, atI_nat hc, ?_⟩
      refine ⟨_, rfl, _, _, _, _, rfl, rfl, SqL.of h1, rfl, _, _, rfl, rfl, _, rfl, _, _, _, _, rfl, rfl, h1, rfl, ?_⟩
      refine ⟨_, rfl, _, _, _, _, rfl, rfl, SqL.of upd_same, rfl, _, _, rfl, rfl, .inr ⟨by decide, by decide⟩, _, rfl, _, _, rfl, rfl, .inl ⟨_, rfl, _, _, rfl, rfl, hbig, _, rfl, _, _, _, _, rfl, rfl, upd_same, rfl, ?_⟩⟩
      refine ⟨_, rfl, _, _, _, _, rfl, rfl, upd_same, rfl, ?_⟩
      have kk : Keep [p] H (upd (upd (upd H p (.lst (List.set [.ref q, .int (j : Int), .int i2, .int i3, .int i4, .int i5] 1 (.int ((j : Int) + 1))))) p
        (.lst (List.set (List.set [.ref q, .int (j : Int), .int i2, .int i3, .int i4, .int i5] 1 (.int ((j : Int) + 1))) 3 (.int ((i3 * 31 + ns[j]) % 2147483647))))) p
        (.lst (List.set (List.set (List.set [.ref q, .int (j : Int), .int i2, .int i3, .int i4, .int i5] 1 (.int ((j : Int) + 1))) 3 (.int ((i3 * 31 + ns[j]) % 2147483647))) 4 (.int 7)))) :=
        ((Keep.at_ (List.mem_singleton.mpr rfl)).then_at (List.mem_singleton.mpr rfl)).then_at (List.mem_singleton.mpr rfl)
      refine ⟨_, rfl, _, _, rfl, rfl, ⟨by decide, by decide, by decide⟩, _, _, rfl, rfl, _, rfl, iteD (fun _ => ?_) (fun _ => ?_)⟩
      · refine ⟨_, rfl, _, rfl, _, _, _, _, rfl, rfl, upd_same, rfl, ?_⟩
        exact ⟨_, _, _, _, _, _, rfl, upd_same, kk.then_at (List.mem_singleton.mpr rfl), by omega⟩
      · exact ⟨_, _, _, _, _, _, rfl, upd_same, kk, by omega⟩
    · rintro σ' H' ⟨c, j1, j2, j3, j4, j5, rfl, g1, kk, hj1⟩
      have g2 : H' q = some (.lst (ns.map V.int)) := kk q _ h2 (by simpa using hqp)
      refine ⟨_, rfl, _, _, _, _, rfl, rfl, SqL.of g1, rfl, _, _, rfl, rfl, _, rfl, iteD (fun _ => ?_) (fun _ => ?_)⟩
      · refine ⟨_, rfl, _, _, _, _, rfl, rfl, SqL.of g1, rfl, .inl ⟨_, rfl, _, rfl, _, _, rfl, rfl, hs0, ?_⟩⟩
        refine ⟨_, rfl, _, _, _, _, rfl, rfl, SqL.of g1, rfl, _, rfl, _, _, rfl, rfl, cdg, _, rfl, _, _, _, _, rfl, rfl, g1, rfl, ?_⟩
        refine ⟨_, rfl, _, _, _, _, rfl, rfl, upd_same, rfl, ?_⟩
        refine ⟨_, rfl, ?_⟩
        refine k _ _ (Int.emod_nonneg _ (by omega)) (Int.emod_lt_of_pos _ hs0) ⟨_, _, _, _, _, upd_same, ?_, hqp, hj1⟩ ((kk.then_at (List.mem_singleton.mpr rfl)).then_at (List.mem_singleton.mpr rfl))
        rw [upd_ne hqp, upd_ne hqp]; exact g2
      · refine ⟨_, rfl, _, _, _, _, rfl, rfl, SqL.of g1, rfl, _, _, rfl, rfl, _, rfl, _, _, _, _, rfl, rfl, g1, rfl, ?_⟩
        refine ⟨_, rfl, _, _, _, _, rfl, rfl, SqL.of upd_same, rfl, _, _, rfl, rfl, .inr ⟨by decide, by decide⟩, _, _, rfl, rfl, .inl ⟨_, rfl, _, _, rfl, rfl, hbig, _, rfl, _, _, _, _, rfl, rfl, upd_same, rfl, ?_⟩⟩
        refine ⟨_, rfl, _, _, _, _, rfl, rfl, SqL.of upd_same, rfl, _, _, rfl, rfl, .inr ⟨by decide, by decide⟩, _, _, rfl, rfl, .inl ⟨_, rfl, _, _, rfl, rfl, hbig, _, rfl, _, _, rfl, rfl, hs0, ?_⟩⟩
        refine k _ _ (Int.emod_nonneg _ (by omega)) (Int.emod_lt_of_pos _ hs0) ⟨_, _, _, _, _, upd_same, ?_, hqp, hj1⟩ ((kk.then_at (List.mem_singleton.mpr rfl)).then_at (List.mem_singleton.mpr rfl))
        rw [upd_ne hqp, upd_ne hqp]; exact g2
end

/-! the law's small draws -/
def sp_law_few : Sp := fun vs H Q _ => ∃ (p q : Addr) (ns : List Int) (most : Int), vs = [.ref p, .int most] ∧ 0 ≤ most ∧ most < 1000000 ∧ Pool H p q ns ∧
  ∀ r H', 0 ≤ r → r ≤ most → Pool H' p q ns → Keep [p] H H' → Q (.int r) H'
section
variable {P : Program} {w : World} {K : PySem.W.Frag} {mg : Str → Option Value} {base : Heap} {C_Ratio : Addr} {C_Tape : Addr} {C_Thinker : Addr} {C_Brain : Addr} {C_GameError : Addr} {C_TooLarge : Addr} {f_TooLarge___init : Addr} {T_EVENTS : Addr}
theorem ok_law_few {f : Addr} {fd : FuncData} (D : C8.Def K mg "_law_few" s_law_few f fd) (b : Binds K fd ["pool", "most"] []) (T : Txt K mg C_Ratio C_Tape C_Thinker C_Brain C_GameError C_TooLarge T_EVENTS) (c_law_draw : C8.Cal P w K mg base 1 "_law_draw" sp_law_draw []) : C8.Cal P w K mg base 2 "_law_few" sp_law_few [] := by
  refine cal0 D b .nil sc_law_few (fun vs H Q E h => ?_) (fun cdv A outer s H vs Q E hr h => ?_)
  · obtain ⟨p, q, ns, m, rfl, _⟩ := h
    rfl
  · obtain ⟨p, q, ns, m, rfl, m0, m1, hP, k⟩ := h
    refine ⟨_, (pss_cons (ps_set (i := 2) sc_law_few.nd rfl (by first | exact Or.inl rfl | exact Or.inr rfl) (pe_c c_law_draw hr (by first | exact Nat.le_refl _ | decide | omega) rfl (pa_cons (pv 0) (pa_cons pe_int pa_nil))))
(pss_cons (ps_if (pt_cmpR op_eq (pv 2) pe_int (nomark _))
  (pss_one (ps_ret (pe_c c_law_draw hr (by first | exact Nat.le_refl _ | decide | omega) rfl (pa_cons (pv 0) (pa_cons (pe_op op_add (pv 1) pe_int) pa_nil)))))
  pss_nil)
(pss_one (ps_ret (pe_callB (call_min2 rfl) (by rfl) T.n_min bo_min (pa_cons (pv 2) (pa_cons (pv 1) pa_nil))))))), ?_⟩
    refine ⟨_, rfl, p, q, ns, 4, rfl, by decide, by decide, hP, fun r H1 r0 r1 P1 K1 => ?_⟩
    refine ⟨_, rfl, rfl, _, rfl, iteD (fun _ => ?_) (fun _ => ?_)⟩
    · refine ⟨_, rfl, _, rfl, _, _, rfl, rfl, p, q, ns, _, rfl, by omega, by omega, P1, fun r2 H2 z0 z1 P2 K2 => ?_⟩
      exact k _ _ z0 (by omega) P2 (K1.trans K2)
    · refine ⟨_, rfl, _, rfl, _, _, rfl, k _ _ ?_ ?_ P1 K1⟩
      · split <;> omega
      · split <;> omega
end

/-- tuples stand -/
def TK (H H' : Hp) : Prop := ∀ b xs, H b = some (.tup xs) → H' b = some (.tup xs)
theorem TK.refl (H : Hp) : TK H H := fun _ _ h => h
theorem TK.trans {H H1 H2 : Hp} (a : TK H H1) (b : TK H1 H2) : TK H H2 := fun c xs h => b c xs (a c xs h)
theorem TK.new {H : Hp} {p : Addr} {o : HO} (h : H p = none) : TK H (upd H p o) := fun b xs q => by rw [upd_ne (ne_of_none q h)]; exact q
theorem TK.lst {H : Hp} {p : Addr} {o : HO} {ys : List V} (h : H p = some (.lst ys)) : TK H (upd H p o) := fun b xs q => by
  rw [upd_ne (ne_of q h (by intro z; cases z))]; exact q
theorem Keep.tk {H H' : Hp} (k : Keep [] H H') : TK H H' := fun b xs q => k b _ q (by simp)
theorem Keep.tk1 {H H' : Hp} {p : Addr} {ys : List V} (k : Keep [p] H H') (h : H p = some (.lst ys)) : TK H H' := fun b xs q => k b _ q (by
  have := ne_of q h (by intro z; cases z)
  simpa using this)

/-! tuples that stand, in the walk's heap or in the module's -/
def KT (K : PySem.W.Frag) (a : Addr) (xs : List V) : Prop := ∃ (o : Obj) (its : Array Value) (n : Nat), K.lookup a = some o ∧ o.cls = .type "tuple" ∧ o.data = .seq its n ∧ its.size ≤ sizeLine ∧ Vals xs its.toList
def At (K : PySem.W.Frag) (H : Hp) (a : Addr) (xs : List V) : Prop := H a = some (.tup xs) ∨ KT K a xs
theorem At.sq {K : PySem.W.Frag} {H : Hp} {a : Addr} {xs : List V} (h : At K H a xs) : SqT K H a xs := by
  rcases h with h | h
  · exact SqT.of h
  · exact .inr h
theorem At.ty {K : PySem.W.Frag} {H : Hp} {a : Addr} {xs : List V} (h : At K H a xs) : TyX K H (.ref a) (.type "tuple") := by
  rcases h with h | ⟨o, its, n, h, c, _⟩
  · exact .base (.tup h)
  · exact .kTuple h c
theorem At.tk {K : PySem.W.Frag} {H H' : Hp} {a : Addr} {xs : List V} (k : TK H H') (h : At K H a xs) : At K H' a xs := by
  rcases h with h | h
  · exact .inl (k _ _ h)
  · exact .inr h
/-! the law's look whether two values are the same: only the answer True is told -/
def SameV (K : PySem.W.Frag) : Nat → Hp → V → V → Prop
  | 0, _, _, _ => False
  | n + 1, H, a, d => (a = d ∧ ((∃ x, d = .str x) ∨ (∃ i, d = .int i) ∨ (∃ b, d = .bl b) ∨ d = .non)) ∨
    ∃ p q xs ys, a = .ref p ∧ d = .ref q ∧ ((H p = some (.lst xs) ∧ H q = some (.lst ys)) ∨ (At K H p xs ∧ At K H q ys)) ∧ xs.length = ys.length ∧ xs.length ≤ sizeLine ∧
      ∀ (i : Nat) x y, xs[i]? = some x → ys[i]? = some y → SameV K n H x y
def sp_law_same (K : PySem.W.Frag) (n : Nat) : Sp := fun vs H Q _ => ∃ a d, vs = [a, d] ∧ SameV K n H a d ∧ Q (.bl true) H
theorem sameV_atom {K : PySem.W.Frag} {n : Nat} {H : Hp} {d : V} (h : (∃ x, d = .str x) ∨ (∃ i, d = .int i) ∨ (∃ b, d = .bl b) ∨ d = .non) : SameV K (n + 1) H d d := .inl ⟨rfl, h⟩
section
variable {K : PySem.W.Frag}
theorem kLT : PySem.W.kitOne K (.type "list") (.type "tuple") = some false := kit_ty (by decide +kernel)
theorem kLL : PySem.W.kitOne K (.type "list") (.type "list") = some true := kit_ty (by decide +kernel)
theorem kTT : PySem.W.kitOne K (.type "tuple") (.type "tuple") = some true := kit_ty (by decide +kernel)
theorem kTL : PySem.W.kitOne K (.type "tuple") (.type "list") = some false := kit_ty (by decide +kernel)
theorem kST : PySem.W.kitOne K (.type "str") (.type "tuple") = some false := kit_ty (by decide +kernel)
theorem kSL : PySem.W.kitOne K (.type "str") (.type "list") = some false := kit_ty (by decide +kernel)
theorem kSB : PySem.W.kitOne K (.type "str") (.type "bool") = some false := kit_ty (by decide +kernel)
theorem kSI : PySem.W.kitOne K (.type "str") (.type "int") = some false := kit_ty (by decide +kernel)
theorem kSS : PySem.W.kitOne K (.type "str") (.type "str") = some true := kit_ty (by decide +kernel)
theorem kIT : PySem.W.kitOne K (.type "int") (.type "tuple") = some false := kit_ty (by decide +kernel)
theorem kIL : PySem.W.kitOne K (.type "int") (.type "list") = some false := kit_ty (by decide +kernel)
theorem kIB : PySem.W.kitOne K (.type "int") (.type "bool") = some false := kit_ty (by decide +kernel)
theorem kII : PySem.W.kitOne K (.type "int") (.type "int") = some true := kit_ty (by decide +kernel)
theorem kBT : PySem.W.kitOne K (.type "bool") (.type "tuple") = some false := kit_ty (by decide +kernel)
theorem kBL : PySem.W.kitOne K (.type "bool") (.type "list") = some false := kit_ty (by decide +kernel)
theorem kBB : PySem.W.kitOne K (.type "bool") (.type "bool") = some true := kit_ty (by decide +kernel)
theorem kBI : PySem.W.kitOne K (.type "bool") (.type "int") = some true := kit_ty (by decide +kernel)
theorem kNT : PySem.W.kitOne K (.type "NoneType") (.type "tuple") = some false := kit_ty (by decide +kernel)
theorem kNL : PySem.W.kitOne K (.type "NoneType") (.type "list") = some false := kit_ty (by decide +kernel)
theorem kNB : PySem.W.kitOne K (.type "NoneType") (.type "bool") = some false := kit_ty (by decide +kernel)
theorem kNI : PySem.W.kitOne K (.type "NoneType") (.type "int") = some false := kit_ty (by decide +kernel)
end

section
variable {P : Program} {w : World} {K : PySem.W.Frag} {mg : Str → Option Value} {base : Heap} {C_Ratio : Addr} {C_Tape : Addr} {C_Thinker : Addr} {C_Brain : Addr} {C_GameError : Addr} {C_TooLarge : Addr} {f_TooLarge___init : Addr} {T_EVENTS : Addr}
theorem ok_law_same0 {f : Addr} {fd : FuncData} (D : C8.Def K mg "_law_same" s_law_same f fd) (b : Binds K fd ["actual", "due"] []) : C8.Cal P w K mg base 0 "_law_same" (sp_law_same K 0) [] :=
  ⟨f, fd, ["actual", "due"], [], ⟨fun vs H Q E h => (by obtain ⟨a, d, rfl, _⟩ := h; rfl), fun A outer s H args us vs Q E _ _ _ _ h => (by obtain ⟨a, d, _, z, _⟩ := h; exact z.elim)⟩, D.mgf, D.kp, b, .nil⟩
theorem ok_law_same {f : Addr} {fd : FuncData} (D : C8.Def K mg "_law_same" s_law_same f fd) (b : Binds K fd ["actual", "due"] []) (T : Txt K mg C_Ratio C_Tape C_Thinker C_Brain C_GameError C_TooLarge T_EVENTS) {n k : Nat} (c_law_same : C8.Cal P w K mg base k "_law_same" (sp_law_same K n) []) :
    C8.Cal P w K mg base (k + 1) "_law_same" (sp_law_same K (n + 1)) [] := by
  refine cal0 D b .nil sc_law_same (fun vs H Q E h => ?_) (fun cdv A outer s H vs Q E hr h => ?_)
  · obtain ⟨a, d, rfl, _⟩ := h
    rfl
  · obtain ⟨a, d, rfl, hs, k⟩ := h
    have hu := hu_of hr
    refine ⟨_, (pss_cons (ps_if (PW.pt (pw_or (pt_val (pe_callB call_isi (by rfl) T.n_isinstance bo_isinstance (pa_cons (pv 1) (pa_cons (pe_bltn (v := .ty "tuple") (by rfl) T.n_tuple bo_tuple rfl) pa_nil)))) (pw_or1 (pt_val (pe_callB call_isi (by rfl) T.n_isinstance bo_isinstance (pa_cons (pv 1) (pa_cons (pe_bltn (v := .ty "list") (by rfl) T.n_list bo_list rfl) pa_nil)))))))
  (pss_cons (ps_if (PW.pt (pw_or (pt_cmpR op_ne (pe_callB call_isi (by rfl) T.n_isinstance bo_isinstance (pa_cons (pv 1) (pa_cons (pe_bltn (v := .ty "tuple") (by rfl) T.n_tuple bo_tuple rfl) pa_nil))) (pe_callB call_isi (by rfl) T.n_isinstance bo_isinstance (pa_cons (pv 0) (pa_cons (pe_bltn (v := .ty "tuple") (by rfl) T.n_tuple bo_tuple rfl) pa_nil))) (nomark _)) (pw_or1 (pt_cmpR op_ne (pe_callB call_isi (by rfl) T.n_isinstance bo_isinstance (pa_cons (pv 1) (pa_cons (pe_bltn (v := .ty "list") (by rfl) T.n_list bo_list rfl) pa_nil))) (pe_callB call_isi (by rfl) T.n_isinstance bo_isinstance (pa_cons (pv 0) (pa_cons (pe_bltn (v := .ty "list") (by rfl) T.n_list bo_list rfl) pa_nil))) (nomark _)))))
    (pss_one (ps_ret pe_bl))
    pss_nil)
  (pss_cons (ps_if (pt_cmpR op_ne (pe_callB call_len_seq (by rfl) T.n_len bo_len (pa_cons (pv 0) pa_nil)) (pe_callB call_len_seq (by rfl) T.n_len bo_len (pa_cons (pv 1) pa_nil)) (nomark _))
    (pss_one (ps_ret pe_bl))
    pss_nil)
  (pss_cons (ps_for PassesOwn.never rfl (pi_range1 (by rfl) T.n_range (pa_cons (pe_callB call_len_seq (by rfl) T.n_len bo_len (pa_cons (pv 1) pa_nil)) pa_nil)) (pg_name (i := 2) sc_law_same.nd rfl (by first | exact Or.inl rfl | exact Or.inr rfl))
    (pss_one (ps_if (pt_not (pt_val (pe_c c_law_same hr (by first | exact Nat.le_refl _ | decide | omega) rfl (pa_cons (pe_ix ix_seq (pv 0) (pv 2) (fun _ _ => rfl)) (pa_cons (pe_ix ix_seq (pv 1) (pv 2) (fun _ _ => rfl)) pa_nil)))))
      (pss_one (ps_ret pe_bl))
      pss_nil)))
  (pss_one (ps_ret pe_bl)))))
  pss_nil)
(pss_cons (ps_if (PW.pt (pw_or (pt_cmpR op_isN (pv 1) pe_non (nomark _)) (pw_or1 (pt_val (pe_callB call_isi (by rfl) T.n_isinstance bo_isinstance (pa_cons (pv 1) (pa_cons (pe_bltn (v := .ty "bool") (by rfl) T.n_bool bo_bool rfl) pa_nil)))))))
  (pss_one (ps_ret (pe_and (pe_cmpR op_eq (pe_cmpR op_isN (pv 0) pe_non (nomark _)) (pe_cmpR op_isN (pv 1) pe_non (nomark _)) (nomark _)) (pe_and (pe_or (pe_cmpR op_isN (pv 1) pe_non (nomark _)) (pe_one (pe_callB call_isi (by rfl) T.n_isinstance bo_isinstance (pa_cons (pv 0) (pa_cons (pe_bltn (v := .ty "bool") (by rfl) T.n_bool bo_bool rfl) pa_nil))))) (pe_one (pe_cmpR op_eq (pv 0) (pv 1) (nomark _)))))))
  pss_nil)
(pss_cons (ps_if (pt_val (pe_callB call_isi (by rfl) T.n_isinstance bo_isinstance (pa_cons (pv 1) (pa_cons (pe_bltn (v := .ty "int") (by rfl) T.n_int bo_int rfl) pa_nil))))
  (pss_one (ps_ret (pe_and (pe_callB call_isi (by rfl) T.n_isinstance bo_isinstance (pa_cons (pv 0) (pa_cons (pe_bltn (v := .ty "int") (by rfl) T.n_int bo_int rfl) pa_nil))) (pe_and (pe_not (pe_callB call_isi (by rfl) T.n_isinstance bo_isinstance (pa_cons (pv 0) (pa_cons (pe_bltn (v := .ty "bool") (by rfl) T.n_bool bo_bool rfl) pa_nil)))) (pe_one (pe_cmpR op_eq (pv 0) (pv 1) (nomark _)))))))
  pss_nil)
(pss_one (ps_ret (pe_and (pe_callB call_isi (by rfl) T.n_isinstance bo_isinstance (pa_cons (pv 0) (pa_cons (pe_bltn (v := .ty "str") (by rfl) T.n_str bo_str rfl) pa_nil))) (pe_one (pe_cmpR op_eq (pv 0) (pv 1) (nomark _))))))))), ?_⟩
    -- the part behind the lengths, for lists and for tuples
    rcases hs with ⟨rfl, ⟨x, rfl⟩ | ⟨x, rfl⟩ | ⟨x, rfl⟩ | rfl⟩ | ⟨p, q, xs, ys, rfl, rfl, hh, hl, hz, hall⟩
    · refine ⟨_, rfl, _, _, _, _, _, rfl, .ty _, .base (.str x), kST, _, rfl, iteF ⟨_, rfl, _, _, _, _, _, rfl, .ty _, .base (.str x), kSL, _, rfl, iteF ?_⟩⟩
      refine ⟨_, rfl, rfl, _, rfl, iteDF (by simp) ⟨_, rfl, _, _, _, _, _, rfl, .ty _, .base (.str x), kSB, _, rfl, iteF ?_⟩⟩
      refine ⟨_, rfl, _, _, _, _, _, rfl, .ty _, .base (.str x), kSI, _, rfl, iteF ?_⟩
      refine ⟨_, rfl, _, _, _, _, _, rfl, .ty _, .base (.str x), kSS, _, rfl, iteT ⟨_, rfl, _, rfl, rfl, ?_⟩⟩
      rw [decide_eq_true rfl]; exact k
    · refine ⟨_, rfl, _, _, _, _, _, rfl, .ty _, .base (.int x), kIT, _, rfl, iteF ⟨_, rfl, _, _, _, _, _, rfl, .ty _, .base (.int x), kIL, _, rfl, iteF ?_⟩⟩
      refine ⟨_, rfl, rfl, _, rfl, iteDF (by simp) ⟨_, rfl, _, _, _, _, _, rfl, .ty _, .base (.int x), kIB, _, rfl, iteF ?_⟩⟩
      refine ⟨_, rfl, _, _, _, _, _, rfl, .ty _, .base (.int x), kII, _, rfl, iteT ?_⟩
      refine ⟨_, rfl, _, _, _, _, _, rfl, .ty _, .base (.int x), kII, _, rfl, iteT ⟨_, rfl, _, _, _, _, _, rfl, .ty _, .base (.int x), kIB, _, rfl, _, rfl, iteT ⟨_, rfl, _, rfl, rfl, ?_⟩⟩⟩
      rw [decide_eq_true rfl]; exact k
    · refine ⟨_, rfl, _, _, _, _, _, rfl, .ty _, .base (.bl x), kBT, _, rfl, iteF ⟨_, rfl, _, _, _, _, _, rfl, .ty _, .base (.bl x), kBL, _, rfl, iteF ?_⟩⟩
      refine ⟨_, rfl, rfl, _, rfl, iteDF (by simp) ⟨_, rfl, _, _, _, _, _, rfl, .ty _, .base (.bl x), kBB, _, rfl, iteT ?_⟩⟩
      refine ⟨_, rfl, rfl, _, rfl, rfl, rfl, _, rfl, iteDT (by simp) ?_⟩
      refine ⟨_, rfl, rfl, _, rfl, iteDF (by simp) ?_⟩
      refine ⟨_, rfl, _, _, _, _, _, rfl, .ty _, .base (.bl x), kBB, ?_⟩
      refine ⟨_, rfl, iteT ⟨_, rfl, _, rfl, rfl, ?_⟩⟩
      rw [decide_eq_true rfl]; exact k
    · refine ⟨_, rfl, _, _, _, _, _, rfl, .ty _, .base .non, kNT, _, rfl, iteF ⟨_, rfl, _, _, _, _, _, rfl, .ty _, .base .non, kNL, _, rfl, iteF ?_⟩⟩
      refine ⟨_, rfl, rfl, _, rfl, iteDT (by simp) ?_⟩
      refine ⟨_, rfl, rfl, _, rfl, rfl, rfl, _, rfl, iteDT (by simp) ?_⟩
      refine ⟨_, rfl, rfl, _, rfl, iteDT (by simp) ?_⟩
      refine ⟨_, rfl, iteT ⟨_, rfl, _, rfl, rfl, ?_⟩⟩
      rw [decide_eq_true rfl]; exact k
    · obtain ⟨t, b1, b2, ty1, ty2, k1, k2, hb, sq⟩ : ∃ (t : Value) (b1 b2 : Bool), TyX K H (.ref p) t ∧ TyX K H (.ref q) t ∧ PySem.W.kitOne K t (.type "tuple") = some b1 ∧ PySem.W.kitOne K t (.type "list") = some b2 ∧ (b1 = true ∨ b2 = true) ∧
          ((SqL K H p xs ∧ SqL K H q ys) ∨ (SqT K H p xs ∧ SqT K H q ys)) := by
        rcases hh with ⟨h1, h2⟩ | ⟨h1, h2⟩
        · exact ⟨_, _, _, .base (.lst h1), .base (.lst h2), kLT, kLL, .inr rfl, .inl ⟨SqL.of h1, SqL.of h2⟩⟩
        · exact ⟨_, _, _, h1.ty, h2.ty, kTT, kTL, .inl rfl, .inr ⟨h1.sq, h2.sq⟩⟩
      have sqp : SqL K H p xs ∨ SqT K H p xs := sq.elim (fun z => .inl z.1) fun z => .inr z.1
      have sqq : SqL K H q ys ∨ SqT K H q ys := sq.elim (fun z => .inl z.2) fun z => .inr z.2
      have bz : (ys.length : Int) < 2 ^ 62 := by
        have e : sizeLine = 16777216 := sizeLine_eq
        have : ys.length ≤ 16777216 := by omega
        omega
      -- the part behind the first test
      have rest : ∀ {D : Ends} {t1 : TS}, t1 D [some (.ref p), some (.ref q), none] H → t1 D [some (.ref p), some (.ref q), none] H := fun z => z
      refine ⟨_, rfl, _, _, _, _, _, rfl, .ty _, ty2, k1, _, rfl, iteB (fun e1 => ?_) (fun e1 => ⟨_, rfl, _, _, _, _, _, rfl, .ty _, ty2, k2, _, rfl, iteB (fun e2 => ?_) (fun e2 => ?_)⟩)⟩
      rotate_left 2
      · rcases hb with z | z
        · rw [e1] at z; cases z
        · rw [e2] at z; cases z
      all_goals
        refine ⟨_, rfl, _, _, _, _, _, rfl, .ty _, ty2, k1, _, rfl, _, _, _, _, _, rfl, .ty _, ty1, k1, rfl, _, rfl, iteNF (by simp) ?_⟩
        refine ⟨_, rfl, _, _, _, _, _, rfl, .ty _, ty2, k2, _, rfl, _, _, _, _, _, rfl, .ty _, ty1, k2, rfl, _, rfl, iteNF (by simp) ?_⟩
        refine ⟨_, rfl, _, _, rfl, sqp, _, rfl, _, _, rfl, sqq, rfl, _, rfl, iteNF (by rw [hl]) ?_⟩
        refine ⟨_, rfl, _, _, rfl, sqq, _, rfl, by omega, bz, for_range (lo := 0) (n := ys.length) (fun i σ H' => ∃ kv, σ = [some (.ref p), some (.ref q), kv] ∧ H' = H) ⟨none, rfl, rfl⟩ ?_ ?_⟩
        · rintro i σ H' hi ⟨kv, rfl, rfl⟩
          have hx : xs[i]? = some (xs[i]'(by omega)) := List.getElem?_eq_getElem _
          have hy : ys[i]? = some ys[i] := List.getElem?_eq_getElem _
          have e0 : (0 : Int) + (i : Int) = (i : Int) := by omega
          rw [e0]
          rcases sq with ⟨s1, s2⟩ | ⟨s1, s2⟩
          · refine ⟨_, rfl, _, rfl, .inl ⟨_, _, _, _, rfl, rfl, s1, atI_nat hx, _, rfl, _, rfl, .inl ⟨_, _, _, _, rfl, rfl, s2, atI_nat hy, ?_⟩⟩⟩
            exact ⟨_, _, rfl, hall i _ _ hx hy, _, rfl, iteF ⟨_, rfl, rfl⟩⟩
          · refine ⟨_, rfl, _, rfl, .inr (.inl ⟨_, _, _, _, rfl, rfl, s1, atI_nat hx, _, rfl, _, rfl, .inr (.inl ⟨_, _, _, _, rfl, rfl, s2, atI_nat hy, ?_⟩)⟩)⟩
            exact ⟨_, _, rfl, hall i _ _ hx hy, _, rfl, iteF ⟨_, rfl, rfl⟩⟩
        · rintro σ H' ⟨kv, rfl, rfl⟩
          exact k
end

/-! expressions: data, values, folding -/
inductive Ex where
  | num (n : Int)
  | var (x : Str)
  | long
  | view (e : Ex)
  | pick (x : Str) (l r : Ex)
  | op (s : Str) (l r : Ex)
def dEx : Ex → PyData
  | .num n => .tuple [.str "number", .int n]
  | .var x => .tuple [.str "variable", .str x]
  | .long => .tuple [.str "long"]
  | .view e => .tuple [.str "view", dEx e]
  | .pick x l r => .tuple [.str "pick", .str x, dEx l, dEx r]
  | .op s l r => .tuple [.str s, dEx l, dEx r]
def Ex.dep : Ex → Nat
  | .num _ => 1
  | .var _ => 1
  | .long => 1
  | .view e => e.dep + 1
  | .pick _ l r => max l.dep r.dep + 1
  | .op _ l r => max l.dep r.dep + 1
theorem Ex.dep_pos : ∀ e : Ex, 1 ≤ e.dep
  | .num _ => Nat.le_refl _
  | .var _ => Nat.le_refl _
  | .long => Nat.le_refl _
  | .view e => by unfold Ex.dep; omega
  | .pick _ l r => by unfold Ex.dep; omega
  | .op _ l r => by unfold Ex.dep; omega
def sgL : List Str := ["+", "-", "*", "/", "mod", "<", "="]
def strOK (x : Str) : Bool := x.cps.all (· < 0x110000)
def Ex.Ok (ns ps : List Str) : Ex → Prop
  | .num n => 0 ≤ n ∧ n < 65536
  | .var x => x ∈ ns
  | .long => True
  | .view e => e.Ok ns ps
  | .pick x l r => x ∈ ps ∧ l.Ok ns ps ∧ r.Ok ns ps
  | .op s l r => s ∈ sgL ∧ l.Ok ns ps ∧ r.Ok ns ps
inductive EV (K : PySem.W.Frag) (H : Hp) : V → Ex → Prop
  | num {a : Addr} {n : Int} : At K H a [.str "number", .int n] → EV K H (.ref a) (.num n)
  | var {a : Addr} {x : Str} : At K H a [.str "variable", .str x] → EV K H (.ref a) (.var x)
  | long {a : Addr} : At K H a [.str "long"] → EV K H (.ref a) .long
  | view {a : Addr} {v : V} {e : Ex} : At K H a [.str "view", v] → EV K H v e → EV K H (.ref a) (.view e)
  | pick {a : Addr} {x : Str} {v u : V} {l r : Ex} : At K H a [.str "pick", .str x, v, u] → EV K H v l → EV K H u r → EV K H (.ref a) (.pick x l r)
  | op {a : Addr} {s : Str} {v u : V} {l r : Ex} : At K H a [.str s, v, u] → EV K H v l → EV K H u r → EV K H (.ref a) (.op s l r)
theorem EV.tk {K : PySem.W.Frag} {H H' : Hp} (k : TK H H') {v : V} {e : Ex} (h : EV K H v e) : EV K H' v e := by
  induction h with
  | num h => exact .num (h.tk k)
  | var h => exact .var (h.tk k)
  | long h => exact .long (h.tk k)
  | view h _ i => exact .view (h.tk k) i
  | pick h _ _ i j => exact .pick (h.tk k) i j
  | op h _ _ i j => exact .op (h.tk k) i j
theorem EV.dp {K : PySem.W.Frag} {H : Hp} {v : V} {e : Ex} (h : EV K H v e) : Dp K H v (dEx e) := by
  induction h with
  | num h => exact .tup h.sq (.cons (.str _) (.cons (.int _) .nil))
  | var h => exact .tup h.sq (.cons (.str _) (.cons (.str _) .nil))
  | long h => exact .tup h.sq (.cons (.str _) .nil)
  | view h _ i => exact .tup h.sq (.cons (.str _) (.cons i .nil))
  | pick h _ _ i j => exact .tup h.sq (.cons (.str _) (.cons (.str _) (.cons i (.cons j .nil))))
  | op h _ _ i j => exact .tup h.sq (.cons (.str _) (.cons i (.cons j .nil)))
theorem paired_get {F : V → V → Prop} {xs ys : List V} (h : Paired F xs ys) : xs.length = ys.length ∧ ∀ (i : Nat) x y, xs[i]? = some x → ys[i]? = some y → F x y := by
  induction h with
  | nil => exact ⟨rfl, fun i x y h => by simp at h⟩
  | cons h _ ih =>
    refine ⟨by rw [List.length_cons, List.length_cons, ih.1], fun i x y hx hy => ?_⟩
    cases i with
    | zero => simp at hx hy; subst hx hy; exact h
    | succ i => exact ih.2 i x y (by simpa using hx) (by simpa using hy)
theorem sameT {K : PySem.W.Frag} {H : Hp} {n : Nat} {p q : Addr} {xs ys : List V} (h1 : At K H p xs) (h2 : At K H q ys) (h : Paired (SameV K n H) xs ys) (hl : xs.length ≤ 1000000) : SameV K (n + 1) H (.ref p) (.ref q) :=
  .inr ⟨p, q, _, _, rfl, rfl, .inr ⟨h1, h2⟩, (paired_get h).1, smallM hl, (paired_get h).2⟩
theorem same_ev {K : PySem.W.Frag} {H : Hp} {v : V} {e : Ex} (h : EV K H v e) : ∀ {u : V} {n : Nat}, EV K H u e → e.dep ≤ n → SameV K (n + 1) H v u := by
  have st : ∀ {n : Nat} (x : Str), SameV K (n + 1) H (.str x) (.str x) := fun x => .inl ⟨rfl, .inl ⟨x, rfl⟩⟩
  have it : ∀ {n : Nat} (x : Int), SameV K (n + 1) H (.int x) (.int x) := fun x => .inl ⟨rfl, .inr (.inl ⟨x, rfl⟩)⟩
  induction h with
  | num h =>
    intro u n g d
    obtain ⟨n, rfl⟩ : ∃ m, n = m + 1 := ⟨n - 1, by have : (1 : Nat) ≤ n := d; omega⟩
    cases g with
    | num g => exact sameT h g (.cons (st _) (.cons (it _) .nil)) (by simp)
  | var h =>
    intro u n g d
    obtain ⟨n, rfl⟩ : ∃ m, n = m + 1 := ⟨n - 1, by have : (1 : Nat) ≤ n := d; omega⟩
    cases g with
    | var g => exact sameT h g (.cons (st _) (.cons (st _) .nil)) (by simp)
  | long h =>
    intro u n g d
    obtain ⟨n, rfl⟩ : ∃ m, n = m + 1 := ⟨n - 1, by have : (1 : Nat) ≤ n := d; omega⟩
    cases g with
    | long g => exact sameT h g (.cons (st _) .nil) (by simp)
  | view h _ i =>
    intro u n g d
    unfold Ex.dep at d
    obtain ⟨n, rfl⟩ : ∃ m, n = m + 1 := ⟨n - 1, by omega⟩
    cases g with
    | view g g1 => exact sameT h g (.cons (st _) (.cons (i g1 (by omega)) .nil)) (by simp)
  | pick h _ _ i j =>
    intro u n g d
    unfold Ex.dep at d
    obtain ⟨n, rfl⟩ : ∃ m, n = m + 1 := ⟨n - 1, by omega⟩
    cases g with
    | pick g g1 g2 => exact sameT h g (.cons (st _) (.cons (st _) (.cons (i g1 (by omega)) (.cons (j g2 (by omega)) .nil)))) (by simp)
  | op h _ _ i j =>
    intro u n g d
    unfold Ex.dep at d
    obtain ⟨n, rfl⟩ : ∃ m, n = m + 1 := ⟨n - 1, by omega⟩
    cases g with
    | op g g1 g2 => exact sameT h g (.cons (st _) (.cons (i g1 (by omega)) (.cons (j g2 (by omega)) .nil))) (by simp)
def EQ (a b : Ex) : Bool := PyData.eqv (dEx a) (dEx b)
def dL : Ex → List PyData
  | .num n => [.str "number", .int n]
  | .var x => [.str "variable", .str x]
  | .long => [.str "long"]
  | .view e => [.str "view", dEx e]
  | .pick x l r => [.str "pick", .str x, dEx l, dEx r]
  | .op s l r => [.str s, dEx l, dEx r]
theorem dEx_eq (e : Ex) : dEx e = .tuple (dL e) := by cases e <;> rfl
theorem eqvA_cons (x y : PyData) (xs ys : List PyData) : PyData.eqvAll (x :: xs) (y :: ys) = (PyData.eqv x y && PyData.eqvAll xs ys) := by rw [PyData.eqvAll]
theorem eqvA_len : ∀ xs ys : List PyData, PyData.eqvAll xs ys = true → xs.length = ys.length
  | [], [], _ => rfl
  | [], _ :: _, h => by simp [PyData.eqvAll] at h
  | _ :: _, [], h => by simp [PyData.eqvAll] at h
  | x :: xs, y :: ys, h => by
    rw [eqvA_cons, Bool.and_eq_true] at h
    rw [List.length_cons, List.length_cons, eqvA_len xs ys h.2]
theorem eqv_tup (xs ys : List PyData) : PyData.eqv (.tuple xs) (.tuple ys) = PyData.eqvAll xs ys := by rw [PyData.eqv]
theorem eqv_ti (xs : List PyData) (n : Int) : PyData.eqv (.tuple xs) (.int n) = false := by simp [PyData.eqv]
theorem eqv_it (xs : List PyData) (n : Int) : PyData.eqv (.int n) (.tuple xs) = false := by simp [PyData.eqv]
theorem eqv_ts (xs : List PyData) (n : Str) : PyData.eqv (.tuple xs) (.str n) = false := by simp [PyData.eqv]
theorem eqv_st (xs : List PyData) (n : Str) : PyData.eqv (.str n) (.tuple xs) = false := by simp [PyData.eqv]
theorem eqv_is (m : Int) (n : Str) : PyData.eqv (.int m) (.str n) = false := by simp [PyData.eqv]
theorem eqv_si (m : Int) (n : Str) : PyData.eqv (.str n) (.int m) = false := by simp [PyData.eqv]
theorem eqv_ii {m n : Int} (h : PyData.eqv (.int m) (.int n) = true) : m = n := by simpa [PyData.eqv] using h
theorem eqv_ss {m n : Str} (h : PyData.eqv (.str m) (.str n) = true) : m = n := by simpa [PyData.eqv] using h
theorem eq_sound : ∀ a b : Ex, EQ a b = true → a = b := by
  intro a
  have hEQ : ∀ x y : Ex, EQ x y = PyData.eqvAll (dL x) (dL y) := fun x y => by unfold EQ; rw [dEx_eq, dEx_eq, eqv_tup]
  induction a with
  | num n =>
    intro b h
    rw [hEQ] at h
    have hl := eqvA_len _ _ h
    cases b with
    | num m => simp only [dL, eqvA_cons, Bool.and_eq_true] at h; rw [eqv_ii h.2.1]
    | var m => simp only [dL, eqvA_cons, Bool.and_eq_true, eqv_is] at h; exact absurd h.2.1 (by simp)
    | view m => simp only [dL, eqvA_cons, Bool.and_eq_true] at h; rw [dEx_eq, eqv_it] at h; exact absurd h.2.1 (by simp)
    | _ => simp [dL] at hl
  | var n =>
    intro b h
    rw [hEQ] at h
    have hl := eqvA_len _ _ h
    cases b with
    | num m => simp only [dL, eqvA_cons, Bool.and_eq_true, eqv_si] at h; exact absurd h.2.1 (by simp)
    | var m => simp only [dL, eqvA_cons, Bool.and_eq_true] at h; rw [eqv_ss h.2.1]
    | view m => simp only [dL, eqvA_cons, Bool.and_eq_true] at h; rw [dEx_eq, eqv_st] at h; exact absurd h.2.1 (by simp)
    | _ => simp [dL] at hl
  | long =>
    intro b h
    rw [hEQ] at h
    have hl := eqvA_len _ _ h
    cases b with
    | long => rfl
    | _ => simp [dL] at hl
  | view e i =>
    intro b h
    rw [hEQ] at h
    have hl := eqvA_len _ _ h
    cases b with
    | num m => simp only [dL, eqvA_cons, Bool.and_eq_true] at h; rw [dEx_eq, eqv_ti] at h; exact absurd h.2.1 (by simp)
    | var m => simp only [dL, eqvA_cons, Bool.and_eq_true] at h; rw [dEx_eq, eqv_ts] at h; exact absurd h.2.1 (by simp)
    | view m => simp only [dL, eqvA_cons, Bool.and_eq_true] at h; rw [i m h.2.1]
    | _ => simp [dL] at hl
  | pick x l r i j =>
    intro b h
    rw [hEQ] at h
    have hl := eqvA_len _ _ h
    cases b with
    | pick y l' r' => simp only [dL, eqvA_cons, Bool.and_eq_true] at h; rw [eqv_ss h.2.1, i l' h.2.2.1, j r' h.2.2.2.1]
    | _ => simp [dL] at hl
  | op x l r i j =>
    intro b h
    rw [hEQ] at h
    have hl := eqvA_len _ _ h
    cases b with
    | op y l' r' => simp only [dL, eqvA_cons, Bool.and_eq_true] at h; rw [eqv_ss h.1, i l' h.2.1, j r' h.2.2.1]
    | _ => simp [dL] at hl
theorem sg_ok : ∀ s ∈ sgL, PyData.strOk s = true := by decide +kernel
theorem kw_ok : PyData.strOk "number" = true ∧ PyData.strOk "variable" = true ∧ PyData.strOk "long" = true ∧ PyData.strOk "view" = true ∧ PyData.strOk "pick" = true := by decide +kernel
theorem canLay_ex {ns ps : List Str} (hn : ∀ x ∈ ns, PyData.strOk x = true) (hp : ∀ x ∈ ps, PyData.strOk x = true) : ∀ e : Ex, e.Ok ns ps → (dEx e).canLay0 = true
  | .num _, _ => by simp only [dEx, PyData.canLay0, PyData.canLayAll0, Bool.and_true, kw_ok.1]
  | .var x, h => by simp only [dEx, PyData.canLay0, PyData.canLayAll0, Bool.and_true, hn x h, kw_ok.2.1]
  | .long, _ => by simp only [dEx, PyData.canLay0, PyData.canLayAll0, Bool.and_true, kw_ok.2.2.1]
  | .view e, h => by
    simp only [dEx, PyData.canLay0, PyData.canLayAll0, Bool.and_true, canLay_ex hn hp e h, kw_ok.2.2.2.1]
  | .pick x l r, ⟨h1, h2, h3⟩ => by
    simp only [dEx, PyData.canLay0, PyData.canLayAll0, Bool.and_true, canLay_ex hn hp l h2, canLay_ex hn hp r h3, hp x h1, kw_ok.2.2.2.2]
  | .op s l r, ⟨h1, h2, h3⟩ => by
    simp only [dEx, PyData.canLay0, PyData.canLayAll0, Bool.and_true, canLay_ex hn hp l h2, canLay_ex hn hp r h3, sg_ok s h1]
theorem depth_ex : ∀ e : Ex, (dEx e).depth ≤ e.dep + 1
  | .num _ => by simp [dEx, PyData.depth, PyData.depthAll, Ex.dep]
  | .var x => by simp [dEx, PyData.depth, PyData.depthAll, Ex.dep]
  | .long => by simp [dEx, PyData.depth, PyData.depthAll, Ex.dep]
  | .view e => by have := depth_ex e; simp only [dEx, PyData.depth, PyData.depthAll, Ex.dep]; omega
  | .pick x l r => by have := depth_ex l; have := depth_ex r; simp only [dEx, PyData.depth, PyData.depthAll, Ex.dep]; omega
  | .op s l r => by have := depth_ex l; have := depth_ex r; simp only [dEx, PyData.depth, PyData.depthAll, Ex.dep]; omega
def NamesOk (ns : List Str) : Prop := ∀ x ∈ ns, PyData.strOk x = true
theorem shaped_ex {ns ps : List Str} (hn : NamesOk ns) (hp : NamesOk ps) {e : Ex} (h : e.Ok ns ps) (hd : e.dep ≤ 60) : SeqAt.shaped (dEx e) = true := by
  unfold SeqAt.shaped
  rw [Bool.and_eq_true]
  exact ⟨canLay_ex hn hp e h, decide_eq_true (by have := depth_ex e; omega)⟩
def comb (s : Str) (a b : Int) : Int :=
  if s = "+" then (a + b) % 65536 else if s = "-" then (if a - b > 0 then a - b else 0) else if s = "*" then a * b % 65536 else if s = "/" then (if b > 0 then a / b else 0)
  else if s = "mod" then (if b > 0 then a % b else 0) else if s = "<" then (if a < b then 1 else 0) else (if a = b then 1 else 0)
theorem comb_add (a b : Int) : comb "+" a b = (a + b) % 65536 := by unfold comb; rw [if_pos rfl]
theorem comb_sub (a b : Int) : comb "-" a b = if a - b > 0 then a - b else 0 := by unfold comb; rw [if_neg (by decide +kernel), if_pos rfl]
theorem comb_mul (a b : Int) : comb "*" a b = a * b % 65536 := by unfold comb; rw [if_neg (by decide +kernel), if_neg (by decide +kernel), if_pos rfl]
theorem comb_div (a b : Int) : comb "/" a b = if b > 0 then a / b else 0 := by unfold comb; rw [if_neg (by decide +kernel), if_neg (by decide +kernel), if_neg (by decide +kernel), if_pos rfl]
theorem comb_mod (a b : Int) : comb "mod" a b = if b > 0 then a % b else 0 := by unfold comb; rw [if_neg (by decide +kernel), if_neg (by decide +kernel), if_neg (by decide +kernel), if_neg (by decide +kernel), if_pos rfl]
theorem comb_lt (a b : Int) : comb "<" a b = if a < b then 1 else 0 := by unfold comb; rw [if_neg (by decide +kernel), if_neg (by decide +kernel), if_neg (by decide +kernel), if_neg (by decide +kernel), if_neg (by decide +kernel), if_pos rfl]
theorem comb_eq (a b : Int) : comb "=" a b = if a = b then 1 else 0 := by unfold comb; rw [if_neg (by decide +kernel), if_neg (by decide +kernel), if_neg (by decide +kernel), if_neg (by decide +kernel), if_neg (by decide +kernel), if_neg (by decide +kernel)]
theorem sg_cases {s : Str} (h : s ∈ sgL) : s = "+" ∨ s = "-" ∨ s = "*" ∨ s = "/" ∨ s = "mod" ∨ s = "<" ∨ s = "=" := by
  simpa [sgL] using h
theorem comb_range {s : Str} {a b : Int} (h : s ∈ sgL) (a0 : 0 ≤ a) (a1 : a < 65536) (b0 : 0 ≤ b) (b1 : b < 65536) : 0 ≤ comb s a b ∧ comb s a b < 65536 := by
  rcases sg_cases h with rfl | rfl | rfl | rfl | rfl | rfl | rfl
  · rw [comb_add]; omega
  · rw [comb_sub]; split <;> omega
  · rw [comb_mul]; exact ⟨Int.emod_nonneg _ (by decide), Int.emod_lt_of_pos _ (by decide)⟩
  · rw [comb_div]
    split
    · exact ⟨Int.ediv_nonneg a0 b0, Int.lt_of_le_of_lt (Int.ediv_le_self _ a0) a1⟩
    · omega
  · rw [comb_mod]
    split
    · rename_i hb
      have := Int.emod_lt_of_pos a hb
      exact ⟨Int.emod_nonneg _ (by omega), by omega⟩
    · omega
  · rw [comb_lt]; split <;> omega
  · rw [comb_eq]; split <;> omega
def val (tb : Str → Int) (on : Str → Bool) (seen : List Int) : Ex → Int
  | .num n => n
  | .var x => tb x
  | .long => if (65535 : Int) < seen.length then 65535 else seen.length
  | .view e => if val tb on seen e < seen.length then seen.getD (val tb on seen e).toNat 0 else 0
  | .pick x l r => if on x = true then val tb on seen l else val tb on seen r
  | .op s l r => comb s (val tb on seen l) (val tb on seen r)
def TbOk (ns : List Str) (tb : Str → Int) : Prop := ∀ x ∈ ns, 0 ≤ tb x ∧ tb x < 65536
def SeenOk (seen : List Int) : Prop := ∀ x ∈ seen, 0 ≤ x ∧ x < 65536
theorem val_range {ns ps : List Str} {tb : Str → Int} {on : Str → Bool} {seen : List Int} (ht : TbOk ns tb) (hs : SeenOk seen) : ∀ e : Ex, e.Ok ns ps → 0 ≤ val tb on seen e ∧ val tb on seen e < 65536
  | .num n, h => h
  | .var x, h => ht x h
  | .long, _ => by unfold val; split <;> omega
  | .view e, h => by
    unfold val
    split
    · rename_i q
      have := val_range (on := on) ht hs e h
      have hl : (val tb on seen e).toNat < seen.length := by omega
      rw [List.getD_eq_getElem?_getD, List.getElem?_eq_getElem hl]
      exact hs _ (List.getElem_mem hl)
    · omega
  | .pick x l r, ⟨_, h2, h3⟩ => by
    unfold val
    split
    · exact val_range ht hs l h2
    · exact val_range ht hs r h3
  | .op s l r, ⟨h1, h2, h3⟩ => by
    unfold val
    have a := val_range (on := on) ht hs l h2
    have b := val_range (on := on) ht hs r h3
    exact comb_range h1 a.1 a.2 b.1 b.2
/-! the heap's parts for a value -/
def DcB (H : Hp) (a : Addr) (ps : List Str) (on : Str → Bool) : Prop := ∃ kvs : List (Key × V), H a = some (.dK kvs) ∧ ∀ x ∈ ps, valV kvs (.inr x) = some (.bl (on x))
def DcI (H : Hp) (a : Addr) (ns : List Str) (tb : Str → Int) : Prop := ∃ kvs : List (Key × V), H a = some (.dK kvs) ∧ ∀ x ∈ ns, valV kvs (.inr x) = some (.int (tb x))
theorem DcB.get {H : Hp} {a : Addr} {ps : List Str} {on : Str → Bool} (h : DcB H a ps on) {x : Str} (hx : x ∈ ps) : DGet H a (.str x) (some (.bl (on x))) := by
  obtain ⟨kvs, e, q⟩ := h
  rw [← q x hx]
  exact DGet.k (k := .inr x) e
theorem DcI.get {H : Hp} {a : Addr} {ps : List Str} {on : Str → Int} (h : DcI H a ps on) {x : Str} (hx : x ∈ ps) : DGet H a (.str x) (some (.int (on x))) := by
  obtain ⟨kvs, e, q⟩ := h
  rw [← q x hx]
  exact DGet.k (k := .inr x) e

theorem nes {x y : Str} (h : x ≠ y) : ¬ V.str x = V.str y := fun z => h (V.str.inj z)
theorem sg_not : ∀ s ∈ sgL, s ≠ "number" ∧ s ≠ "variable" ∧ s ≠ "long" ∧ s ≠ "view" ∧ s ≠ "pick" := by decide +kernel
def sp_combine : Sp := fun vs H Q _ => ∃ s a b, vs = [.str s, .int a, .int b] ∧ s ∈ sgL ∧ 0 ≤ a ∧ a < 65536 ∧ 0 ≤ b ∧ b < 65536 ∧ Q (.int (comb s a b)) H
structure VEnv (K : PySem.W.Frag) (H : Hp) (td od sa : Addr) (ns ps : List Str) (tb : Str → Int) (on : Str → Bool) (seen : List Int) : Prop where
  t : DcI H td ns tb
  o : DcB H od ps on
  s : SqT K H sa (seen.map V.int)
  tok : TbOk ns tb
  sok : SeenOk seen
  len : seen.length ≤ 1000000
def sp_value (K : PySem.W.Frag) (n : Nat) : Sp := fun vs H Q _ => ∃ v td od sa e ns ps tb on seen, vs = [v, .ref td, .ref od, .ref sa] ∧ EV K H v e ∧ e.Ok ns ps ∧ e.dep ≤ n ∧ VEnv K H td od sa ns ps tb on seen ∧ Q (.int (val tb on seen e)) H
theorem ev_range {K : PySem.W.Frag} {H : Hp} {v : V} {e : Ex} {ns ps : List Str} {tb : Str → Int} {on : Str → Bool} {seen : List Int} (ht : TbOk ns tb) (hs : SeenOk seen) (_ : EV K H v e) (h : e.Ok ns ps) : 0 ≤ val tb on seen e ∧ val tb on seen e < 65536 := val_range ht hs e h
theorem seen_at {seen : List Int} {z : Int} (h0 : 0 ≤ z) (h : z < seen.length) : atI (seen.map V.int) z = some (.int (seen.getD z.toNat 0)) := by
  obtain ⟨m, rfl⟩ : ∃ m : Nat, z = (m : Int) := ⟨z.toNat, by omega⟩
  have hm : m < seen.length := by omega
  refine atI_nat ?_
  rw [List.getElem?_map, List.getD_eq_getElem?_getD, Int.toNat_natCast, List.getElem?_eq_getElem hm]; rfl
section
variable {P : Program} {w : World} {K : PySem.W.Frag} {mg : Str → Option Value} {base : Heap} {C_Ratio : Addr} {C_Tape : Addr} {C_Thinker : Addr} {C_Brain : Addr} {C_GameError : Addr} {C_TooLarge : Addr} {f_TooLarge___init : Addr} {T_EVENTS : Addr}
theorem ok_combine {f : Addr} {fd : FuncData} (D : C8.Def K mg "combine" s_combine f fd) (b : Binds K fd ["sign", "left", "right"] []) (T : Txt K mg C_Ratio C_Tape C_Thinker C_Brain C_GameError C_TooLarge T_EVENTS) {k : Nat} : C8.Cal P w K mg base (k + 1) "combine" sp_combine [] := by
  refine cal0 D b .nil sc_combine (fun vs H Q E h => ?_) (fun cdv A outer s H vs Q E hr h => ?_)
  · obtain ⟨s, a, b, rfl, _⟩ := h
    rfl
  · obtain ⟨s, x, y, rfl, hs, x0, x1, y0, y1, k⟩ := h
    refine ⟨_, (pss_cons (ps_if (pt_cmpR op_eq (pv 0) pe_str (nomark _))
  (pss_one (ps_ret (pe_op op_mod (pe_op op_add (pv 1) (pv 2)) (pe_op op_add (pe_gc rfl T.v_GREATEST) pe_int))))
  pss_nil)
(pss_cons (ps_if (pt_cmpR op_eq (pv 0) pe_str (nomark _))
  (pss_one (ps_ret (pe_callB (call_max2 rfl) (by rfl) T.n_max bo_max (pa_cons pe_int (pa_cons (pe_op op_sub (pv 1) (pv 2)) pa_nil)))))
  pss_nil)
(pss_cons (ps_if (pt_cmpR op_eq (pv 0) pe_str (nomark _))
  (pss_one (ps_ret (pe_op op_mod (pe_op op_mul (pv 1) (pv 2)) (pe_op op_add (pe_gc rfl T.v_GREATEST) pe_int))))
  pss_nil)
(pss_cons (ps_if (pt_cmpR op_eq (pv 0) pe_str (nomark _))
  (pss_one (ps_ret (pe_ifExp (pt_cmpR op_gt (pv 2) pe_int (nomark _)) (pe_op op_fdiv (pv 1) (pv 2)) pe_int)))
  pss_nil)
(pss_cons (ps_if (pt_cmpR op_eq (pv 0) pe_str (nomark _))
  (pss_one (ps_ret (pe_ifExp (pt_cmpR op_gt (pv 2) pe_int (nomark _)) (pe_op op_mod (pv 1) (pv 2)) pe_int)))
  pss_nil)
(pss_cons (ps_if (pt_cmpR op_eq (pv 0) pe_str (nomark _))
  (pss_one (ps_ret (pe_callTy call_int1 (by rfl) T.n_int bo_int (pa_cons (pe_cmpR op_lt (pv 1) (pv 2) (nomark _)) pa_nil))))
  pss_nil)
(pss_one (ps_ret (pe_callTy call_int1 (by rfl) T.n_int bo_int (pa_cons (pe_cmpR op_eq (pv 1) (pv 2) (nomark _)) pa_nil)))))))))), ?_⟩
    refine ⟨_, rfl, rfl, _, rfl, iteD (fun e => ?_) (fun e1 => ?_)⟩
    · rw [V.str.inj e, comb_add] at k
      exact ⟨_, rfl, _, rfl, _, _, rfl, rfl, _, _, rfl, rfl, _, _, rfl, rfl, (by show (0 : Int) < _; decide), k⟩
    refine ⟨_, rfl, rfl, _, rfl, iteD (fun e => ?_) (fun e2 => ?_)⟩
    · rw [V.str.inj e, comb_sub] at k
      exact ⟨_, rfl, _, rfl, _, _, rfl, rfl, _, _, rfl, k⟩
    refine ⟨_, rfl, rfl, _, rfl, iteD (fun e => ?_) (fun e3 => ?_)⟩
    · rw [V.str.inj e, comb_mul] at k
      exact ⟨_, rfl, _, rfl, _, _, rfl, rfl, .inl ⟨by omega, by omega⟩, _, _, rfl, rfl, _, _, rfl, rfl, (by show (0 : Int) < _; decide), k⟩
    refine ⟨_, rfl, rfl, _, rfl, iteD (fun e => ?_) (fun e4 => ?_)⟩
    · rw [V.str.inj e, comb_div] at k
      refine ⟨_, rfl, _, _, rfl, rfl, _, rfl, iteD (fun h => ?_) (fun h => ?_)⟩
      · rw [if_pos h] at k
        exact ⟨_, rfl, _, rfl, _, _, rfl, rfl, ⟨h, by omega⟩, k⟩
      · rw [if_neg h] at k
        exact k
    refine ⟨_, rfl, rfl, _, rfl, iteD (fun e => ?_) (fun e5 => ?_)⟩
    · rw [V.str.inj e, comb_mod] at k
      refine ⟨_, rfl, _, _, rfl, rfl, _, rfl, iteD (fun h => ?_) (fun h => ?_)⟩
      · rw [if_pos h] at k
        exact ⟨_, rfl, _, rfl, _, _, rfl, rfl, h, k⟩
      · rw [if_neg h] at k
        exact k
    refine ⟨_, rfl, rfl, _, rfl, iteD (fun e => ?_) (fun e6 => ?_)⟩
    · rw [V.str.inj e, comb_lt] at k
      refine ⟨_, rfl, _, rfl, _, _, rfl, rfl, .inr ⟨_, rfl, ?_⟩⟩
      by_cases h : x < y
      · rw [if_pos h] at k; rw [decide_eq_true h]; exact k
      · rw [if_neg h] at k; rw [decide_eq_false h]; exact k
    · have hs7 : s = "=" := by
        rcases sg_cases hs with rfl | rfl | rfl | rfl | rfl | rfl | rfl
        · exact absurd rfl e1
        · exact absurd rfl e2
        · exact absurd rfl e3
        · exact absurd rfl e4
        · exact absurd rfl e5
        · exact absurd rfl e6
        · rfl
      rw [hs7, comb_eq] at k
      refine ⟨_, rfl, _, rfl, rfl, .inr ⟨_, rfl, ?_⟩⟩
      by_cases h : x = y
      · rw [if_pos h] at k; rw [decide_eq_true (congrArg V.int h)]; exact k
      · rw [if_neg h] at k; rw [decide_eq_false (fun z => h (V.int.inj z))]; exact k
theorem ok_value0 {f : Addr} {fd : FuncData} (D : C8.Def K mg "value_of" s_value_of f fd) {ds : List Value} (d : Vals [] ds) (b : Binds K fd ["expression", "table", "on", "seen"] ds) : C8.Cal P w K mg base 1 "value_of" (sp_value K 0) [] :=
  ⟨f, fd, ["expression", "table", "on", "seen"], ds, ⟨fun vs H Q E h => (by obtain ⟨v, td, od, sa, e, ns, ps, tb, on, seen, rfl, _⟩ := h; rfl), fun A outer s H args us vs Q E _ _ _ _ h => (by obtain ⟨v, td, od, sa, e, ns, ps, tb, on, seen, _, _, _, z, _⟩ := h; have := e.dep_pos; omega)⟩, D.mgf, D.kp, b, d⟩
theorem ok_value {f : Addr} {fd : FuncData} (D : C8.Def K mg "value_of" s_value_of f fd) {ds : List Value} {dvs : List V} (d : Vals dvs ds) (b : Binds K fd ["expression", "table", "on", "seen"] ds) (T : Txt K mg C_Ratio C_Tape C_Thinker C_Brain C_GameError C_TooLarge T_EVENTS) {n k : Nat}
    (c_value_of : C8.Cal P w K mg base k "value_of" (sp_value K n) []) (c_combine : C8.Cal P w K mg base k "combine" sp_combine []) : C8.Cal P w K mg base (k + 1) "value_of" (sp_value K (n + 1)) dvs := by
  refine cal0 D b d sc_value_of (fun vs H Q E h => ?_) (fun cdv A outer s H vs Q E hr h => ?_)
  · obtain ⟨v, td, od, sa, e, ns, ps, tb, on, seen, rfl, _⟩ := h
    rfl
  · obtain ⟨v, td, od, sa, e, ns, ps, tb, on, seen, rfl, he, hok, hd, V, k⟩ := h
    have hu := hu_of hr
    refine ⟨_, (pss_cons (ps_set (i := 4) sc_value_of.nd rfl (by first | exact Or.inl rfl | exact Or.inr rfl) (pe_ix ix_tup (pv 0) pe_int (fun _ _ => rfl)))
(pss_cons (ps_if (pt_cmpR op_eq (pv 4) pe_str (nomark _))
  (pss_one (ps_ret (pe_ix ix_tup (pv 0) pe_int (fun _ _ => rfl))))
  pss_nil)
(pss_cons (ps_if (pt_cmpR op_eq (pv 4) pe_str (nomark _))
  (pss_one (ps_ret (pe_dget hu (pv 1) (pe_ix ix_tup (pv 0) pe_int (fun _ _ => rfl)) (fun _ _ => rfl))))
  pss_nil)
(pss_cons (ps_if (pt_cmpR op_eq (pv 4) pe_str (nomark _))
  (pss_one (ps_ret (pe_callB (call_min2 rfl) (by rfl) T.n_min bo_min (pa_cons (pe_callB call_len_seq (by rfl) T.n_len bo_len (pa_cons (pv 3) pa_nil)) (pa_cons (pe_gc rfl T.v_GREATEST) pa_nil)))))
  pss_nil)
(pss_cons (ps_if (pt_cmpR op_eq (pv 4) pe_str (nomark _))
  (pss_cons (ps_set (i := 5) sc_value_of.nd rfl (by first | exact Or.inl rfl | exact Or.inr rfl) (pe_c c_value_of hr (by first | exact Nat.le_refl _ | decide | omega) rfl (pa_cons (pe_ix ix_tup (pv 0) pe_int (fun _ _ => rfl)) (pa_cons (pv 1) (pa_cons (pv 2) (pa_cons (pv 3) pa_nil))))))
  (pss_one (ps_ret (pe_ifExp (pt_cmpR op_lt (pv 5) (pe_callB call_len_seq (by rfl) T.n_len bo_len (pa_cons (pv 3) pa_nil)) (nomark _)) (pe_ix ix_tup (pv 3) (pv 5) (fun _ _ => rfl)) pe_int))))
  pss_nil)
(pss_cons (ps_if (pt_cmpR op_eq (pv 4) pe_str (nomark _))
  (pss_cons (ps_set (i := 6) sc_value_of.nd rfl (by first | exact Or.inl rfl | exact Or.inr rfl) (pe_ifExp (pt_val (pe_dget hu (pv 2) (pe_ix ix_tup (pv 0) pe_int (fun _ _ => rfl)) (fun _ _ => rfl))) (pe_ix ix_tup (pv 0) pe_int (fun _ _ => rfl)) (pe_ix ix_tup (pv 0) pe_int (fun _ _ => rfl))))
  (pss_one (ps_ret (pe_c c_value_of hr (by first | exact Nat.le_refl _ | decide | omega) rfl (pa_cons (pv 6) (pa_cons (pv 1) (pa_cons (pv 2) (pa_cons (pv 3) pa_nil))))))))
  pss_nil)
(pss_cons (ps_set (i := 7) sc_value_of.nd rfl (by first | exact Or.inl rfl | exact Or.inr rfl) (pe_c c_value_of hr (by first | exact Nat.le_refl _ | decide | omega) rfl (pa_cons (pe_ix ix_tup (pv 0) pe_int (fun _ _ => rfl)) (pa_cons (pv 1) (pa_cons (pv 2) (pa_cons (pv 3) pa_nil))))))
(pss_cons (ps_set (i := 8) sc_value_of.nd rfl (by first | exact Or.inl rfl | exact Or.inr rfl) (pe_c c_value_of hr (by first | exact Nat.le_refl _ | decide | omega) rfl (pa_cons (pe_ix ix_tup (pv 0) pe_int (fun _ _ => rfl)) (pa_cons (pv 1) (pa_cons (pv 2) (pa_cons (pv 3) pa_nil))))))
(pss_one (ps_ret (pe_c c_combine hr (by first | exact Nat.le_refl _ | decide | omega) rfl (pa_cons (pv 4) (pa_cons (pv 7) (pa_cons (pv 8) pa_nil)))))))))))))), ?_⟩
    cases he with
    | num h =>
      refine ⟨_, rfl, _, _, _, _, rfl, rfl, h.sq, rfl, _, rfl, rfl, _, rfl, iteDT rfl ?_⟩
      exact ⟨_, rfl, _, _, _, _, rfl, rfl, h.sq, rfl, k⟩
    | var h =>
      refine ⟨_, rfl, _, _, _, _, rfl, rfl, h.sq, rfl, _, rfl, rfl, _, rfl, iteDF (nes (by decide +kernel)) ?_⟩
      refine ⟨_, rfl, rfl, _, rfl, iteDT rfl ?_⟩
      exact ⟨_, rfl, _, rfl, _, _, _, _, rfl, rfl, h.sq, rfl, _, _, rfl, V.t.get hok, k⟩
    | long h =>
      refine ⟨_, rfl, _, _, _, _, rfl, rfl, h.sq, rfl, _, rfl, rfl, _, rfl, iteDF (nes (by decide +kernel)) ?_⟩
      refine ⟨_, rfl, rfl, _, rfl, iteDF (nes (by decide +kernel)) ?_⟩
      refine ⟨_, rfl, rfl, _, rfl, iteDT rfl ?_⟩
      refine ⟨_, rfl, _, _, rfl, .inr V.s, _, _, rfl, ?_⟩
      rw [List.length_map]; exact k
    | view h h1 =>
      refine ⟨_, rfl, _, _, _, _, rfl, rfl, h.sq, rfl, _, rfl, rfl, _, rfl, iteDF (nes (by decide +kernel)) ?_⟩
      refine ⟨_, rfl, rfl, _, rfl, iteDF (nes (by decide +kernel)) ?_⟩
      refine ⟨_, rfl, rfl, _, rfl, iteDF (nes (by decide +kernel)) ?_⟩
      refine ⟨_, rfl, rfl, _, rfl, iteDT rfl ?_⟩
      have hr2 := ev_range (on := on) V.tok V.sok h1 hok
      refine ⟨_, rfl, _, _, _, _, rfl, rfl, h.sq, rfl, _, rfl, _, rfl, _, rfl, _, td, od, sa, _, ns, ps, tb, on, seen, rfl, h1, hok, (by unfold Ex.dep at hd; omega), V, ?_⟩
      refine ⟨_, rfl, _, rfl, _, _, rfl, .inr V.s, _, _, rfl, rfl, _, rfl, iteD (fun q => ?_) (fun q => ?_)⟩
      · rw [List.length_map] at q
        refine ⟨_, rfl, _, rfl, _, _, _, _, rfl, rfl, V.s, seen_at hr2.1 q, ?_⟩
        unfold val at k
        rw [if_pos q] at k
        exact k
      · rw [List.length_map] at q
        unfold val at k
        rw [if_neg q] at k
        exact k
    | pick h h1 h2 =>
      refine ⟨_, rfl, _, _, _, _, rfl, rfl, h.sq, rfl, _, rfl, rfl, _, rfl, iteDF (nes (by decide +kernel)) ?_⟩
      refine ⟨_, rfl, rfl, _, rfl, iteDF (nes (by decide +kernel)) ?_⟩
      refine ⟨_, rfl, rfl, _, rfl, iteDF (nes (by decide +kernel)) ?_⟩
      refine ⟨_, rfl, rfl, _, rfl, iteDF (nes (by decide +kernel)) ?_⟩
      refine ⟨_, rfl, rfl, _, rfl, iteDT rfl ?_⟩
      unfold val at k
      unfold Ex.dep at hd
      refine ⟨_, rfl, _, rfl, _, _, _, _, rfl, rfl, h.sq, rfl, _, _, rfl, V.o.get hok.1, _, rfl, iteB (fun q => ?_) (fun q => ?_)⟩
      · rw [if_pos q] at k
        refine ⟨_, rfl, _, _, _, _, rfl, rfl, h.sq, rfl, ?_⟩
        exact ⟨_, rfl, _, rfl, _, rfl, _, rfl, _, td, od, sa, _, ns, ps, tb, on, seen, rfl, h1, hok.2.1, (by omega), V, k⟩
      · rw [if_neg (by simp [q])] at k
        refine ⟨_, rfl, _, _, _, _, rfl, rfl, h.sq, rfl, ?_⟩
        exact ⟨_, rfl, _, rfl, _, rfl, _, rfl, _, td, od, sa, _, ns, ps, tb, on, seen, rfl, h2, hok.2.2, (by omega), V, k⟩
    | op h h1 h2 =>
      obtain ⟨n1, n2, n3, n4, n5⟩ := sg_not _ hok.1
      refine ⟨_, rfl, _, _, _, _, rfl, rfl, h.sq, rfl, _, rfl, rfl, _, rfl, iteDF (nes n1) ?_⟩
      refine ⟨_, rfl, rfl, _, rfl, iteDF (nes n2) ?_⟩
      refine ⟨_, rfl, rfl, _, rfl, iteDF (nes n3) ?_⟩
      refine ⟨_, rfl, rfl, _, rfl, iteDF (nes n4) ?_⟩
      refine ⟨_, rfl, rfl, _, rfl, iteDF (nes n5) ?_⟩
      unfold val at k
      unfold Ex.dep at hd
      have ha := val_range (on := on) V.tok V.sok _ hok.2.1
      have hb := val_range (on := on) V.tok V.sok _ hok.2.2
      refine ⟨_, rfl, _, _, _, _, rfl, rfl, h.sq, rfl, _, rfl, _, rfl, _, rfl, _, td, od, sa, _, ns, ps, tb, on, seen, rfl, h1, hok.2.1, (by omega), V, ?_⟩
      refine ⟨_, rfl, _, _, _, _, rfl, rfl, h.sq, rfl, _, rfl, _, rfl, _, rfl, _, td, od, sa, _, ns, ps, tb, on, seen, rfl, h2, hok.2.2, (by omega), V, ?_⟩
      exact ⟨_, rfl, _, rfl, _, rfl, _, _, _, rfl, hok.1, ha.1, ha.2, hb.1, hb.2, k⟩
end

/-! names that are drawn -/
def kwL : List Str := ["option", "on", "off", "var", "round", "end", "set", "if", "else", "when", "draw", "first", "second", "show", "both", "pay", "take", "pick", "mod", "player", "keep", "lot", "while", "answer", "view", "long"]
theorem keys_text : Txt.split (("option on off var round end set if else when draw first second show both pay take pick mod player keep lot" : Str) ++ (" while answer view long" : Str)) " " = kwL := by decide +kernel
def sp_law_keys : Sp := fun vs H Q _ => vs = [] ∧ ∀ l H', H l = none → H' l = some (.lst (kwL.map V.str)) → Keep [] H H' → Q (.ref l) H'
theorem strOk_tl (z : Str) : PyData.strOk z = (TL.tl z).all (fun c => decide (c < 0x110000)) := by
  unfold PyData.strOk TL.tl
  rw [Array.all_toList]
theorem strOk_app (a b : Str) : PyData.strOk (a ++ b) = (PyData.strOk a && PyData.strOk b) := by
  rw [strOk_tl, strOk_tl, strOk_tl, TL.tl_append, List.all_append]
theorem strOk_sign {sg : Str} (h : PyData.strOk sg = true) {i : Nat} {c : Nat} (hc : (TL.tl sg)[i]? = some c) : PyData.strOk ⟨#[c]⟩ = true := by
  rw [strOk_tl] at h
  have := List.all_eq_true.mp h c (List.mem_of_getElem? hc)
  rw [strOk_tl]
  show ([c].all _) = true
  simpa using this
theorem len_appN (a b : Str) : (a ++ b).length = a.length + b.length := by rw [TL.len_tl, TL.tl_append, List.length_append, ← TL.len_tl, ← TL.len_tl]
theorem inV_strs (z : Str) : ∀ ys : List Str, inV (.str z) (ys.map V.str) = decide (z ∈ ys)
  | [] => rfl
  | y :: r => by
    have ih := inV_strs z r
    unfold inV at ih ⊢
    rw [List.map_cons, List.any_cons, ih]
    show ((y == z) || decide (z ∈ r)) = decide (z ∈ y :: r)
    by_cases h : y = z
    · subst h; simp
    · have : (y == z) = false := by simpa using h
      rw [this, Bool.false_or]
      simp only [List.mem_cons]
      exact decide_eq_decide.mpr ⟨.inr, fun q => q.elim (fun q => absurd q.symm h) id⟩
theorem flat_strs (ys : List Str) : (ys.map V.str).all flatV = true := by
  rw [List.all_eq_true]
  intro x hx
  obtain ⟨y, _, rfl⟩ := List.mem_map.mp hx
  rfl
def vN (k : Nat) : Str := ("v" : Str) ++ Str.ofString (toString ((k : Nat) : Int))
theorem vN_ok : ∀ k, k < 20 → PyData.strOk (vN k) = true ∧ (vN k).length ≤ 10 := by decide +kernel
theorem vN_nodup : ((List.range 20).map vN).Nodup := by decide +kernel
theorem nodup_le {α : Type} [DecidableEq α] : ∀ (l t : List α), l.Nodup → (∀ x ∈ l, x ∈ t) → l.length ≤ t.length
  | [], t, _, _ => Nat.zero_le _
  | a :: r, t, h, hs => by
    have hn := List.nodup_cons.mp h
    have ha : a ∈ t := hs a (List.mem_cons_self ..)
    have := nodup_le r (t.erase a) hn.2 fun x hx => (List.mem_erase_of_ne (by intro q; subst q; exact hn.1 hx)).mpr (hs x (List.mem_cons_of_mem _ hx))
    rw [List.length_erase_of_mem ha] at this
    have hp : 0 < t.length := List.length_pos_of_mem ha
    rw [List.length_cons]; omega
theorem vN_free {ys : List Str} (h : ys.length < 20) (hall : ∀ j, j < 20 → vN j ∈ ys) : False := by
  have := nodup_le _ ys vN_nodup (fun x hx => by
    obtain ⟨j, hj, rfl⟩ := List.mem_map.mp hx
    exact hall j (List.mem_range.mp hj))
  rw [List.length_map, List.length_range] at this
  omega
def sp_law_spend : Sp := fun vs H Q _ => ∃ p q ns, vs = [.ref p] ∧ Pool H p q ns ∧ ∀ b H', Pool H' p q ns → Keep [p] H H' → Q (.bl b) H'
def sp_law_number : Sp := fun vs H Q _ => ∃ p q ns, vs = [.ref p] ∧ Pool H p q ns ∧ ∀ r H', 0 ≤ r → r < 65536 → Pool H' p q ns → Keep [p] H H' → Q (.int r) H'
def sp_law_name : Sp := fun vs H Q _ => ∃ (p q l : Addr) (ns : List Int) (ys : List Str), vs = [.ref p, .ref l] ∧ H l = some (.lst (ys.map V.str)) ∧ l ≠ p ∧ ys.length < 20 ∧ Pool H p q ns ∧
  ∀ z H', z ∉ ys → PyData.strOk z = true → z.length ≤ 20 → Pool H' p q ns → Keep [p] H H' → Q (.str z) H'
def sp_law_names : Sp := fun vs H Q _ => ∃ (p q : Addr) (ns : List Int) (m : Int), vs = [.ref p, .int m] ∧ 0 ≤ m ∧ m < 20 ∧ Pool H p q ns ∧
  ∀ l (ys : List Str) H', H l = none → H' l = some (.lst (ys.map V.str)) → ys.length ≤ m.toNat → ys.Nodup → NamesOk ys → (∀ y ∈ ys, y.length ≤ 20) → Pool H' p q ns → Keep [p] H H' → Q (.ref l) H'
section
variable {P : Program} {w : World} {K : PySem.W.Frag} {mg : Str → Option Value} {base : Heap} {C_Ratio : Addr} {C_Tape : Addr} {C_Thinker : Addr} {C_Brain : Addr} {C_GameError : Addr} {C_TooLarge : Addr} {f_TooLarge___init : Addr} {T_EVENTS : Addr}
theorem ok_law_keys {f : Addr} {fd : FuncData} (D : C8.Def K mg "_law_keys" s_law_keys f fd) (b : Binds K fd [] []) (T : Txt K mg C_Ratio C_Tape C_Thinker C_Brain C_GameError C_TooLarge T_EVENTS) : C8.Cal P w K mg base 1 "_law_keys" sp_law_keys [] := by
  refine cal0 D b .nil sc_law_keys (fun vs H Q E h => ?_) (fun cdv A outer s H vs Q E hr h => ?_)
  · obtain ⟨rfl, _⟩ := h
    rfl
  · obtain ⟨rfl, k⟩ := h
    refine ⟨_, (pss_cons (ps_set (i := 0) sc_law_keys.nd rfl (by first | exact Or.inl rfl | exact Or.inr rfl) pe_str)
(pss_one (ps_ret (pe_split (pe_op op_add_str (pv 0) pe_str) pe_str)))), ?_⟩
    refine ⟨_, rfl, _, _, rfl, rfl, by decide +kernel, ⟨_, rfl⟩, _, _, rfl, rfl, by decide +kernel, by decide +kernel, fun p hp => k p _ hp ?_ (Keep.new hp)⟩
    rw [keys_text]; exact upd_same
theorem ok_law_spend {f : Addr} {fd : FuncData} (D : C8.Def K mg "_law_spend" s_law_spend f fd) (b : Binds K fd ["pool"] []) (T : Txt K mg C_Ratio C_Tape C_Thinker C_Brain C_GameError C_TooLarge T_EVENTS) {k : Nat} : C8.Cal P w K mg base (k + 1) "_law_spend" sp_law_spend [] := by
  refine cal0 D b .nil sc_law_spend (fun vs H Q E h => ?_) (fun cdv A outer s H vs Q E hr h => ?_)
  · obtain ⟨p, q, ns, rfl, _⟩ := h
    rfl
  · obtain ⟨p, q, ns, rfl, ⟨i1, i2, i3, i4, i5, h1, h2, h3, h4⟩, k⟩ := h
    refine ⟨_, (pss_cons (ps_asg (pe_op op_sub (pe_ix ix_list (pv 0) pe_int (fun _ _ => rfl)) pe_int) (pg_sub (pv 0) pe_int set_list))
(pss_one (ps_ret (pe_cmpR op_ge (pe_ix ix_list (pv 0) pe_int (fun _ _ => rfl)) pe_int (nomark _))))), ?_⟩
    refine ⟨_, rfl, _, _, _, _, rfl, rfl, SqL.of h1, rfl, _, _, rfl, rfl, _, rfl, _, _, _, _, rfl, rfl, h1, rfl, ?_⟩
    refine ⟨_, rfl, _, _, _, _, rfl, rfl, SqL.of upd_same, rfl, _, _, rfl, rfl, ?_⟩
    exact k _ _ ⟨_, _, _, _, _, upd_same, (by rw [upd_ne h3]; exact h2), h3, h4⟩ (Keep.at_ (List.mem_singleton.mpr rfl))
theorem ok_law_number {f : Addr} {fd : FuncData} (D : C8.Def K mg "_law_number" s_law_number f fd) (b : Binds K fd ["pool"] []) (T : Txt K mg C_Ratio C_Tape C_Thinker C_Brain C_GameError C_TooLarge T_EVENTS) {k : Nat} (c_law_draw : C8.Cal P w K mg base k "_law_draw" sp_law_draw []) : C8.Cal P w K mg base (k + 1) "_law_number" sp_law_number [] := by
  refine cal0 D b .nil sc_law_number (fun vs H Q E h => ?_) (fun cdv A outer s H vs Q E hr h => ?_)
  · obtain ⟨p, q, ns, rfl, _⟩ := h
    rfl
  · obtain ⟨p, q, ns, rfl, hP, k⟩ := h
    refine ⟨_, (pss_cons (ps_if (pt_cmpR op_eq (pe_c c_law_draw hr (by first | exact Nat.le_refl _ | decide | omega) rfl (pa_cons (pv 0) (pa_cons pe_int pa_nil))) pe_int (nomark _))
  (pss_one (ps_ret (pe_c c_law_draw hr (by first | exact Nat.le_refl _ | decide | omega) rfl (pa_cons (pv 0) (pa_cons pe_int pa_nil)))))
  pss_nil)
(pss_one (ps_ret (pe_c c_law_draw hr (by first | exact Nat.le_refl _ | decide | omega) rfl (pa_cons (pv 0) (pa_cons pe_int pa_nil)))))), ?_⟩
    refine ⟨_, rfl, p, q, ns, 3, rfl, by decide, by decide, hP, fun r H1 r0 r1 P1 K1 => ?_⟩
    refine ⟨rfl, _, rfl, iteD (fun _ => ?_) (fun _ => ?_)⟩
    · exact ⟨_, rfl, p, q, ns, _, rfl, by decide, by decide, P1, fun r2 H2 z0 z1 P2 K2 => k _ _ z0 z1 P2 (K1.trans K2)⟩
    · exact ⟨_, rfl, p, q, ns, _, rfl, by decide, by decide, P1, fun r2 H2 z0 z1 P2 K2 => k _ _ z0 (by omega) P2 (K1.trans K2)⟩
theorem ok_law_name {f : Addr} {fd : FuncData} (D : C8.Def K mg "_law_name" s_law_name f fd) (b : Binds K fd ["pool", "taken"] []) (T : Txt K mg C_Ratio C_Tape C_Thinker C_Brain C_GameError C_TooLarge T_EVENTS) (c_law_draw : C8.Cal P w K mg base 1 "_law_draw" sp_law_draw []) (c_law_few : C8.Cal P w K mg base 2 "_law_few" sp_law_few [])
    (c_law_keys : C8.Cal P w K mg base 1 "_law_keys" sp_law_keys []) : C8.Cal P w K mg base 3 "_law_name" sp_law_name [] := by
  refine cal0 D b .nil sc_law_name (fun vs H Q E h => ?_) (fun cdv A outer s H vs Q E hr h => ?_)
  · obtain ⟨p, q, l, ns, ys, rfl, _⟩ := h
    rfl
  · obtain ⟨p, q, l, ns, ys, rfl, hl, nlp, hlen, hP, k⟩ := h
    refine ⟨_, (pss_cons (ps_set (i := 2) sc_law_name.nd rfl (by first | exact Or.inl rfl | exact Or.inr rfl) pe_str)
(pss_cons (ps_set (i := 3) sc_law_name.nd rfl (by first | exact Or.inl rfl | exact Or.inr rfl) (pe_ix ix_str (pv 2) (pe_c c_law_draw hr (by first | exact Nat.le_refl _ | decide | omega) rfl (pa_cons (pv 0) (pa_cons pe_int pa_nil))) (fun _ _ => rfl)))
(pss_cons (ps_for PassesOwn.never rfl (pi_range1 (by rfl) T.n_range (pa_cons (pe_c c_law_few hr (by first | exact Nat.le_refl _ | decide | omega) rfl (pa_cons (pv 0) (pa_cons pe_int pa_nil))) pa_nil)) (pg_name (i := 4) sc_law_name.nd rfl (by first | exact Or.inl rfl | exact Or.inr rfl))
  (pss_one (ps_set (i := 3) sc_law_name.nd rfl (by first | exact Or.inl rfl | exact Or.inr rfl) (pe_op op_add_str (pv 3) (pe_ix ix_str (pv 2) (pe_c c_law_draw hr (by first | exact Nat.le_refl _ | decide | omega) rfl (pa_cons (pv 0) (pa_cons pe_int pa_nil))) (fun _ _ => rfl))))))
(pss_cut (ps_if (PW.pt (pw_or (pt_cmpR op_in_seq (pv 3) (pv 1) (by rfl)) (pw_or1 (pt_cmpR op_in_seq (pv 3) (pe_c0 c_law_keys hr (by first | exact Nat.le_refl _ | decide | omega) rfl) (by rfl)))))
  (pss_one (ps_for PassesOwn.never rfl (pi_range1 (by rfl) T.n_range (pa_cons pe_int pa_nil)) (pg_name (i := 4) sc_law_name.nd rfl (by first | exact Or.inl rfl | exact Or.inr rfl))
    (pss_one (ps_if (pt_cmpR op_notIn_seq (pe_op op_add_str pe_str (pe_callTy call_str_int (by rfl) T.n_str bo_str (pa_cons (pv 4) pa_nil))) (pv 1) (by rfl))
      (pss_one (ps_set (i := 3) sc_law_name.nd rfl (by first | exact Or.inl rfl | exact Or.inr rfl) (pe_op op_add_str pe_str (pe_callTy call_str_int (by rfl) T.n_str bo_str (pa_cons (pv 4) pa_nil)))))
      pss_nil))))
  pss_nil)
(pss_one (ps_ret (pv 3))))))), ?_⟩
    obtain ⟨sg, hsgv, hsg, hso⟩ : ∃ sg : Str, sg = ("abcdefghijklmnopqrstuvwxyz0123456789" : Str) ∧ sg.length = 36 ∧ PyData.strOk sg = true := ⟨_, rfl, by decide +kernel, by decide +kernel⟩
    rw [← hsgv]
    have hsl : (TL.tl sg).length = 36 := by rw [← TL.len_tl]; exact hsg
    have l1 : ∀ c : Nat, (⟨#[c]⟩ : Str).length = 1 := fun _ => rfl
    refine ⟨_, rfl, _, rfl, p, q, ns, 26, rfl, by decide, by decide, hP, fun r H1 r0 r1 P1 K1 => ?_⟩
    obtain ⟨m, rfl⟩ : ∃ m : Nat, r = (m : Int) := ⟨r.toNat, by omega⟩
    have hm := List.getElem?_eq_getElem (show m < (TL.tl sg).length by omega)
    refine ⟨_, _, _, rfl, rfl, smallM (by omega), atI_nat hm, ?_⟩
    have ok0 := strOk_sign hso hm
    refine ⟨_, rfl, p, q, ns, 11, rfl, by decide, by decide, P1, fun f H2 f0 f1 P2 K2 => ?_⟩
    refine ⟨_, rfl, by omega, by omega, for_range (lo := 0) (n := f.toNat) (fun i σ H' => ∃ (z : Str) (o : Option V), σ = [some (.ref p), some (.ref l), some (.str sg), some (.str z), o] ∧ PyData.strOk z = true ∧ z.length = i + 1 ∧ Pool H' p q ns ∧ Keep [p] H H')
      ⟨_, none, rfl, ok0, l1 _, P2, K1.trans K2⟩ ?_ ?_⟩
    · rintro i σ H3 hi ⟨z, o, rfl, hz, hzl, P3, K3⟩
      refine ⟨_, rfl, _, rfl, _, rfl, p, q, ns, 36, rfl, by decide, by decide, P3, fun r H4 r0 r1 P4 K4 => ?_⟩
      obtain ⟨m, rfl⟩ : ∃ m : Nat, r = (m : Int) := ⟨r.toNat, by omega⟩
      have hm := List.getElem?_eq_getElem (show m < (TL.tl sg).length by omega)
      refine ⟨_, _, _, rfl, rfl, smallM (by omega), atI_nat hm, _, _, rfl, rfl, smallM (by rw [l1]; omega), ?_⟩
      exact ⟨_, _, rfl, by rw [strOk_app, hz, strOk_sign hso hm]; rfl, by rw [len_appN, l1, hzl], P4, K3.trans K4⟩
    · rintro σ H3 ⟨z, o, rfl, hz, hzl, P3, K3⟩
      have hl3 := K3 _ _ hl (by simpa using nlp)
      refine ⟨fun σ H' => ∃ (z : Str) (o : Option V), σ = [some (.ref p), some (.ref l), some (.str sg), some (.str z), o] ∧ z ∉ ys ∧ PyData.strOk z = true ∧ z.length ≤ 20 ∧ Pool H' p q ns ∧ Keep [p] H H', ?_, ?_⟩
      · have rest : ∀ (H4 : Hp), Pool H4 p q ns → Keep [p] H H4 → (fun (D : Ends) => True) = (fun (D : Ends) => True) := fun _ _ _ => rfl
        have inv : ∀ {H4 : Hp}, Pool H4 p q ns → Keep [p] H H4 → (fun (i : Nat) (σ : List (Option V)) (H' : Hp) => ∃ (z : Str) (o : Option V), σ = [some (.ref p), some (.ref l), some (.str sg), some (.str z), o] ∧ (z ∉ ys ∨ ∀ j, j < i → vN j ∈ ys) ∧ PyData.strOk z = true ∧ z.length ≤ 20 ∧ H' = H4) 0 [some (.ref p), some (.ref l), some (.str sg), some (.str z), o] H4 :=
          fun _ _ => ⟨_, _, rfl, .inr fun j hj => absurd hj (Nat.not_lt_zero _), hz, by omega, rfl⟩
        refine ⟨_, rfl, _, rfl, _, _, rfl, .inl (SqL.of hl3), rfl, flat_strs ys, _, rfl, iteB (fun e => ?_) (fun e => ?_)⟩
        · refine ⟨20, rfl, by decide, by decide, for_range (lo := 0) (n := 20) (fun (i : Nat) (σ : List (Option V)) (H' : Hp) => ∃ (z : Str) (o : Option V), σ = [some (.ref p), some (.ref l), some (.str sg), some (.str z), o] ∧ (z ∉ ys ∨ ∀ j, j < i → vN j ∈ ys) ∧ PyData.strOk z = true ∧ z.length ≤ 20 ∧ H' = H3) (inv P3 K3) ?_ ?_⟩
          · rintro i σ H' hi ⟨z, o, rfl, hzz, hz, hzl, rfl⟩
            have e0 : (0 : Int) + (i : Int) = (i : Int) := by omega
            rw [e0]
            have hv := vN_ok i hi
            have hlog : ((i : Nat) : Int).natAbs.log2 < 1920 := by
              rw [Int.natAbs_natCast]; exact PySem.Flt.log2_lt_of (by decide) (Nat.lt_trans (show i < 20 from hi) (by decide +kernel))
            have hvl : ("v" : Str).length + (Str.ofString (toString ((i : Nat) : Int))).length ≤ sizeLine := by
              have := hv.2; unfold vN at this; rw [len_appN] at this; exact smallM (by omega)
            refine ⟨_, rfl, _, rfl, hlog, _, _, rfl, rfl, hvl, _, rfl, _, _, rfl, .inl (SqL.of hl3), rfl, flat_strs ys, _, rfl, iteB (fun e => ?_) (fun e => ?_)⟩
            · have e' : (!inV (.str (vN i)) (ys.map V.str)) = true := e
              rw [inV_strs] at e'
              exact ⟨_, rfl, _, rfl, hlog, _, _, rfl, rfl, hvl, vN i, _, rfl, .inl (by simpa using e'), hv.1, by omega, rfl⟩
            · have e' : (!inV (.str (vN i)) (ys.map V.str)) = false := e
              rw [inV_strs] at e'
              refine ⟨z, _, rfl, ?_, hz, hzl, rfl⟩
              rcases hzz with hzz | hzz
              · exact .inl hzz
              · refine .inr fun j hj => ?_
                by_cases q : j = i
                · subst q; simpa using e'
                · exact hzz j (by omega)
          · rintro σ H' ⟨z, o, rfl, hzz, hz, hzl, rfl⟩
            exact ⟨z, o, rfl, hzz.elim id (fun g => (vN_free hlen g).elim), hz, hzl, P3, K3⟩
        · have e' : inV (.str z) (ys.map V.str) = false := e
          rw [inV_strs] at e'
          have hzy : z ∉ ys := by simpa using e'
          refine ⟨_, rfl, rfl, fun a H4 na ha K4 => ⟨_, _, rfl, .inl (SqL.of ha), rfl, flat_strs kwL, _, rfl, iteB (fun e => ?_) (fun e => ?_)⟩⟩
          · have P4 := P3.keep0 K4
            have K4' : Keep [p] H H4 := K3.trans (K4.mono (by simp))
            have hl4 := K4 _ _ hl3 (by simp)
            refine ⟨20, rfl, by decide, by decide, for_range (lo := 0) (n := 20) (fun (i : Nat) (σ : List (Option V)) (H' : Hp) => ∃ (z : Str) (o : Option V), σ = [some (.ref p), some (.ref l), some (.str sg), some (.str z), o] ∧ (z ∉ ys ∨ ∀ j, j < i → vN j ∈ ys) ∧ PyData.strOk z = true ∧ z.length ≤ 20 ∧ H' = H4) (inv P4 K4') ?_ ?_⟩
            · rintro i σ H' hi ⟨z, o, rfl, hzz, hz, hzl, rfl⟩
              have e0 : (0 : Int) + (i : Int) = (i : Int) := by omega
              rw [e0]
              have hv := vN_ok i hi
              have hlog : ((i : Nat) : Int).natAbs.log2 < 1920 := by
                rw [Int.natAbs_natCast]; exact PySem.Flt.log2_lt_of (by decide) (Nat.lt_trans (show i < 20 from hi) (by decide +kernel))
              have hvl : ("v" : Str).length + (Str.ofString (toString ((i : Nat) : Int))).length ≤ sizeLine := by
                have := hv.2; unfold vN at this; rw [len_appN] at this; exact smallM (by omega)
              refine ⟨_, rfl, _, rfl, hlog, _, _, rfl, rfl, hvl, _, rfl, _, _, rfl, .inl (SqL.of hl4), rfl, flat_strs ys, _, rfl, iteB (fun e => ?_) (fun e => ?_)⟩
              · have e' : (!inV (.str (vN i)) (ys.map V.str)) = true := e
                rw [inV_strs] at e'
                exact ⟨_, rfl, _, rfl, hlog, _, _, rfl, rfl, hvl, vN i, _, rfl, .inl (by simpa using e'), hv.1, by omega, rfl⟩
              · have e' : (!inV (.str (vN i)) (ys.map V.str)) = false := e
                rw [inV_strs] at e'
                refine ⟨z, _, rfl, ?_, hz, hzl, rfl⟩
                rcases hzz with hzz | hzz
                · exact .inl hzz
                · refine .inr fun j hj => ?_
                  by_cases q : j = i
                  · subst q; simpa using e'
                  · exact hzz j (by omega)
            · rintro σ H' ⟨z, o, rfl, hzz, hz, hzl, rfl⟩
              exact ⟨z, o, rfl, hzz.elim id (fun g => (vN_free hlen g).elim), hz, hzl, P4, K4'⟩
          · exact ⟨z, o, rfl, hzy, hz, by omega, P3.keep0 K4, K3.trans (K4.mono (by simp))⟩
      · rintro σ H4 ⟨z, o, rfl, hzy, hz, hzl, P4, K4⟩
        exact ⟨_, rfl, k _ _ hzy hz hzl P4 K4⟩
theorem ok_law_names {f : Addr} {fd : FuncData} (D : C8.Def K mg "_law_names" s_law_names f fd) (b : Binds K fd ["pool", "most"] []) (T : Txt K mg C_Ratio C_Tape C_Thinker C_Brain C_GameError C_TooLarge T_EVENTS) (c_law_few : C8.Cal P w K mg base 2 "_law_few" sp_law_few []) (c_law_name : C8.Cal P w K mg base 3 "_law_name" sp_law_name []) : C8.Cal P w K mg base 4 "_law_names" sp_law_names [] := by
  refine cal0 D b .nil sc_law_names (fun vs H Q E h => ?_) (fun cdv A outer s H vs Q E hr h => ?_)
  · obtain ⟨p, q, ns, m, rfl, _⟩ := h
    rfl
  · obtain ⟨p, q, ns, m, rfl, m0, m1, hP, k⟩ := h
    refine ⟨_, (pss_cons (ps_set (i := 2) sc_law_names.nd rfl (by first | exact Or.inl rfl | exact Or.inr rfl) (pe_lst pa_nil))
(pss_cons (ps_for PassesOwn.never rfl (pi_range1 (by rfl) T.n_range (pa_cons (pe_c c_law_few hr (by first | exact Nat.le_refl _ | decide | omega) rfl (pa_cons (pv 0) (pa_cons (pv 1) pa_nil))) pa_nil)) (pg_name (i := 3) sc_law_names.nd rfl (by first | exact Or.inl rfl | exact Or.inr rfl))
  (pss_one (ps_expr (pe_bm PySem.F.plainAttrs_list PySem.F.slot_list_append PySem.F.type_list_append mt_append (pv 2) (pa_cons (pe_c c_law_name hr (by first | exact Nat.le_refl _ | decide | omega) rfl (pa_cons (pv 0) (pa_cons (pv 2) pa_nil))) pa_nil)))))
(pss_one (ps_ret (pv 2))))), ?_⟩
    refine ⟨by show 0 ≤ sizeLine; decide, fun l hl => ?_⟩
    have P1 := hP.new (o := .lst []) hl
    have nlp := hP.nep hl
    have nlq := hP.neq hl
    refine ⟨_, rfl, _, rfl, p, q, ns, m, rfl, m0, by omega, P1, fun f H2 f0 f1 P2 K2 => ?_⟩
    refine ⟨_, rfl, by omega, by omega, for_range (lo := 0) (n := f.toNat) (fun i σ H' => ∃ (ys : List Str) (o : Option V), σ = [some (.ref p), some (.int m), some (.ref l), o] ∧ H' l = some (.lst (ys.map V.str)) ∧ ys.length = i ∧ ys.Nodup ∧ NamesOk ys ∧ (∀ y ∈ ys, y.length ≤ 20) ∧ Pool H' p q ns ∧ Keep [p] H H')
      ⟨[], none, rfl, K2 _ _ upd_same (by simpa using nlp), rfl, List.nodup_nil, (fun _ h => by cases h), (fun _ h => by cases h), P2, (Keep.new hl).trans K2⟩ ?_ ?_⟩
    · rintro i σ H3 hi ⟨ys, o, rfl, hy, hyl, hnd, hno, hle, P3, K3⟩
      refine ⟨_, rfl, .inl ⟨rfl, _, SqL.of hy⟩, _, rfl, _, rfl, p, q, l, ns, ys, rfl, hy, nlp, by omega, P3, fun z H4 hz1 hz2 hz3 P4 K4 => ?_⟩
      have hy4 := K4 _ _ hy (by simpa using nlp)
      refine ⟨_, _, _, rfl, rfl, hy4, (by rw [List.length_map]; exact smallL (by omega)), ?_⟩
      refine ⟨ys ++ [z], _, rfl, by rw [List.map_append]; exact upd_same, by rw [List.length_append, hyl]; rfl, ?_, ?_, ?_, P4.own nlp nlq, (K3.trans K4).then_own hl⟩
      · rw [List.nodup_append]
        refine ⟨hnd, by simp, fun a ha b hb => ?_⟩
        rw [List.mem_singleton] at hb
        subst hb
        exact fun q => hz1 (q ▸ ha)
      · intro y hy
        rcases List.mem_append.mp hy with h | h
        · exact hno y h
        · rw [List.mem_singleton.mp h]; exact hz2
      · intro y hy
        rcases List.mem_append.mp hy with h | h
        · exact hle y h
        · rw [List.mem_singleton.mp h]; exact hz3
    · rintro σ H3 ⟨ys, o, rfl, hy, hyl, hnd, hno, hle, P3, K3⟩
      exact ⟨_, rfl, k l ys _ hl hy (by omega) hnd hno hle P3 K3⟩
end

theorem calUp {P : Program} {w : World} {K : PySem.W.Frag} {mg : Str → Option Value} {base : Heap} {j k : Nat} {x : Str} {sp : Sp} {dvs : List V} (c : C8.Cal P w K mg base j x sp dvs) (h : j ≤ k) : C8.Cal P w K mg base k x sp dvs := by
  obtain ⟨f, fd, ps, ds, F, hm, kp, b, d⟩ := c.ex
  exact ⟨f, fd, ps, ds, F.mono h, hm, kp, b, d⟩
theorem Pool.tk {H H' : Hp} {p q : Addr} {ns : List Int} (h : Pool H p q ns) (k : Keep [p] H H') : TK H H' := by
  obtain ⟨i1, i2, i3, i4, i5, h1, _⟩ := h
  exact k.tk1 h1
theorem DcB.keep {H H' : Hp} {a : Addr} {ps : List Str} {on : Str → Bool} (h : DcB H a ps on) (k : Keep [] H H') : DcB H' a ps on := by
  obtain ⟨kvs, e, q⟩ := h
  exact ⟨kvs, k _ _ e (by simp), q⟩

/-! addresses that all stand and are unlike one another -/
structure Liv (H : Hp) (L : List Addr) : Prop where
  nd : L.Nodup
  on : ∀ a ∈ L, ∃ o, H a = some o
theorem Liv.nil {H : Hp} : Liv H [] := ⟨List.nodup_nil, fun _ h => by cases h⟩
theorem Liv.cons {H : Hp} {L : List Addr} {a : Addr} {o : HO} (h : Liv H L) (n : H a = none) : Liv (upd H a o) (a :: L) := by
  have hne : ∀ b ∈ L, b ≠ a := fun b hb => by obtain ⟨u, hu⟩ := h.on b hb; exact ne_of_none hu n
  refine ⟨List.nodup_cons.mpr ⟨fun z => hne a z rfl, h.nd⟩, fun b hb => ?_⟩
  rcases List.mem_cons.mp hb with rfl | hb
  · exact ⟨_, upd_same⟩
  · obtain ⟨u, hu⟩ := h.on b hb
    exact ⟨u, by rw [upd_ne (hne b hb)]; exact hu⟩
/-- one that stands, new since a heap in which the others stand -/
theorem Liv.cons' {H H' : Hp} {L : List Addr} {a : Addr} {o : HO} (h : Liv H L) (n : H a = none) (h' : Liv H' L) (ha : H' a = some o) : Liv H' (a :: L) :=
  ⟨List.nodup_cons.mpr ⟨fun z => (by obtain ⟨u, hu⟩ := h.on a z; rw [n] at hu; cases hu), h.nd⟩, fun b hb => by
    rcases List.mem_cons.mp hb with rfl | hb
    · exact ⟨_, ha⟩
    · exact h'.on b hb⟩
theorem Liv.keep {H H' : Hp} {L W : List Addr} (h : Liv H L) (k : Keep W H H') (w : ∀ a ∈ W, ∃ o, H' a = some o) : Liv H' L :=
  ⟨h.nd, fun a ha => by
    by_cases z : a ∈ W
    · exact w a z
    · obtain ⟨o, ho⟩ := h.on a ha
      exact ⟨o, k _ _ ho z⟩⟩
theorem Liv.keep0 {H H' : Hp} {L : List Addr} (h : Liv H L) (k : Keep [] H H') : Liv H' L := h.keep k fun _ z => by cases z
theorem Liv.keep1 {H H' : Hp} {L : List Addr} {p : Addr} {o : HO} (h : Liv H L) (k : Keep [p] H H') (hp : H' p = some o) : Liv H' L := h.keep k fun a z => by
  rw [List.mem_singleton] at z; exact ⟨o, by rw [z]; exact hp⟩
theorem nodup_ne {L : List Addr} (h : L.Nodup) {i j : Nat} {a b : Addr} (ha : L[i]? = some a) (hb : L[j]? = some b) (hij : i ≠ j) : a ≠ b := by
  obtain ⟨h1, e1⟩ := List.getElem?_eq_some_iff.mp ha
  obtain ⟨h2, e2⟩ := List.getElem?_eq_some_iff.mp hb
  have hp := List.pairwise_iff_getElem.mp h
  rcases Nat.lt_or_gt_of_ne hij with z | z
  · have := hp i j h1 h2 z
    rwa [e1, e2] at this
  · have := hp j i h2 h1 z
    rw [e1, e2] at this
    exact fun w => this w.symm
theorem Liv.ne {H : Hp} {L : List Addr} (h : Liv H L) (i j : Nat) {a b : Addr} (ha : L[i]? = some a) (hb : L[j]? = some b) (hij : i ≠ j := by decide) : a ≠ b := nodup_ne h.nd ha hb hij
theorem Liv.notNew {H : Hp} {L : List Addr} (h : Liv H L) {a : Addr} (n : H a = none) : a ∉ L := fun z => by
  obtain ⟨u, hu⟩ := h.on a z; rw [n] at hu; cases hu
theorem Liv.cons2 {H H' : Hp} {L : List Addr} {a b : Addr} {o u : HO} (h : Liv H L) (na : H a = none) (nb : H b = none) (ne : a ≠ b) (h' : Liv H' L) (ha : H' a = some o) (hb : H' b = some u) : Liv H' (b :: a :: L) := by
  have h1 := h.cons' na h' ha
  refine ⟨List.nodup_cons.mpr ⟨fun z => ?_, h1.nd⟩, fun c hc => ?_⟩
  · rcases List.mem_cons.mp z with z | z
    · exact ne z.symm
    · exact h.notNew nb z
  · rcases List.mem_cons.mp hc with rfl | hc
    · exact ⟨_, hb⟩
    · exact h1.on c hc
/-- a new instance and its dict -/
theorem Liv.made {H : Hp} {L : List Addr} {x d : Addr} {o : HO} (h : Liv H L) (nx : H x = none) (nd : H d = none) (ne : d ≠ x) : Liv (upd (upd H d (.own x)) x o) (x :: L) :=
  (h.keep0 (Keep.new nd)).cons (by rw [upd_ne ne.symm]; exact nx)
theorem made_at {H : Hp} {x d b : Addr} {o u : HO} (hx : H x = none) (hd : H d = none) (h : H b = some u) : upd (upd H d (.own x)) x o b = some u := by
  rw [upd_ne (ne_of_none h hx), upd_ne (ne_of_none h hd)]; exact h
theorem Keep.made {H : Hp} {x d : Addr} {o : HO} (hx : H x = none) (hd : H d = none) : Keep [] H (upd (upd H d (.own x)) x o) := fun _ _ h _ => made_at hx hd h
theorem Keep.tkL {H H' : Hp} {W : List Addr} (k : Keep W H H') (h : ∀ a ∈ W, ∃ ys, H a = some (.lst ys)) : TK H H' := fun b xs q => k b _ q fun z => by
  obtain ⟨ys, hy⟩ := h b z
  rw [q] at hy; cases hy

/-! tapes -/
inductive PL (H : Hp) : List V → List (Int × Int) → Prop
  | nil : PL H [] []
  | cons {t : Addr} {r c : Int} {vs : List V} {l : List (Int × Int)} : H t = some (.tup [.int r, .int c]) → PL H vs l → PL H (.ref t :: vs) ((r, c) :: l)
theorem PL.tk {H H' : Hp} (k : TK H H') {vs : List V} {l : List (Int × Int)} (h : PL H vs l) : PL H' vs l := by
  induction h with
  | nil => exact .nil
  | cons h _ ih => exact .cons (k _ _ h) ih
theorem PL.snoc {H : Hp} {vs : List V} {l : List (Int × Int)} {t : Addr} {r c : Int} (h : PL H vs l) (ht : H t = some (.tup [.int r, .int c])) : PL H (vs ++ [.ref t]) (l ++ [(r, c)]) := by
  induction h with
  | nil => exact .cons ht .nil
  | cons h _ ih => exact .cons h ih
theorem PL.len {H : Hp} {vs : List V} {l : List (Int × Int)} (h : PL H vs l) : vs.length = l.length := by
  induction h with
  | nil => rfl
  | cons _ _ ih => rw [List.length_cons, List.length_cons, ih]
theorem PL.get {H : Hp} {vs : List V} {l : List (Int × Int)} (h : PL H vs l) : ∀ {i : Nat} {v : V}, vs[i]? = some v → ∃ t r c, v = .ref t ∧ l[i]? = some (r, c) ∧ H t = some (.tup [.int r, .int c]) := by
  induction h with
  | nil => intro i v h; simp at h
  | cons h _ ih =>
    intro i v hv
    cases i with
    | zero => simp at hv; subst hv; exact ⟨_, _, _, rfl, rfl, h⟩
    | succ i => simpa using ih (by simpa using hv)
structure TapeAt (C : Addr) (H : Hp) (x rx tx : Addr) (rs : List Int) (tk : List (Int × Int)) : Prop where
  o : ∃ dx, H x = some (.ins C dx [("results", .ref rx), ("taken", .ref tx)])
  r : H rx = some (.lst (rs.map V.int))
  t : ∃ xs, H tx = some (.lst xs) ∧ PL H xs tk
  ne : rx ≠ tx
theorem TapeAt.keep {C : Addr} {H H' : Hp} {x rx tx : Addr} {rs : List Int} {tk : List (Int × Int)} {W : List Addr} (h : TapeAt C H x rx tx rs tk) (k : Keep W H H') (kt : TK H H') (w1 : x ∉ W) (w2 : rx ∉ W) (w3 : tx ∉ W) : TapeAt C H' x rx tx rs tk := by
  obtain ⟨dx, o⟩ := h.o
  obtain ⟨xs, t1, t2⟩ := h.t
  exact ⟨⟨dx, k _ _ o w1⟩, k _ _ h.r w2, ⟨xs, k _ _ t1 w3, t2.tk kt⟩, h.ne⟩
def nextR (rs : List Int) (tk : List (Int × Int)) (c : Int) : Int := if tk.length < rs.length then (rs.getD tk.length 0) % c else 0
def sp_tape (K : PySem.W.Frag) (C : Addr) : Sp := fun vs H Q _ => ∃ (x dx src : Addr) (rs : List Int), vs = [.ref x, .ref src] ∧ SqL K H src (rs.map V.int) ∧ H x = some (.ins C dx []) ∧ ∀ rx tx H', H rx = none → H tx = none → Keep [x] H H' → TapeAt C H' x rx tx rs [] → Q .non H'
def sp_take (C : Addr) : Sp := fun vs H Q _ => ∃ (x rx tx : Addr) (rs : List Int) (tk : List (Int × Int)) (c : Int), vs = [.ref x, .int c] ∧ 0 < c ∧ c < 1073741824 ∧ tk.length ≤ 100000 ∧ TapeAt C H x rx tx rs tk ∧
  ∀ H', Keep [tx] H H' → TapeAt C H' x rx tx rs (tk ++ [(nextR rs tk c, c)]) → Q (.int (nextR rs tk c)) H'
section
variable {P : Program} {w : World} {K : PySem.W.Frag} {mg : Str → Option Value} {base : Heap} {C_Ratio : Addr} {C_Tape : Addr} {C_Thinker : Addr} {C_Brain : Addr} {C_GameError : Addr} {C_TooLarge : Addr} {f_TooLarge___init : Addr} {T_EVENTS : Addr}
theorem ok_tape_init {f : Addr} {fd : FuncData} (M : Mk K C_Tape f) (F : C8.Fun K "__init__" "Tape.__init__" s_Tape___init f fd) (b : Binds K fd ["self", "results"] []) (T : Txt K mg C_Ratio C_Tape C_Thinker C_Brain C_GameError C_TooLarge T_EVENTS) :
    C8.Mak P w K mg base 1 "Tape" C_Tape (sp_tape K C_Tape) [] := by
  refine mak0 M T.m_Tape F b .nil sc_Tape___init (fun vs H Q E h => ?_) (fun cdv A outer s H vs Q E hr h => ?_)
  · obtain ⟨x, dx, src, rs, rfl, _⟩ := h
    rfl
  · obtain ⟨x, dx, src, rs, rfl, hS, hx, k⟩ := h
    refine ⟨_, (pss_cons (ps_fld (pv 0) (pe_callTy call_list_of (by rfl) T.n_list bo_list (pa_cons (pv 1) pa_nil)) rfl)
(pss_one (ps_fld (pv 0) (pe_lst pa_nil) rfl))), ?_⟩
    refine ⟨_, rfl, _, _, rfl, .inl hS, fun rx nrx => ?_⟩
    have exr : x ≠ rx := ne_of_none hx nrx
    refine ⟨_, rfl, x, C_Tape, dx, [], rfl, by rw [upd_ne exr]; exact hx, T.cl_Tape, T.a_Tape_results, by show 0 < 1000; decide, ?_⟩
    refine ⟨by show 0 ≤ sizeLine; decide, fun tx ntx => ?_⟩
    have ext : x ≠ tx := ne_of_none (H := upd (upd H rx (.lst (rs.map V.int))) x _) upd_same ntx
    have ert : rx ≠ tx := ne_of_none (H := upd (upd H rx (.lst (rs.map V.int))) x _) (by rw [upd_ne exr.symm]; exact upd_same) ntx
    refine ⟨_, rfl, x, C_Tape, dx, _, rfl, by rw [upd_ne ext]; exact upd_same, T.cl_Tape, T.a_Tape_taken, by show 1 < 1000; decide, ?_⟩
    have ntx' : H tx = none := by
      rw [upd_ne ext.symm, upd_ne ert.symm] at ntx
      exact ntx
    refine k rx tx _ nrx ntx' ?_ ⟨⟨dx, upd_same⟩, ?_, ⟨[], ?_, .nil⟩, ert⟩
    · exact (((Keep.new nrx).then_at (List.mem_singleton.mpr rfl)).then_own ntx').then_at (List.mem_singleton.mpr rfl)
    · rw [upd_ne exr.symm, upd_ne ert, upd_ne exr.symm]; exact upd_same
    · rw [upd_ne ext.symm]; exact upd_same
theorem ok_tape_take {f : Addr} {fd : FuncData} (me : Meth K C_Tape "take" f) (F : C8.Fun K "take" "Tape.take" s_Tape_take f fd) (b : Binds K fd ["self", "count"] []) (T : Txt K mg C_Ratio C_Tape C_Thinker C_Brain C_GameError C_TooLarge T_EVENTS) : C8.Met P w K mg base 1 C_Tape "take" (sp_take C_Tape) [] := by
  refine met0 T.cl_Tape me F b sc_Tape_take (fun vs H Q E h => ?_) (fun cdv A outer s H vs Q E hr h => ?_)
  · obtain ⟨x, rx, tx, rs, tk, c, rfl, _⟩ := h
    rfl
  · obtain ⟨x, rx, tx, rs, tk, c, rfl, c0, c1, hl, ⟨⟨dx, ho⟩, hr1, ⟨xs, ht, pl⟩, hne⟩, k⟩ := h
    refine ⟨_, (pss_cons (ps_set (i := 2) sc_Tape_take.nd rfl (by first | exact Or.inl rfl | exact Or.inr rfl) pe_int)
(pss_cut (ps_if (pt_cmpR op_lt (pe_callB call_len_seq (by rfl) T.n_len bo_len (pa_cons (pe_fld (pv 0) rfl) pa_nil)) (pe_callB call_len_seq (by rfl) T.n_len bo_len (pa_cons (pe_fld (pv 0) rfl) pa_nil)) (nomark _))
  (pss_one (ps_set (i := 2) sc_Tape_take.nd rfl (by first | exact Or.inl rfl | exact Or.inr rfl) (pe_op op_mod (pe_ix ix_list (pe_fld (pv 0) rfl) (pe_callB call_len_seq (by rfl) T.n_len bo_len (pa_cons (pe_fld (pv 0) rfl) pa_nil)) (fun _ _ => rfl)) (pv 1))))
  pss_nil)
(pss_cons (ps_expr (pe_bm PySem.F.plainAttrs_list PySem.F.slot_list_append PySem.F.type_list_append mt_append (pe_fld (pv 0) rfl) (pa_cons (pe_tup (pa_cons (pv 2) (pa_cons (pv 1) pa_nil))) pa_nil)))
(pss_one (ps_ret (pv 2)))))), ?_⟩
    refine ⟨fun σ H' => H' = H ∧ σ = [some (.ref x), some (.int c), some (.int (nextR rs tk c))], ?_, ?_⟩
    · have hlen := pl.len
      refine ⟨_, rfl, x, C_Tape, dx, _, _, rfl, ho, T.cl_Tape, T.a_Tape_taken, rfl, _, _, rfl, .inl (SqL.of ht), _, rfl, x, C_Tape, dx, _, _, rfl, ho, T.cl_Tape, T.a_Tape_results, rfl, _, _, rfl, .inl (SqL.of hr1), _, _, rfl, rfl, _, rfl, iteD (fun h => ?_) (fun h => ⟨rfl, ?_⟩)⟩
      · rw [List.length_map, hlen] at h
        have h' : tk.length < rs.length := by omega
        have hget : (rs.map V.int)[xs.length]? = some (.int (rs.getD tk.length 0)) := by
          rw [hlen, List.getElem?_map, List.getD_eq_getElem?_getD, List.getElem?_eq_getElem h']; rfl
        refine ⟨_, rfl, x, C_Tape, dx, _, _, rfl, ho, T.cl_Tape, T.a_Tape_results, rfl, _, rfl, x, C_Tape, dx, _, _, rfl, ho, T.cl_Tape, T.a_Tape_taken, rfl, _, _, rfl, .inl (SqL.of ht), _, _, _, _, rfl, rfl, SqL.of hr1, atI_nat hget, _, rfl, _, _, rfl, rfl, c0, rfl, ?_⟩
        unfold nextR
        rw [if_pos h']; rfl
      · rw [List.length_map, hlen] at h
        unfold nextR
        rw [if_neg (by omega)]; rfl
    rintro σ H' ⟨rfl, rfl⟩
    refine ⟨_, rfl, x, C_Tape, dx, _, _, rfl, ho, T.cl_Tape, T.a_Tape_taken, rfl, .inl ⟨rfl, _, SqL.of ht⟩, _, rfl, _, rfl, by show 2 ≤ sizeLine; decide, fun u nu => ?_⟩
    have ku : Keep [] H' (upd H' u (.tup [.int (nextR rs tk c), .int c])) := Keep.new nu
    have ht' := ku _ _ ht (by simp)
    have eut : u ≠ tx := (ne_of_none ht nu).symm
    have ext : x ≠ tx := ne_of ho ht (by intro z; cases z)
    refine ⟨_, _, _, rfl, rfl, ht', by rw [pl.len]; exact smallL (by omega), ?_⟩
    have kk : Keep [tx] H' (upd (upd H' u (.tup [.int (nextR rs tk c), .int c])) tx (.lst (xs ++ [.ref u]))) := (ku.mono (by simp)).then_at (List.mem_singleton.mpr rfl)
    have kt : TK H' (upd (upd H' u (.tup [.int (nextR rs tk c), .int c])) tx (.lst (xs ++ [.ref u]))) := (TK.new nu).trans (TK.lst ht')
    exact ⟨_, rfl, k _ kk ⟨⟨dx, kk _ _ ho (by simpa using ext)⟩, kk _ _ hr1 (by simpa using hne), ⟨_, upd_same, (pl.tk kt).snoc (by rw [upd_ne eut]; exact upd_same)⟩, hne⟩⟩
end

section
variable {P : Program} {w : World} {K : PySem.W.Frag} {mg : Str → Option Value} {base : Heap} {C_Ratio : Addr} {C_Tape : Addr} {C_Thinker : Addr} {C_Brain : Addr} {C_GameError : Addr} {C_TooLarge : Addr} {f_TooLarge___init : Addr} {T_EVENTS : Addr}
theorem ok_law_combine {f : Addr} {fd : FuncData} (D : C8.Def K mg "_law_combine" s_law_combine f fd) (b : Binds K fd ["sign", "a", "b"] []) (T : Txt K mg C_Ratio C_Tape C_Thinker C_Brain C_GameError C_TooLarge T_EVENTS) {k : Nat} : C8.Cal P w K mg base (k + 1) "_law_combine" sp_combine [] := by
  refine cal0 D b .nil sc_law_combine (fun vs H Q E h => ?_) (fun cdv A outer s H vs Q E hr h => ?_)
  · obtain ⟨s, a, b, rfl, _⟩ := h
    rfl
  · obtain ⟨s, x, y, rfl, hs, x0, x1, y0, y1, k⟩ := h
    refine ⟨_, (pss_cons (ps_if (pt_cmpR op_eq (pv 0) pe_str (nomark _))
  (pss_one (ps_ret (pe_op op_sub (pe_op op_add (pv 1) (pv 2)) (pe_op op_mul pe_int (pe_callTy call_int1 (by rfl) T.n_int bo_int (pa_cons (pe_cmpR op_gt (pe_op op_add (pv 1) (pv 2)) pe_int (nomark _)) pa_nil))))))
  pss_nil)
(pss_cons (ps_if (pt_cmpR op_eq (pv 0) pe_str (nomark _))
  (pss_one (ps_ret (pe_op op_mul (pe_op op_sub (pv 1) (pv 2)) (pe_callTy call_int1 (by rfl) T.n_int bo_int (pa_cons (pe_cmpR op_gt (pv 1) (pv 2) (nomark _)) pa_nil)))))
  pss_nil)
(pss_cons (ps_if (pt_cmpR op_eq (pv 0) pe_str (nomark _))
  (pss_one (ps_ret (pe_op op_sub (pe_op op_mul (pv 1) (pv 2)) (pe_op op_mul (pe_op op_fdiv (pe_op op_mul (pv 1) (pv 2)) pe_int) pe_int))))
  pss_nil)
(pss_cons (ps_if (pt_cmpR op_eq (pv 0) pe_str (nomark _))
  (pss_one (ps_ret (pe_callTy call_int1 (by rfl) T.n_int bo_int (pa_cons (pe_cmpR op_lt (pv 1) (pv 2) (nomark _)) pa_nil))))
  pss_nil)
(pss_cons (ps_if (pt_cmpR op_eq (pv 0) pe_str (nomark _))
  (pss_one (ps_ret (pe_callTy call_int1 (by rfl) T.n_int bo_int (pa_cons (pe_cmpR op_eq (pv 1) (pv 2) (nomark _)) pa_nil))))
  pss_nil)
(pss_cons (ps_if (pt_cmpR op_eq (pv 2) pe_int (nomark _))
  (pss_one (ps_ret pe_int))
  pss_nil)
(pss_cons (ps_set (i := 3) sc_law_combine.nd rfl (by first | exact Or.inl rfl | exact Or.inr rfl) (pe_op op_fdiv (pv 1) (pv 2)))
(pss_cons (ps_if (pt_cmpR op_eq (pv 0) pe_str (nomark _))
  (pss_one (ps_ret (pv 3)))
  pss_nil)
(pss_one (ps_ret (pe_op op_sub (pv 1) (pe_op op_mul (pv 3) (pv 2))))))))))))), ?_⟩
    refine ⟨_, rfl, rfl, _, rfl, iteD (fun e => ?_) (fun e1 => ?_)⟩
    · rw [V.str.inj e, comb_add] at k
      refine ⟨_, rfl, _, rfl, _, _, rfl, rfl, _, rfl, _, rfl, _, _, rfl, rfl, _, _, rfl, rfl, .inr ⟨_, rfl, _, _, rfl, rfl, .inl ⟨by decide, by decide⟩, _, _, rfl, rfl, ?_⟩⟩
      have e2 : x + y - 65536 * (if decide (65535 < x + y) = true then 1 else 0) = (x + y) % 65536 := by
        by_cases h : 65535 < x + y
        · rw [decide_eq_true h]; simp only [if_true]; omega
        · rw [decide_eq_false h]; simp only [Bool.false_eq_true, if_false]; omega
      have k' : Q (.int (x + y - 65536 * (if decide (65535 < x + y) = true then 1 else 0))) H := by rw [e2]; exact k
      exact k'
    refine ⟨_, rfl, rfl, _, rfl, iteD (fun e => ?_) (fun e2 => ?_)⟩
    · rw [V.str.inj e, comb_sub] at k
      refine ⟨_, rfl, _, rfl, _, _, rfl, rfl, _, rfl, _, rfl, _, _, rfl, rfl, .inr ⟨_, rfl, _, _, rfl, rfl, .inl ⟨by omega, by omega⟩, ?_⟩⟩
      have e2 : (x - y) * (if decide (y < x) = true then 1 else 0) = if x - y > 0 then x - y else 0 := by
        by_cases h : y < x
        · rw [decide_eq_true h, if_pos (by omega : x - y > 0)]; simp only [if_true]; omega
        · rw [decide_eq_false h, if_neg (by omega : ¬ x - y > 0)]; simp only [Bool.false_eq_true, if_false]; omega
      have k' : Q (.int ((x - y) * (if decide (y < x) = true then 1 else 0))) H := by rw [e2]; exact k
      exact k'
    refine ⟨_, rfl, rfl, _, rfl, iteD (fun e => ?_) (fun e3 => ?_)⟩
    · rw [V.str.inj e, comb_mul] at k
      refine ⟨_, rfl, _, rfl, _, _, rfl, rfl, .inl ⟨by omega, by omega⟩, _, rfl, _, rfl, _, _, rfl, rfl, .inl ⟨by omega, by omega⟩, _, _, rfl, rfl, ⟨by decide, by decide⟩, _, _, rfl, rfl, .inr ⟨by decide, by decide⟩, _, _, rfl, rfl, ?_⟩
      have e2 : x * y - x * y / 65536 * 65536 = x * y % 65536 := by omega
      have k' : Q (.int (x * y - x * y / 65536 * 65536)) H := by rw [e2]; exact k
      exact k'
    refine ⟨_, rfl, rfl, _, rfl, iteD (fun e => ?_) (fun e4 => ?_)⟩
    · rw [V.str.inj e, comb_lt] at k
      refine ⟨_, rfl, _, rfl, _, _, rfl, rfl, .inr ⟨_, rfl, ?_⟩⟩
      by_cases h : x < y
      · rw [if_pos h] at k; rw [decide_eq_true h]; exact k
      · rw [if_neg h] at k; rw [decide_eq_false h]; exact k
    refine ⟨_, rfl, rfl, _, rfl, iteD (fun e => ?_) (fun e5 => ?_)⟩
    · rw [V.str.inj e, comb_eq] at k
      refine ⟨_, rfl, _, rfl, rfl, .inr ⟨_, rfl, ?_⟩⟩
      by_cases h : x = y
      · rw [if_pos h] at k; rw [decide_eq_true (congrArg V.int h)]; exact k
      · rw [if_neg h] at k; rw [decide_eq_false (fun z => h (V.int.inj z))]; exact k
    have h2 : s = "/" ∨ s = "mod" := by
      rcases sg_cases hs with rfl | rfl | rfl | rfl | rfl | rfl | rfl
      · exact absurd rfl e1
      · exact absurd rfl e2
      · exact absurd rfl e3
      · exact .inl rfl
      · exact .inr rfl
      · exact absurd rfl e4
      · exact absurd rfl e5
    refine ⟨_, rfl, rfl, _, rfl, iteD (fun e => ?_) (fun e6 => ?_)⟩
    · have hy := V.int.inj e
      subst hy
      rcases h2 with rfl | rfl
      · rw [comb_div, if_neg (by decide)] at k; exact k
      · rw [comb_mod, if_neg (by decide)] at k; exact k
    have hy : 0 < y := by
      have : y ≠ 0 := fun q => e6 (congrArg V.int q)
      omega
    refine ⟨_, rfl, _, rfl, _, _, rfl, rfl, ⟨hy, by omega⟩, _, rfl, rfl, _, rfl, iteD (fun e => ?_) (fun e7 => ?_)⟩
    · rw [V.str.inj e, comb_div, if_pos hy] at k
      exact ⟨_, rfl, k⟩
    · have hm : s = "mod" := h2.elim (fun q => absurd (congrArg V.str q) e7) id
      rw [hm, comb_mod, if_pos hy] at k
      refine ⟨_, rfl, _, rfl, _, rfl, _, _, rfl, rfl, .inr ⟨by omega, by omega⟩, _, _, rfl, rfl, ?_⟩
      have e2 : x - x / y * y = x % y := by rw [Int.emod_def, Int.mul_comm]
      have k' : Q (.int (x - x / y * y)) H := by rw [e2]; exact k
      exact k'
end

def sp_expr (K : PySem.W.Frag) (n : Nat) : Sp := fun vs H Q _ => ∃ (p q la : Addr) (ns : List Int) (xs : List Str) (d : Int), vs = [.ref p, .ref la, .int d] ∧ 1 ≤ d ∧ d.toNat ≤ n ∧ Pool H p q ns ∧
  H la = some (.lst (xs.map V.str)) ∧ la ≠ p ∧ xs.length ≤ 1000 ∧
  ∀ r e H', EV K H' r e → e.Ok xs [] → e.dep ≤ d.toNat → Pool H' p q ns → Keep [p] H H' → Q r H'
theorem empty_ne {ys : List Str} (e : (!(ys.map V.str).isEmpty) = true) : 0 < ys.length := by
  cases ys with
  | nil => simp at e
  | cons a r => exact Nat.succ_pos _
theorem sg_at : ∀ m, m < 8 → ∃ s, s ∈ sgL ∧ ([.str "+", .str "-", .str "*", .str "/", .str "mod", .str "<", .str "=", .str "+"] : List V)[m]? = some (.str s)
  | 0, _ => ⟨_, by decide +kernel, rfl⟩
  | 1, _ => ⟨_, by decide +kernel, rfl⟩
  | 2, _ => ⟨_, by decide +kernel, rfl⟩
  | 3, _ => ⟨_, by decide +kernel, rfl⟩
  | 4, _ => ⟨_, by decide +kernel, rfl⟩
  | 5, _ => ⟨_, by decide +kernel, rfl⟩
  | 6, _ => ⟨_, by decide +kernel, rfl⟩
  | 7, _ => ⟨_, by decide +kernel, rfl⟩
section
variable {P : Program} {w : World} {K : PySem.W.Frag} {mg : Str → Option Value} {base : Heap} {C_Ratio : Addr} {C_Tape : Addr} {C_Thinker : Addr} {C_Brain : Addr} {C_GameError : Addr} {C_TooLarge : Addr} {f_TooLarge___init : Addr} {T_EVENTS : Addr}
theorem ok_law_expr0 {f : Addr} {fd : FuncData} (D : C8.Def K mg "_law_expression" s_law_expression f fd) (b : Binds K fd ["pool", "names", "deep"] []) : C8.Cal P w K mg base 3 "_law_expression" (sp_expr K 0) [] :=
  ⟨f, fd, ["pool", "names", "deep"], [], ⟨fun vs H Q E h => (by obtain ⟨p, q, la, ns, xs, d, rfl, _⟩ := h; rfl), fun A outer s H args us vs Q E _ _ _ _ h => (by obtain ⟨p, q, la, ns, xs, d, _, h1, h2, _⟩ := h; omega)⟩, D.mgf, D.kp, b, .nil⟩
theorem ok_law_expr {f : Addr} {fd : FuncData} (D : C8.Def K mg "_law_expression" s_law_expression f fd) (b : Binds K fd ["pool", "names", "deep"] []) (T : Txt K mg C_Ratio C_Tape C_Thinker C_Brain C_GameError C_TooLarge T_EVENTS) {n k : Nat} (c_law_expression : C8.Cal P w K mg base k "_law_expression" (sp_expr K n) [])
    (c_law_draw : C8.Cal P w K mg base k "_law_draw" sp_law_draw []) (c_law_spend : C8.Cal P w K mg base k "_law_spend" sp_law_spend []) (c_law_number : C8.Cal P w K mg base k "_law_number" sp_law_number []) :
    C8.Cal P w K mg base (k + 1) "_law_expression" (sp_expr K (n + 1)) [] := by
  refine cal0 D b .nil sc_law_expression (fun vs H Q E h => ?_) (fun cdv A outer s H vs Q E hr h => ?_)
  · obtain ⟨p, q, la, ns, xs, d, rfl, _⟩ := h
    rfl
  · obtain ⟨p, q, la, ns, xs, d, rfl, d1, dn, hP, ha, nla, hxl, k⟩ := h
    refine ⟨_, (pss_cons (ps_set (i := 3) sc_law_expression.nd rfl (by first | exact Or.inl rfl | exact Or.inr rfl) (pe_c c_law_draw hr (by first | exact Nat.le_refl _ | decide | omega) rfl (pa_cons (pv 0) (pa_cons pe_int pa_nil))))
(pss_cut (ps_if (PW.pt (pw_and (pt_cmpR op_gt (pv 2) pe_int (nomark _)) (pw_and (pt_cmpR op_lt (pv 3) pe_int (nomark _)) (pw_and1 (pt_val (pe_c c_law_spend hr (by first | exact Nat.le_refl _ | decide | omega) rfl (pa_cons (pv 0) pa_nil)))))))
  (pss_cons (ps_if (pt_cmpR op_gt (pv 3) pe_int (nomark _))
    (pss_one (ps_ret (pe_tup (pa_cons pe_str (pa_cons (pe_c c_law_expression hr (by first | exact Nat.le_refl _ | decide | omega) rfl (pa_cons (pv 0) (pa_cons (pv 1) (pa_cons (pe_op op_sub (pv 2) pe_int) pa_nil)))) pa_nil)))))
    pss_nil)
  (pss_cons (ps_set (i := 4) sc_law_expression.nd rfl (by first | exact Or.inl rfl | exact Or.inr rfl) (pe_ix ix_tup (pe_tup (pa_cons pe_str (pa_cons pe_str (pa_cons pe_str (pa_cons pe_str (pa_cons pe_str (pa_cons pe_str (pa_cons pe_str (pa_cons pe_str pa_nil))))))))) (pv 3) (fun _ _ => rfl)))
  (pss_cons (ps_set (i := 5) sc_law_expression.nd rfl (by first | exact Or.inl rfl | exact Or.inr rfl) (pe_c c_law_expression hr (by first | exact Nat.le_refl _ | decide | omega) rfl (pa_cons (pv 0) (pa_cons (pv 1) (pa_cons (pe_op op_sub (pv 2) pe_int) pa_nil)))))
  (pss_one (ps_ret (pe_tup (pa_cons (pv 4) (pa_cons (pv 5) (pa_cons (pe_c c_law_expression hr (by first | exact Nat.le_refl _ | decide | omega) rfl (pa_cons (pv 0) (pa_cons (pv 1) (pa_cons (pe_op op_sub (pv 2) pe_int) pa_nil)))) pa_nil)))))))))
  pss_nil)
(pss_cons (ps_if (pt_cmpR op_eq (pv 3) pe_int (nomark _))
  (pss_one (ps_ret (pe_tup (pa_cons pe_str pa_nil))))
  pss_nil)
(pss_cut (ps_if (PW.pt (pw_and (pt_truth (pv 1) (by intro _; rfl)) (pw_and1 (pt_cmpR op_eq (pe_op op_mod (pe_callTy call_int1 (by rfl) T.n_int bo_int (pa_cons (pv 3) pa_nil)) pe_int) pe_int (nomark _)))))
  (pss_one (ps_ret (pe_tup (pa_cons pe_str (pa_cons (pe_ix ix_list (pv 1) (pe_c c_law_draw hr (by first | exact Nat.le_refl _ | decide | omega) rfl (pa_cons (pv 0) (pa_cons (pe_callB call_len_seq (by rfl) T.n_len bo_len (pa_cons (pv 1) pa_nil)) pa_nil))) (fun _ _ => rfl)) pa_nil)))))
  pss_nil)
(pss_one (ps_ret (pe_tup (pa_cons pe_str (pa_cons (pe_c c_law_number hr (by first | exact Nat.le_refl _ | decide | omega) rfl (pa_cons (pv 0) pa_nil)) pa_nil))))))))), ?_⟩
    -- one part of it
    have sub : ∀ {H1 : Hp} {R : VK} {E1 : XK}, 1 < d → Pool H1 p q ns → Keep [p] H H1 → (∀ r e H', EV K H' r e → e.Ok xs [] → e.dep ≤ (d - 1).toNat → Pool H' p q ns → Keep [p] H1 H' → R r H') → sp_expr K n [.ref p, .ref la, .int (d - 1)] H1 R E1 :=
      fun hd P1 K1 g => ⟨p, q, la, ns, xs, d - 1, rfl, by omega, by omega, P1, K1 _ _ ha (by simpa using nla), nla, hxl, g⟩
    have Ha : ∀ {H1 : Hp}, Keep [p] H H1 → H1 la = some (.lst (xs.map V.str)) := fun K1 => K1 _ _ ha (by simpa using nla)
    refine ⟨_, rfl, p, q, ns, 14, rfl, by decide, by decide, hP, fun kind H1 r0 r1 P1 K1 => ?_⟩
    refine ⟨fun σ H' => σ = [some (.ref p), some (.ref la), some (.int d), some (.int kind), none, none] ∧ Pool H' p q ns ∧ Keep [p] H H', ?_, ?_⟩
    · refine ⟨_, rfl, _, _, rfl, rfl, _, rfl, iteD (fun hd => ?_) (fun hd => ⟨rfl, P1, K1⟩)⟩
      refine ⟨_, rfl, _, _, rfl, rfl, _, rfl, iteD (fun hk => ?_) (fun hk => ⟨rfl, P1, K1⟩)⟩
      refine ⟨_, rfl, p, q, ns, rfl, P1, fun bb H2 P2 K2 => ⟨_, rfl, iteB (fun eb => ?_) (fun eb => ⟨rfl, P2, K1.trans K2⟩)⟩⟩
      have K2' := K1.trans K2
      refine ⟨_, rfl, _, _, rfl, rfl, _, rfl, iteD (fun _ => ?_) (fun hk8 => ?_)⟩
      · -- view
        refine ⟨_, rfl, _, rfl, _, rfl, _, _, rfl, rfl, sub (E1 := E) hd P2 K2' fun r e H4 E4 o4 d4 P4 K4 => ⟨by show 2 ≤ sizeLine; decide, fun t nt => ?_⟩⟩
        exact k _ (.view e) _ (.view (.inl upd_same) (E4.tk (TK.new nt))) o4 (by show e.dep + 1 ≤ _; omega) (P4.new nt) ((K2'.trans K4).then_new nt)
      -- a sign
      obtain ⟨m, rfl⟩ : ∃ m : Nat, kind = (m : Int) := ⟨kind.toNat, by omega⟩
      obtain ⟨sg, hsg, hat⟩ := sg_at m (by omega)
      refine ⟨by show 8 ≤ sizeLine; decide, fun t nt => ?_⟩
      refine ⟨_, rfl, _, _, _, _, rfl, rfl, SqT.of upd_same, atI_nat hat, ?_⟩
      have P4 := P2.new (o := .tup [.str "+", .str "-", .str "*", .str "/", .str "mod", .str "<", .str "=", .str "+"]) nt
      have K4 := K2'.then_new (o := .tup [.str "+", .str "-", .str "*", .str "/", .str "mod", .str "<", .str "=", .str "+"]) nt
      refine ⟨_, rfl, _, rfl, _, rfl, _, _, rfl, rfl, sub (E1 := E) hd P4 K4 fun r1 e1 H5 E5 o5 d5 P5 K5 => ?_⟩
      have K5' := K4.trans K5
      refine ⟨_, rfl, _, rfl, _, rfl, _, rfl, _, rfl, _, _, rfl, rfl, sub (E1 := E) hd P5 K5' fun r2 e2 H7 E7 o7 d7 P7 K7 => ⟨by show 3 ≤ sizeLine; decide, fun t nt => ?_⟩⟩
      exact k _ (.op sg e1 e2) _ (.op (.inl upd_same) ((E5.tk (P5.tk K7)).tk (TK.new nt)) (E7.tk (TK.new nt))) ⟨hsg, o5, o7⟩ (by show max e1.dep e2.dep + 1 ≤ _; omega) (P7.new nt) ((K5'.trans K7).then_new nt)
    rintro σ H2 ⟨rfl, P2, K2⟩
    refine ⟨_, rfl, rfl, _, rfl, iteD (fun _ => ?_) (fun _ => ?_)⟩
    · refine ⟨by show 1 ≤ sizeLine; decide, fun t nt => ?_⟩
      exact k _ .long _ (.long (.inl upd_same)) trivial (by show 1 ≤ _; omega) (P2.new nt) (K2.then_new nt)
    refine ⟨fun σ H' => σ = [some (.ref p), some (.ref la), some (.int d), some (.int kind), none, none] ∧ H' = H2, ?_, ?_⟩
    · refine ⟨_, rfl, _, .inl ⟨_, SqL.of (Ha K2), rfl⟩, iteB (fun e => ?_) (fun e => ⟨rfl, rfl⟩)⟩
      have hy0 := empty_ne e
      refine ⟨_, rfl, .inl ⟨_, rfl, _, _, rfl, rfl, (by show (0 : Int) < 2; decide), rfl, _, rfl, iteD (fun _ => ?_) (fun _ => ⟨rfl, rfl⟩)⟩⟩
      refine ⟨_, rfl, _, rfl, _, rfl, _, _, rfl, .inl (SqL.of (Ha K2)), p, q, ns, _, rfl, by rw [List.length_map]; omega, by rw [List.length_map]; omega, P2, fun r H4 z0 z1 P4 K4 => ?_⟩
      rw [List.length_map] at z1
      obtain ⟨m, rfl⟩ : ∃ m : Nat, r = (m : Int) := ⟨r.toNat, by omega⟩
      have hm : m < xs.length := by omega
      refine ⟨_, _, _, _, rfl, rfl, SqL.of (Ha (K2.trans K4)), atI_nat (by rw [List.getElem?_map, List.getElem?_eq_getElem hm]; rfl), by show 2 ≤ sizeLine; decide, fun t nt => ?_⟩
      exact k _ (.var xs[m]) _ (.var (.inl upd_same)) (List.getElem_mem hm) (by show 1 ≤ _; omega) (P4.new nt) ((K2.trans K4).then_new nt)
    rintro σ H' ⟨rfl, h33⟩
    rw [h33]
    refine ⟨_, rfl, p, q, ns, rfl, P2, fun r H3 z0 z1 P3 K3 => ⟨by show 2 ≤ sizeLine; decide, fun t nt => ?_⟩⟩
    exact k _ (.num r) _ (.num (.inl upd_same)) ⟨z0, z1⟩ (by show 1 ≤ _; omega) (P3.new nt) ((K2.trans K3).then_new nt)
end

def sp_lvalue (K : PySem.W.Frag) (n : Nat) : Sp := fun vs H Q _ => ∃ v td od sl e ns ps tb on seen, vs = [v, .ref td, .ref od, .ref sl] ∧ EV K H v e ∧ e.Ok ns ps ∧ e.dep ≤ n ∧ DcI H td ns tb ∧ DcB H od ps on ∧ H sl = some (.lst (seen.map V.int)) ∧ TbOk ns tb ∧ SeenOk seen ∧ seen.length ≤ 60000 ∧ ∀ H', Keep [] H H' → Q (.int (val tb on seen e)) H'
theorem DcI.keep {H H' : Hp} {a : Addr} {ns : List Str} {tb : Str → Int} {W : List Addr} (h : DcI H a ns tb) (k : Keep W H H') (w : a ∉ W) : DcI H' a ns tb := by
  obtain ⟨kvs, e, q⟩ := h
  exact ⟨kvs, k _ _ e w, q⟩
theorem view_at {seen : List Int} {z : Int} (h0 : 0 ≤ z) : atI ((seen ++ [0]).map V.int) (if (seen.length : Int) < z then (seen.length : Int) else z) = some (.int (if z < seen.length then seen.getD z.toNat 0 else 0)) := by
  have last : atI ((seen ++ [0]).map V.int) (seen.length : Int) = some (.int 0) := by
    refine atI_nat ?_
    rw [List.getElem?_map, List.getElem?_append_right (Nat.le_refl _), Nat.sub_self]; rfl
  by_cases h : z < seen.length
  · rw [if_neg (by omega), if_pos h]
    obtain ⟨m, rfl⟩ : ∃ m : Nat, z = (m : Int) := ⟨z.toNat, by omega⟩
    have hm : m < seen.length := by omega
    refine atI_nat ?_
    rw [List.getElem?_map, List.getElem?_append_left hm, List.getElem?_eq_getElem hm, List.getD_eq_getElem?_getD]
    show _ = some (V.int (seen[((m : Nat) : Int).toNat]?.getD 0))
    rw [Int.toNat_natCast, List.getElem?_eq_getElem hm]; rfl
  · rw [if_neg h]
    split
    · exact last
    · rw [show z = (seen.length : Int) by omega]; exact last
section
variable {P : Program} {w : World} {K : PySem.W.Frag} {mg : Str → Option Value} {base : Heap} {C_Ratio : Addr} {C_Tape : Addr} {C_Thinker : Addr} {C_Brain : Addr} {C_GameError : Addr} {C_TooLarge : Addr} {f_TooLarge___init : Addr} {T_EVENTS : Addr}
theorem ok_law_value0 {f : Addr} {fd : FuncData} (D : C8.Def K mg "_law_value" s_law_value f fd) (b : Binds K fd ["due", "table", "on", "seen"] []) : C8.Cal P w K mg base 1 "_law_value" (sp_lvalue K 0) [] :=
  ⟨f, fd, ["due", "table", "on", "seen"], [], ⟨fun vs H Q E h => (by obtain ⟨v, td, od, sa, e, ns, ps, tb, on, seen, rfl, _⟩ := h; rfl), fun A outer s H args us vs Q E _ _ _ _ h => (by obtain ⟨v, td, od, sa, e, ns, ps, tb, on, seen, _, _, _, z, _⟩ := h; have := e.dep_pos; omega)⟩, D.mgf, D.kp, b, .nil⟩
theorem ok_law_value {f : Addr} {fd : FuncData} (D : C8.Def K mg "_law_value" s_law_value f fd) (b : Binds K fd ["due", "table", "on", "seen"] []) (T : Txt K mg C_Ratio C_Tape C_Thinker C_Brain C_GameError C_TooLarge T_EVENTS) {n k : Nat}
    (c_law_value : C8.Cal P w K mg base k "_law_value" (sp_lvalue K n) []) (c_law_combine : C8.Cal P w K mg base k "_law_combine" sp_combine []) : C8.Cal P w K mg base (k + 1) "_law_value" (sp_lvalue K (n + 1)) [] := by
  refine cal0 D b .nil sc_law_value (fun vs H Q E h => ?_) (fun cdv A outer s H vs Q E hr h => ?_)
  · obtain ⟨v, td, od, sa, e, ns, ps, tb, on, seen, rfl, _⟩ := h
    rfl
  · obtain ⟨v, td, od, sl, e, ns, ps, tb, on, seen, rfl, he, hok, hd, ht, ho, hs, tok, sok, hl, k⟩ := h
    have hu := hu_of hr
    refine ⟨_, (pss_cons (ps_if (pt_cmpR op_eq (pe_ix ix_tup (pv 0) pe_int (fun _ _ => rfl)) pe_str (nomark _))
  (pss_one (ps_ret (pe_ix ix_tup (pv 0) pe_int (fun _ _ => rfl))))
  pss_nil)
(pss_cons (ps_if (pt_cmpR op_eq (pe_ix ix_tup (pv 0) pe_int (fun _ _ => rfl)) pe_str (nomark _))
  (pss_one (ps_ret (pe_dget hu (pv 1) (pe_ix ix_tup (pv 0) pe_int (fun _ _ => rfl)) (fun _ _ => rfl))))
  pss_nil)
(pss_cons (ps_if (pt_cmpR op_eq (pe_ix ix_tup (pv 0) pe_int (fun _ _ => rfl)) pe_str (nomark _))
  (pss_one (ps_ret (pe_callB call_len_seq (by rfl) T.n_len bo_len (pa_cons (pv 3) pa_nil))))
  pss_nil)
(pss_cons (ps_if (pt_cmpR op_eq (pe_ix ix_tup (pv 0) pe_int (fun _ _ => rfl)) pe_str (nomark _))
  (pss_cons (ps_set (i := 4) sc_law_value.nd rfl (by first | exact Or.inl rfl | exact Or.inr rfl) (pe_c c_law_value hr (by first | exact Nat.le_refl _ | decide | omega) rfl (pa_cons (pe_ix ix_tup (pv 0) pe_int (fun _ _ => rfl)) (pa_cons (pv 1) (pa_cons (pv 2) (pa_cons (pv 3) pa_nil))))))
  (pss_one (ps_ret (pe_ix ix_list (pe_op op_cat (pe_callTy call_list_of (by rfl) T.n_list bo_list (pa_cons (pv 3) pa_nil)) (pe_lst (pa_cons pe_int pa_nil))) (pe_callB (call_min2 rfl) (by rfl) T.n_min bo_min (pa_cons (pv 4) (pa_cons (pe_callB call_len_seq (by rfl) T.n_len bo_len (pa_cons (pv 3) pa_nil)) pa_nil))) (fun _ _ => rfl)))))
  pss_nil)
(pss_cons (ps_if (pt_cmpR op_eq (pe_ix ix_tup (pv 0) pe_int (fun _ _ => rfl)) pe_str (nomark _))
  (pss_one (ps_ret (pe_c c_law_value hr (by first | exact Nat.le_refl _ | decide | omega) rfl (pa_cons (pe_ix ix_tup (pv 0) (pe_op op_sub pe_int (pe_callTy call_int1 (by rfl) T.n_int bo_int (pa_cons (pe_dget hu (pv 2) (pe_ix ix_tup (pv 0) pe_int (fun _ _ => rfl)) (fun _ _ => rfl)) pa_nil))) (fun _ _ => rfl)) (pa_cons (pv 1) (pa_cons (pv 2) (pa_cons (pv 3) pa_nil)))))))
  pss_nil)
(pss_cons (ps_set (i := 5) sc_law_value.nd rfl (by first | exact Or.inl rfl | exact Or.inr rfl) (pe_c c_law_value hr (by first | exact Nat.le_refl _ | decide | omega) rfl (pa_cons (pe_ix ix_tup (pv 0) pe_int (fun _ _ => rfl)) (pa_cons (pv 1) (pa_cons (pv 2) (pa_cons (pv 3) pa_nil))))))
(pss_one (ps_ret (pe_c c_law_combine hr (by first | exact Nat.le_refl _ | decide | omega) rfl (pa_cons (pe_ix ix_tup (pv 0) pe_int (fun _ _ => rfl)) (pa_cons (pv 5) (pa_cons (pe_c c_law_value hr (by first | exact Nat.le_refl _ | decide | omega) rfl (pa_cons (pe_ix ix_tup (pv 0) pe_int (fun _ _ => rfl)) (pa_cons (pv 1) (pa_cons (pv 2) (pa_cons (pv 3) pa_nil))))) pa_nil)))))))))))), ?_⟩
    cases he with
    | num h =>
      refine ⟨_, rfl, _, _, _, _, rfl, rfl, h.sq, rfl, rfl, _, rfl, iteDT rfl ?_⟩
      exact ⟨_, rfl, _, _, _, _, rfl, rfl, h.sq, rfl, k _ (Keep.refl _ _)⟩
    | var h =>
      refine ⟨_, rfl, _, _, _, _, rfl, rfl, h.sq, rfl, rfl, _, rfl, iteDF (nes (by decide +kernel)) ?_⟩
      refine ⟨_, rfl, _, _, _, _, rfl, rfl, h.sq, rfl, rfl, _, rfl, iteDT rfl ?_⟩
      exact ⟨_, rfl, _, rfl, _, _, _, _, rfl, rfl, h.sq, rfl, _, _, rfl, ht.get hok, k _ (Keep.refl _ _)⟩
    | long h =>
      refine ⟨_, rfl, _, _, _, _, rfl, rfl, h.sq, rfl, rfl, _, rfl, iteDF (nes (by decide +kernel)) ?_⟩
      refine ⟨_, rfl, _, _, _, _, rfl, rfl, h.sq, rfl, rfl, _, rfl, iteDF (nes (by decide +kernel)) ?_⟩
      refine ⟨_, rfl, _, _, _, _, rfl, rfl, h.sq, rfl, rfl, _, rfl, iteDT rfl ?_⟩
      refine ⟨_, rfl, _, _, rfl, .inl (SqL.of hs), ?_⟩
      have kk := k _ (Keep.refl _ _)
      unfold val at kk
      rw [if_neg (by omega)] at kk
      rw [List.length_map]; exact kk
    | view h h1 =>
      refine ⟨_, rfl, _, _, _, _, rfl, rfl, h.sq, rfl, rfl, _, rfl, iteDF (nes (by decide +kernel)) ?_⟩
      refine ⟨_, rfl, _, _, _, _, rfl, rfl, h.sq, rfl, rfl, _, rfl, iteDF (nes (by decide +kernel)) ?_⟩
      refine ⟨_, rfl, _, _, _, _, rfl, rfl, h.sq, rfl, rfl, _, rfl, iteDF (nes (by decide +kernel)) ?_⟩
      refine ⟨_, rfl, _, _, _, _, rfl, rfl, h.sq, rfl, rfl, _, rfl, iteDT rfl ?_⟩
      have hr2 := ev_range (on := on) tok sok h1 hok
      refine ⟨_, rfl, _, _, _, _, rfl, rfl, h.sq, rfl, _, rfl, _, rfl, _, rfl, _, td, od, sl, _, ns, ps, tb, on, seen, rfl, h1, hok, (by unfold Ex.dep at hd; omega), ht, ho, hs, tok, sok, hl, fun H1 K1 => ?_⟩
      refine ⟨_, rfl, _, _, rfl, .inl (SqL.of (K1 _ _ hs (by simp))), fun l1 n1 => And.intro (by show 1 ≤ sizeLine; decide) <| fun l2 n2 => ?_⟩
      have k2 : Keep [] H1 (upd H1 l1 (.lst (seen.map V.int))) := Keep.new n1
      have k3 := k2.then_new (o := .lst [.int 0]) n2
      refine ⟨l1, l2, _, _, rfl, rfl, Keep.new (W := []) n2 _ _ upd_same (by simp), upd_same, smallM (by rw [List.length_map]; simp; omega), fun l3 n3 => ?_⟩
      have k4 := (K1.trans k3).then_new (o := .lst (seen.map V.int ++ [.int 0])) n3
      refine ⟨_, rfl, _, rfl, _, _, rfl, .inl (SqL.of (k4 _ _ hs (by simp))), _, _, rfl, ?_⟩
      rw [List.length_map]
      have hv := view_at (seen := seen) hr2.1
      rw [List.map_append] at hv
      refine ⟨l3, _, _, _, rfl, rfl, SqL.of upd_same, hv, ?_⟩
      have kk := k _ k4
      unfold val at kk
      exact kk
    | @pick _ x _ _ _ _ h h1 h2 =>
      refine ⟨_, rfl, _, _, _, _, rfl, rfl, h.sq, rfl, rfl, _, rfl, iteDF (nes (by decide +kernel)) ?_⟩
      refine ⟨_, rfl, _, _, _, _, rfl, rfl, h.sq, rfl, rfl, _, rfl, iteDF (nes (by decide +kernel)) ?_⟩
      refine ⟨_, rfl, _, _, _, _, rfl, rfl, h.sq, rfl, rfl, _, rfl, iteDF (nes (by decide +kernel)) ?_⟩
      refine ⟨_, rfl, _, _, _, _, rfl, rfl, h.sq, rfl, rfl, _, rfl, iteDF (nes (by decide +kernel)) ?_⟩
      refine ⟨_, rfl, _, _, _, _, rfl, rfl, h.sq, rfl, rfl, _, rfl, iteDT rfl ?_⟩
      unfold val at k
      unfold Ex.dep at hd
      have hoo := ho.get hok.1
      cases q : on x with
      | true =>
        rw [q] at hoo
        simp only [if_pos q] at k
        exact ⟨_, rfl, _, rfl, _, rfl, _, _, _, _, rfl, rfl, h.sq, rfl, _, _, rfl, hoo, .inr ⟨_, rfl, _, _, rfl, rfl, _, _, _, _, rfl, rfl, h.sq, rfl, _, rfl, _, rfl, _, rfl, _, td, od, sl, _, ns, ps, tb, on, seen, rfl, h1, hok.2.1, (by omega), ht, ho, hs, tok, sok, hl, k⟩⟩
      | false =>
        rw [q] at hoo
        have hq : ¬ on x = true := by simp [q]
        simp only [if_neg hq] at k
        exact ⟨_, rfl, _, rfl, _, rfl, _, _, _, _, rfl, rfl, h.sq, rfl, _, _, rfl, hoo, .inr ⟨_, rfl, _, _, rfl, rfl, _, _, _, _, rfl, rfl, h.sq, rfl, _, rfl, _, rfl, _, rfl, _, td, od, sl, _, ns, ps, tb, on, seen, rfl, h2, hok.2.2, (by omega), ht, ho, hs, tok, sok, hl, k⟩⟩
    | op h h1 h2 =>
      obtain ⟨n1, n2, n3, n4, n5⟩ := sg_not _ hok.1
      refine ⟨_, rfl, _, _, _, _, rfl, rfl, h.sq, rfl, rfl, _, rfl, iteDF (nes n1) ?_⟩
      refine ⟨_, rfl, _, _, _, _, rfl, rfl, h.sq, rfl, rfl, _, rfl, iteDF (nes n2) ?_⟩
      refine ⟨_, rfl, _, _, _, _, rfl, rfl, h.sq, rfl, rfl, _, rfl, iteDF (nes n3) ?_⟩
      refine ⟨_, rfl, _, _, _, _, rfl, rfl, h.sq, rfl, rfl, _, rfl, iteDF (nes n4) ?_⟩
      refine ⟨_, rfl, _, _, _, _, rfl, rfl, h.sq, rfl, rfl, _, rfl, iteDF (nes n5) ?_⟩
      unfold val at k
      unfold Ex.dep at hd
      have ha := val_range (on := on) tok sok _ hok.2.1
      have hb := val_range (on := on) tok sok _ hok.2.2
      refine ⟨_, rfl, _, _, _, _, rfl, rfl, h.sq, rfl, _, rfl, _, rfl, _, rfl, _, td, od, sl, _, ns, ps, tb, on, seen, rfl, h1, hok.2.1, (by omega), ht, ho, hs, tok, sok, hl, fun H1 K1 => ?_⟩
      have h' := h.tk K1.tk
      refine ⟨_, rfl, _, _, _, _, rfl, rfl, h'.sq, rfl, _, rfl, _, rfl, _, _, _, _, rfl, rfl, h'.sq, rfl, _, rfl, _, rfl, _, rfl, _, td, od, sl, _, ns, ps, tb, on, seen, rfl, h2.tk K1.tk, hok.2.2, (by omega), ht.keep K1 (by simp), ho.keep K1, K1 _ _ hs (by simp), tok, sok, hl, fun H2 K2 => ?_⟩
      exact ⟨_, _, _, rfl, hok.1, ha.1, ha.2, hb.1, hb.2, k _ (K1.trans K2)⟩
theorem lvalue_all {f : Addr} {fd : FuncData} (D : C8.Def K mg "_law_value" s_law_value f fd) (b : Binds K fd ["due", "table", "on", "seen"] []) (T : Txt K mg C_Ratio C_Tape C_Thinker C_Brain C_GameError C_TooLarge T_EVENTS) (c : C8.Cal P w K mg base 1 "_law_combine" sp_combine []) : ∀ n, C8.Cal P w K mg base (n + 1) "_law_value" (sp_lvalue K n) []
  | 0 => ok_law_value0 D b
  | n + 1 => ok_law_value D b T (lvalue_all D b T c n) (calUp c (by omega))
theorem expr_all {f : Addr} {fd : FuncData} (D : C8.Def K mg "_law_expression" s_law_expression f fd) (b : Binds K fd ["pool", "names", "deep"] []) (T : Txt K mg C_Ratio C_Tape C_Thinker C_Brain C_GameError C_TooLarge T_EVENTS) (c1 : C8.Cal P w K mg base 1 "_law_draw" sp_law_draw []) (c2 : C8.Cal P w K mg base 1 "_law_spend" sp_law_spend []) (c3 : C8.Cal P w K mg base 2 "_law_number" sp_law_number []) : ∀ n, C8.Cal P w K mg base (n + 3) "_law_expression" (sp_expr K n) []
  | 0 => ok_law_expr0 D b
  | n + 1 => ok_law_expr D b T (expr_all D b T c1 c2 c3 n) (calUp c1 (by omega)) (calUp c2 (by omega)) (calUp c3 (by omega))
end

/-! statements of a brain -/
mutual
inductive Th where
  | set (x : Str) (e : Ex)
  | lot (x : Str) (e : Ex)
  | iff (t : Ex) (a b : Bl)
  | whl (t : Ex) (b : Bl)
inductive Bl where
  | nil
  | cons (t : Th) (b : Bl)
end
def ExOk (ns : List Str) (e : Ex) : Prop := e.Ok ns [] ∧ e.dep ≤ 12
mutual
def Th.Ok (ns : List Str) : Th → Prop
  | .set x e => x ∈ ns ∧ ExOk ns e
  | .lot x e => x ∈ ns ∧ ExOk ns e
  | .iff t a b => ExOk ns t ∧ a.Ok ns ∧ b.Ok ns
  | .whl t b => ExOk ns t ∧ b.Ok ns
def Bl.Ok (ns : List Str) : Bl → Prop
  | .nil => True
  | .cons t b => t.Ok ns ∧ b.Ok ns
end
mutual
def Th.dep : Th → Nat
  | .set _ _ => 0
  | .lot _ _ => 0
  | .iff _ a b => max a.dep b.dep + 1
  | .whl _ b => b.dep + 1
def Bl.dep : Bl → Nat
  | .nil => 0
  | .cons t b => max t.dep b.dep
end
def Bl.len : Bl → Nat
  | .nil => 0
  | .cons _ b => b.len + 1
mutual
def Th.Sm : Th → Prop
  | .set _ _ => True
  | .lot _ _ => True
  | .iff _ a b => (a.len ≤ 5 ∧ a.Sm) ∧ b.len ≤ 5 ∧ b.Sm
  | .whl _ b => b.len ≤ 5 ∧ b.Sm
def Bl.Sm : Bl → Prop
  | .nil => True
  | .cons t b => t.Sm ∧ b.Sm
end
def Bl.app : Bl → Bl → Bl
  | .nil, c => c
  | .cons t b, c => .cons t (b.app c)
theorem Bl.app_ok {ns : List Str} : ∀ {b c : Bl}, b.Ok ns → c.Ok ns → (b.app c).Ok ns
  | .nil, _, _, h => h
  | .cons _ b, _, h, g => ⟨h.1, Bl.app_ok h.2 g⟩
theorem Bl.app_sm : ∀ {b c : Bl}, b.Sm → c.Sm → (b.app c).Sm
  | .nil, _, _, h => h
  | .cons _ b, _, h, g => ⟨h.1, Bl.app_sm h.2 g⟩
theorem Bl.app_dep : ∀ (b c : Bl), (b.app c).dep = max b.dep c.dep
  | .nil, c => by show c.dep = max 0 c.dep; omega
  | .cons t b, c => by show max t.dep (b.app c).dep = max (max t.dep b.dep) c.dep; rw [Bl.app_dep b c]; omega
theorem Bl.app_len : ∀ (b c : Bl), (b.app c).len = b.len + c.len
  | .nil, c => by show c.len = 0 + c.len; omega
  | .cons t b, c => by show (b.app c).len + 1 = b.len + 1 + c.len; rw [Bl.app_len b c]; omega
mutual
def TV (K : PySem.W.Frag) (H : Hp) : Th → V → Prop
  | .set x e, v => ∃ a u, v = .ref a ∧ At K H a [.str "set", .str x, u] ∧ EV K H u e
  | .lot x e, v => ∃ a u, v = .ref a ∧ At K H a [.str "lot", .str x, u] ∧ EV K H u e
  | .iff t a b, v => ∃ p u q r xs ys, v = .ref p ∧ At K H p [.str "if", u, .ref q, .ref r] ∧ EV K H u t ∧ At K H q xs ∧ TVs K H a xs ∧ At K H r ys ∧ TVs K H b ys
  | .whl t b, v => ∃ p u q xs, v = .ref p ∧ At K H p [.str "while", u, .ref q] ∧ EV K H u t ∧ At K H q xs ∧ TVs K H b xs
def TVs (K : PySem.W.Frag) (H : Hp) : Bl → List V → Prop
  | .nil, xs => xs = []
  | .cons t b, xs => ∃ v r, xs = v :: r ∧ TV K H t v ∧ TVs K H b r
end
def BV (K : PySem.W.Frag) (H : Hp) (b : Bl) (q : Addr) : Prop := ∃ xs, At K H q xs ∧ TVs K H b xs
mutual
theorem TV.tk {K : PySem.W.Frag} {H H' : Hp} (k : TK H H') : ∀ (t : Th) {v : V}, TV K H t v → TV K H' t v
  | .set _ _, _, ⟨a, u, e, h1, h2⟩ => ⟨a, u, e, h1.tk k, h2.tk k⟩
  | .lot _ _, _, ⟨a, u, e, h1, h2⟩ => ⟨a, u, e, h1.tk k, h2.tk k⟩
  | .iff _ a b, _, ⟨p, u, q, r, xs, ys, e, h1, h2, h3, h4, h5, h6⟩ => ⟨p, u, q, r, xs, ys, e, h1.tk k, h2.tk k, h3.tk k, TVs.tk k a h4, h5.tk k, TVs.tk k b h6⟩
  | .whl _ b, _, ⟨p, u, q, xs, e, h1, h2, h3, h4⟩ => ⟨p, u, q, xs, e, h1.tk k, h2.tk k, h3.tk k, TVs.tk k b h4⟩
theorem TVs.tk {K : PySem.W.Frag} {H H' : Hp} (k : TK H H') : ∀ (b : Bl) {xs : List V}, TVs K H b xs → TVs K H' b xs
  | .nil, _, h => h
  | .cons t b, _, ⟨v, r, e, h1, h2⟩ => ⟨v, r, e, TV.tk k t h1, TVs.tk k b h2⟩
end
theorem BV.tk {K : PySem.W.Frag} {H H' : Hp} (k : TK H H') {b : Bl} {q : Addr} (h : BV K H b q) : BV K H' b q := by
  obtain ⟨xs, h1, h2⟩ := h
  exact ⟨xs, h1.tk k, TVs.tk k b h2⟩
theorem TVs.app {K : PySem.W.Frag} {H : Hp} : ∀ {b c : Bl} {xs ys : List V}, TVs K H b xs → TVs K H c ys → TVs K H (b.app c) (xs ++ ys)
  | .nil, _, _, _, h, g => by cases h; exact g
  | .cons _ b, _, _, _, ⟨v, r, e, h1, h2⟩, g => by
    subst e
    exact ⟨v, r ++ _, rfl, h1, TVs.app h2 g⟩
theorem TVs.len {K : PySem.W.Frag} {H : Hp} : ∀ {b : Bl} {xs : List V}, TVs K H b xs → xs.length = b.len
  | .nil, _, h => by cases h; rfl
  | .cons _ b, _, ⟨v, r, e, h1, h2⟩ => by
    subst e
    show r.length + 1 = b.len + 1
    rw [TVs.len h2]
/-! what they do -/
structure MS where
  left : Int
  tb : Str → Int
  tk : List (Int × Int)
def MS.put (s : MS) (x : Str) (v : Int) : MS := { s with tb := fun y => if y = x then v else s.tb y }
def offs : Str → Bool := fun _ => false
def MS.ev (seen : List Int) (s : MS) (e : Ex) : Int := val s.tb offs seen e
def loopM (test : MS → Bool) (f : MS → Bool × MS) : Nat → MS → Bool × MS
  | 0, s => (false, s)
  | n + 1, s => if test s = false then (true, s) else if (f s).1 = false then (false, (f s).2) else if (f s).2.left = 0 then (false, (f s).2) else loopM test f n { (f s).2 with left := (f s).2.left - 1 }
def lotS (seen rs : List Int) (s : MS) (x : Str) (e : Ex) : MS :=
  if s.ev seen e > 0 then MS.put { s with tk := s.tk ++ [(nextR rs s.tk (s.ev seen e), s.ev seen e)] } x (nextR rs s.tk (s.ev seen e)) else s.put x (s.ev seen e)
mutual
def runT (seen rs : List Int) : Th → MS → Bool × MS
  | .set x e, s => (true, s.put x (s.ev seen e))
  | .lot x e, s => (true, lotS seen rs s x e)
  | .iff t a b, s => if s.ev seen t ≠ 0 then runB seen rs a s else runB seen rs b s
  | .whl t b, s => loopM (fun s => decide (s.ev seen t ≠ 0)) (fun s => runB seen rs b s) (s.left.toNat + 1) s
def runB (seen rs : List Int) : Bl → MS → Bool × MS
  | .nil, s => (true, s)
  | .cons t b, s => if s.left = 0 then (false, s) else if (runT seen rs t { s with left := s.left - 1 }).1 = false then runT seen rs t { s with left := s.left - 1 } else runB seen rs b (runT seen rs t { s with left := s.left - 1 }).2
end
/-- a state that stays in its bounds -/
structure MOk (ns : List Str) (s : MS) : Prop where
  l : 0 ≤ s.left
  t : TbOk ns s.tb
/-- what a run may do to it -/
structure Mv (ns : List Str) (g : Nat) (s r : MS) : Prop where
  ok : MOk ns r
  l : r.left ≤ s.left
  k : r.left.toNat + r.tk.length ≤ s.left.toNat + s.tk.length + g
theorem Mv.refl {ns : List Str} {s : MS} (h : MOk ns s) : Mv ns 0 s s := ⟨h, Int.le_refl _, Nat.le_refl _⟩
theorem Mv.trans {ns : List Str} {g h : Nat} {s r q : MS} (a : Mv ns g s r) (b : Mv ns h r q) : Mv ns (g + h) s q := ⟨b.ok, Int.le_trans b.l a.l, by have := a.k; have := b.k; omega⟩
theorem Mv.mono {ns : List Str} {g h : Nat} {s r : MS} (a : Mv ns g s r) (e : g ≤ h) : Mv ns h s r := ⟨a.ok, a.l, by have := a.k; omega⟩
theorem MOk.dec {ns : List Str} {s : MS} (h : MOk ns s) (z : ¬ s.left = 0) : MOk ns { s with left := s.left - 1 } := ⟨by have := h.l; show 0 ≤ s.left - 1; omega, h.t⟩
theorem MOk.put {ns : List Str} {s : MS} (h : MOk ns s) {x : Str} {v : Int} (v0 : 0 ≤ v) (v1 : v < 65536) : MOk ns (s.put x v) := ⟨h.l, fun y hy => by
  show 0 ≤ (if y = x then v else s.tb y) ∧ (if y = x then v else s.tb y) < 65536
  split
  · exact ⟨v0, v1⟩
  · exact h.t y hy⟩
theorem MOk.ev {ns : List Str} {s : MS} {seen : List Int} (h : MOk ns s) (hs : SeenOk seen) {e : Ex} (he : ExOk ns e) : 0 ≤ s.ev seen e ∧ s.ev seen e < 65536 := val_range h.t hs e he.1
theorem nextR_range {rs : List Int} {tk : List (Int × Int)} {c : Int} (h : 0 < c) : 0 ≤ nextR rs tk c ∧ nextR rs tk c < c := by
  unfold nextR
  split
  · exact ⟨Int.emod_nonneg _ (by omega), Int.emod_lt_of_pos _ h⟩
  · exact ⟨Int.le_refl _, h⟩
theorem lotS_mv {ns : List Str} {seen rs : List Int} {s : MS} (h : MOk ns s) (hs : SeenOk seen) {x : Str} {e : Ex} (he : ExOk ns e) : Mv ns 1 s (lotS seen rs s x e) := by
  have hv := h.ev hs he
  unfold lotS
  split
  · rename_i q
    have hn := nextR_range (rs := rs) (tk := s.tk) q
    refine ⟨?_, Int.le_refl _, ?_⟩
    · exact MOk.put (s := { s with tk := s.tk ++ [(nextR rs s.tk (s.ev seen e), s.ev seen e)] }) ⟨h.l, h.t⟩ hn.1 (by omega)
    · show s.left.toNat + (s.tk ++ [_]).length ≤ _
      rw [List.length_append]; simp; omega
  · exact ⟨h.put hv.1 hv.2, Int.le_refl _, Nat.le_succ _⟩
theorem loopM_mv {ns : List Str} {test : MS → Bool} {f : MS → Bool × MS} (hf : ∀ s, MOk ns s → Mv ns 0 s (f s).2) : ∀ (n : Nat) (s : MS), MOk ns s → Mv ns 0 s (loopM test f n s).2
  | 0, s, h => Mv.refl h
  | n + 1, s, h => by
    have h1 := hf s h
    unfold loopM
    split
    · exact Mv.refl h
    · split
      · exact h1
      · split
        · exact h1
        · rename_i z
          have hd : Mv ns 0 (f s).2 { (f s).2 with left := (f s).2.left - 1 } := ⟨h1.ok.dec z, by show (f s).2.left - 1 ≤ _; omega, by show ((f s).2.left - 1).toNat + (f s).2.tk.length ≤ (f s).2.left.toNat + (f s).2.tk.length + 0; omega⟩
          exact (h1.trans hd).trans (loopM_mv hf n _ hd.ok)
mutual
theorem runT_mv {ns : List Str} {seen rs : List Int} (hs : SeenOk seen) : ∀ (t : Th), t.Ok ns → ∀ s, MOk ns s → Mv ns 1 s (runT seen rs t s).2
  | .set x e, ok, s, h => ⟨h.put (h.ev hs ok.2).1 (h.ev hs ok.2).2, Int.le_refl _, Nat.le_succ _⟩
  | .lot x e, ok, s, h => by unfold runT; exact lotS_mv h hs ok.2
  | .iff t a b, ok, s, h => by
    unfold runT
    split
    · exact (runB_mv hs a ok.2.1 s h).mono (by omega)
    · exact (runB_mv hs b ok.2.2 s h).mono (by omega)
  | .whl t b, ok, s, h => by
    unfold runT
    exact (loopM_mv (fun s h => runB_mv hs b ok.2 s h) _ s h).mono (by omega)
theorem runB_mv {ns : List Str} {seen rs : List Int} (hs : SeenOk seen) : ∀ (b : Bl), b.Ok ns → ∀ s, MOk ns s → Mv ns 0 s (runB seen rs b s).2
  | .nil, _, s, h => by unfold runB; exact Mv.refl h
  | .cons t b, ok, s, h => by
    unfold runB
    split
    · exact Mv.refl h
    · rename_i z
      have h1 := h.dec z
      have h2 := runT_mv (rs := rs) hs t ok.1 _ h1
      have h3 : Mv ns 0 s (runT seen rs t { s with left := s.left - 1 }).2 := by
        refine ⟨h2.ok, Int.le_trans h2.l (by show s.left - 1 ≤ s.left; omega), ?_⟩
        have h2k := h2.k
        have h2l := h.l
        change _ ≤ (s.left - 1).toNat + s.tk.length + 1 at h2k
        omega
      split
      · exact h3
      · exact h3.trans (runB_mv hs b ok.2 _ h2.ok)
end
/-! how they are drawn -/
def sp_thoughts (K : PySem.W.Frag) (n : Nat) : Sp := fun vs H Q _ => ∃ (p q la : Addr) (ns : List Int) (xs : List Str) (d : Int) (lp : Bool), vs = [.ref p, .ref la, .int d, .bl lp] ∧ 0 ≤ d ∧ d < (n : Int) ∧ Pool H p q ns ∧
  H la = some (.lst (xs.map V.str)) ∧ la ≠ p ∧ xs.length ≤ 1000 ∧ ∀ r b H', BV K H' b r → (b.Ok xs ∧ b.Sm) → b.dep ≤ d.toNat → b.len ≤ 5 → Pool H' p q ns → Keep [p] H H' → Q (.ref r) H'
def sp_thought (K : PySem.W.Frag) (n : Nat) : Sp := fun vs H Q _ => ∃ (p q la : Addr) (ns : List Int) (xs : List Str) (d : Int) (lp : Bool), vs = [.ref p, .ref la, .int d, .bl lp] ∧ 0 ≤ d ∧ d ≤ (n : Int) ∧ Pool H p q ns ∧
  H la = some (.lst (xs.map V.str)) ∧ la ≠ p ∧ xs.length ≤ 1000 ∧ ∀ r vs b H', H r = none → H' r = some (.lst vs) → TVs K H' b vs → (b.Ok xs ∧ b.Sm) → b.dep ≤ d.toNat → b.len ≤ 1 → Pool H' p q ns → Keep [p] H H' → Q (.ref r) H'
section
variable {P : Program} {w : World} {K : PySem.W.Frag} {mg : Str → Option Value} {base : Heap} {C_Ratio : Addr} {C_Tape : Addr} {C_Thinker : Addr} {C_Brain : Addr} {C_GameError : Addr} {C_TooLarge : Addr} {f_TooLarge___init : Addr} {T_EVENTS : Addr}
theorem ok_thoughts0 {f : Addr} {fd : FuncData} (D : C8.Def K mg "_law_thoughts" s_law_thoughts f fd) (b : Binds K fd ["pool", "names", "deep", "loops"] []) {k : Nat} : C8.Cal P w K mg base k "_law_thoughts" (sp_thoughts K 0) [] :=
  ⟨f, fd, ["pool", "names", "deep", "loops"], [], ⟨fun vs H Q E h => (by obtain ⟨p, q, la, ns, xs, d, lp, rfl, _⟩ := h; rfl), fun A outer s H args us vs Q E _ _ _ _ h => (by obtain ⟨p, q, la, ns, xs, d, lp, _, h1, h2, _⟩ := h; exact absurd h2 (by omega))⟩, D.mgf, D.kp, b, .nil⟩
theorem ok_thought {f : Addr} {fd : FuncData} (D : C8.Def K mg "_law_thought" s_law_thought f fd) (b : Binds K fd ["pool", "names", "deep", "loops"] []) (T : Txt K mg C_Ratio C_Tape C_Thinker C_Brain C_GameError C_TooLarge T_EVENTS) {n k : Nat} (c_law_thoughts : C8.Cal P w K mg base k "_law_thoughts" (sp_thoughts K n) []) (c_law_draw : C8.Cal P w K mg base k "_law_draw" sp_law_draw [])
    (c_law_expression : C8.Cal P w K mg base k "_law_expression" (sp_expr K 12) []) : C8.Cal P w K mg base (k + 1) "_law_thought" (sp_thought K n) [] := by
  refine cal0 D b .nil sc_law_thought (fun vs H Q E h => ?_) (fun cdv A outer s H vs Q E hr h => ?_)
  · obtain ⟨p, q, la, ns, xs, d, lp, rfl, _⟩ := h
    rfl
  · obtain ⟨p, q, la, ns, xs, d, lp, rfl, d0, d1, hP, ha, nla, hxl, k⟩ := h
    refine ⟨_, (pss_cons (ps_set (i := 4) sc_law_thought.nd rfl (by first | exact Or.inl rfl | exact Or.inr rfl) (pe_c c_law_draw hr (by first | exact Nat.le_refl _ | decide | omega) rfl (pa_cons (pv 0) (pa_cons pe_int pa_nil))))
(pss_cut (ps_if (PW.pt (pw_and (pt_cmpR op_eq (pv 4) pe_int (nomark _)) (pw_and (pt_cmpR op_gt (pv 2) pe_int (nomark _)) (pw_and1 (pt_val (pv 3))))))
  (pss_cons (ps_set (i := 5) sc_law_thought.nd rfl (by first | exact Or.inl rfl | exact Or.inr rfl) (pe_c c_law_expression hr (by first | exact Nat.le_refl _ | decide | omega) rfl (pa_cons (pv 0) (pa_cons (pv 1) (pa_cons pe_int pa_nil)))))
  (pss_one (ps_ret (pe_lst (pa_cons (pe_tup (pa_cons pe_str (pa_cons (pv 5) (pa_cons (pe_c c_law_thoughts hr (by first | exact Nat.le_refl _ | decide | omega) rfl (pa_cons (pv 0) (pa_cons (pv 1) (pa_cons (pe_op op_sub (pv 2) pe_int) (pa_cons (pv 3) pa_nil))))) pa_nil)))) pa_nil)))))
  pss_nil)
(pss_cut (ps_if (PW.pt (pw_and (pt_cmpR op_lt (pv 4) pe_int (nomark _)) (pw_and1 (pt_cmpR op_gt (pv 2) pe_int (nomark _)))))
  (pss_cons (ps_set (i := 5) sc_law_thought.nd rfl (by first | exact Or.inl rfl | exact Or.inr rfl) (pe_c c_law_expression hr (by first | exact Nat.le_refl _ | decide | omega) rfl (pa_cons (pv 0) (pa_cons (pv 1) (pa_cons pe_int pa_nil)))))
  (pss_cons (ps_set (i := 6) sc_law_thought.nd rfl (by first | exact Or.inl rfl | exact Or.inr rfl) (pe_c c_law_thoughts hr (by first | exact Nat.le_refl _ | decide | omega) rfl (pa_cons (pv 0) (pa_cons (pv 1) (pa_cons (pe_op op_sub (pv 2) pe_int) (pa_cons (pv 3) pa_nil))))))
  (pss_one (ps_ret (pe_lst (pa_cons (pe_tup (pa_cons pe_str (pa_cons (pv 5) (pa_cons (pv 6) (pa_cons (pe_c c_law_thoughts hr (by first | exact Nat.le_refl _ | decide | omega) rfl (pa_cons (pv 0) (pa_cons (pv 1) (pa_cons (pe_op op_sub (pv 2) pe_int) (pa_cons (pv 3) pa_nil))))) pa_nil))))) pa_nil))))))
  pss_nil)
(pss_cons (ps_if (pt_truth (pv 1) (by intro _; rfl))
  (pss_cons (ps_set (i := 7) sc_law_thought.nd rfl (by first | exact Or.inl rfl | exact Or.inr rfl) (pe_ix ix_list (pv 1) (pe_c c_law_draw hr (by first | exact Nat.le_refl _ | decide | omega) rfl (pa_cons (pv 0) (pa_cons (pe_callB call_len_seq (by rfl) T.n_len bo_len (pa_cons (pv 1) pa_nil)) pa_nil))) (fun _ _ => rfl)))
  (pss_one (ps_ret (pe_lst (pa_cons (pe_tup (pa_cons (pe_ix ix_tup (pe_tup (pa_cons pe_str (pa_cons pe_str pa_nil))) (pe_callTy call_int1 (by rfl) T.n_int bo_int (pa_cons (pe_cmpR op_gt (pv 4) pe_int (nomark _)) pa_nil)) (fun _ _ => rfl)) (pa_cons (pv 7) (pa_cons (pe_c c_law_expression hr (by first | exact Nat.le_refl _ | decide | omega) rfl (pa_cons (pv 0) (pa_cons (pv 1) (pa_cons pe_int pa_nil)))) pa_nil)))) pa_nil)))))
  pss_nil)
(pss_one (ps_ret (pe_lst pa_nil))))))), ?_⟩
    have Ha : ∀ {H1 : Hp}, Keep [p] H H1 → H1 la = some (.lst (xs.map V.str)) := fun K1 => K1 _ _ ha (by simpa using nla)
    refine ⟨_, rfl, p, q, ns, 10, rfl, by decide, by decide, hP, fun kind H1 r0 r1 P1 K1 => ?_⟩
    refine ⟨fun σ H' => H' = H1 ∧ σ = [some (.ref p), some (.ref la), some (.int d), some (.bl lp), some (.int kind), none, none, none], ?_, ?_⟩
    · refine ⟨_, rfl, rfl, _, rfl, iteD (fun _ => ⟨_, rfl, _, _, rfl, rfl, _, rfl, iteD (fun hd => ⟨_, rfl, _, rfl, iteB (fun _ => ?_) (fun _ => ⟨rfl, rfl⟩)⟩) (fun _ => ⟨rfl, rfl⟩)⟩) (fun _ => ⟨rfl, rfl⟩)⟩
      refine ⟨_, rfl, _, rfl, p, q, la, ns, xs, 12, rfl, by decide, by decide, P1, Ha K1, nla, hxl, fun t e H2 E2 o2 e2 P2 K2 => ?_⟩
      have K02 := K1.trans K2
      refine ⟨_, rfl, _, rfl, _, rfl, _, rfl, _, _, rfl, rfl, _, rfl, p, q, la, ns, xs, d - 1, lp, rfl, by omega, by omega, P2, Ha K02, nla, hxl, fun r b H3 B3 o3 d3 l3 P3 K3 => ?_⟩
      have K03 := K02.trans K3
      obtain ⟨ys, hy, ty⟩ := id B3
      refine And.intro (by show 3 ≤ sizeLine; decide) <| fun t1 n1 => And.intro (by show 1 ≤ sizeLine; decide) <| fun l1 nl1 => ?_
      have kk := (Keep.new (W := []) n1).then_new (o := .lst [.ref t1]) nl1
      have tkk := kk.tk
      refine k l1 _ (.cons (.whl e b) .nil) _ (P3.free K03 ((Keep.new (W := []) n1).free nl1)) upd_same ?_ ⟨⟨⟨⟨o2, e2⟩, o3.1⟩, trivial⟩, ⟨l3, o3.2⟩, trivial⟩ (by show max (b.dep + 1) 0 ≤ _; omega) (Nat.le_refl 1) (P3.keep0 kk) (K03.trans (kk.mono (by simp)))
      exact ⟨_, _, rfl, ⟨t1, t, r, ys, rfl, .inl (Keep.new (W := []) nl1 _ _ upd_same (by simp)), (E2.tk (P2.tk K3)).tk tkk, hy.tk tkk, TVs.tk tkk b ty⟩, rfl⟩
    rintro σ H' ⟨rfl, rfl⟩
    refine ⟨fun σ H1 => H1 = H' ∧ σ = [some (.ref p), some (.ref la), some (.int d), some (.bl lp), some (.int kind), none, none, none], ?_, ?_⟩
    · refine ⟨_, rfl, _, _, rfl, rfl, _, rfl, iteD (fun _ => ⟨_, rfl, _, _, rfl, rfl, _, rfl, iteD (fun hd => ?_) (fun _ => ⟨rfl, rfl⟩)⟩) (fun _ => ⟨rfl, rfl⟩)⟩
      refine ⟨_, rfl, _, rfl, p, q, la, ns, xs, 12, rfl, by decide, by decide, P1, Ha K1, nla, hxl, fun t e H2 E2 o2 e2 P2 K2 => ?_⟩
      have K02 := K1.trans K2
      refine ⟨_, rfl, _, rfl, _, rfl, _, _, rfl, rfl, _, rfl, p, q, la, ns, xs, d - 1, lp, rfl, by omega, by omega, P2, Ha K02, nla, hxl, fun r b H3 B3 o3 d3 l3 P3 K3 => ?_⟩
      have K03 := K02.trans K3
      refine ⟨_, rfl, _, rfl, _, rfl, _, rfl, _, rfl, _, _, rfl, rfl, _, rfl, p, q, la, ns, xs, d - 1, lp, rfl, by omega, by omega, P3, Ha K03, nla, hxl, fun r2 b2 H4 B4 o4 d4 l4 P4 K4 => ?_⟩
      have K04 := K03.trans K4
      obtain ⟨ys, hy, ty⟩ := B3.tk (P3.tk K4)
      obtain ⟨zs, hz, tz⟩ := id B4
      refine And.intro (by show 4 ≤ sizeLine; decide) <| fun t1 n1 => And.intro (by show 1 ≤ sizeLine; decide) <| fun l1 nl1 => ?_
      have kk := (Keep.new (W := []) n1).then_new (o := .lst [.ref t1]) nl1
      have tkk := kk.tk
      refine k l1 _ (.cons (.iff e b b2) .nil) _ (P4.free K04 ((Keep.new (W := []) n1).free nl1)) upd_same ?_ ⟨⟨⟨⟨o2, e2⟩, o3.1, o4.1⟩, trivial⟩, ⟨⟨l3, o3.2⟩, l4, o4.2⟩, trivial⟩ (by show max (max b.dep b2.dep + 1) 0 ≤ _; omega) (Nat.le_refl 1) (P4.keep0 kk) (K04.trans (kk.mono (by simp)))
      exact ⟨_, _, rfl, ⟨t1, t, r, r2, ys, zs, rfl, .inl (Keep.new (W := []) nl1 _ _ upd_same (by simp)), ((E2.tk (P2.tk K3)).tk (P3.tk K4)).tk tkk, hy.tk tkk, TVs.tk tkk b ty, hz.tk tkk, TVs.tk tkk b2 tz⟩, rfl⟩
    rintro σ H1 ⟨rfl, rfl⟩
    refine ⟨_, rfl, _, .inl ⟨_, SqL.of (Ha K1), rfl⟩, iteB (fun e => ?_) (fun e => ?_)⟩
    · have hy0 := empty_ne e
      refine ⟨_, rfl, _, rfl, _, rfl, _, _, rfl, .inl (SqL.of (Ha K1)), p, q, ns, _, rfl, by rw [List.length_map]; omega, by rw [List.length_map]; omega, P1, fun r H4 z0 z1 P4 K4 => ?_⟩
      rw [List.length_map] at z1
      obtain ⟨m, rfl⟩ : ∃ m : Nat, r = (m : Int) := ⟨r.toNat, by omega⟩
      have hm : m < xs.length := by omega
      have K04 := K1.trans K4
      have hmem : xs[m] ∈ xs := List.getElem_mem hm
      have hat : (xs.map V.str)[m]? = some (.str xs[m]) := by rw [List.getElem?_map, List.getElem?_eq_getElem hm]; rfl
      generalize xs[m] = x at hmem hat
      refine ⟨_, _, _, _, rfl, rfl, SqL.of (Ha K04), atI_nat hat, ?_⟩
      refine And.intro (by show 2 ≤ sizeLine; decide) <| fun t0 n0 => ?_
      have k5 : Keep [] H4 (upd H4 t0 (.tup [.str "set", .str "lot"])) := Keep.new n0
      refine ⟨_, rfl, _, _, rfl, rfl, .inr ⟨_, rfl, ?_⟩⟩
      obtain ⟨wd, hwd, hwc⟩ : ∃ wd : Str, atI [V.str "set", V.str "lot"] (if decide (7 < kind) = true then 1 else 0) = some (.str wd) ∧ (wd = "set" ∨ wd = "lot") := by
        by_cases h : 7 < kind
        · exact ⟨"lot", by rw [decide_eq_true h]; rfl, .inr rfl⟩
        · exact ⟨"set", by rw [decide_eq_false h]; rfl, .inl rfl⟩
      refine ⟨t0, _, _, _, rfl, rfl, SqT.of upd_same, hwd, ?_⟩
      have K05 := K04.trans (k5.mono (by simp))
      refine ⟨_, rfl, _, rfl, _, rfl, p, q, la, ns, xs, 12, rfl, by decide, by decide, P4.keep0 k5, Ha K05, nla, hxl, fun t e H6 E6 o6 e6 P6 K6 => ?_⟩
      have K06 := K05.trans K6
      refine And.intro (by show 3 ≤ sizeLine; decide) <| fun t1 n1 => And.intro (by show 1 ≤ sizeLine; decide) <| fun l1 nl1 => ?_
      have kk := (Keep.new (W := []) n1).then_new (o := .lst [.ref t1]) nl1
      have tkk := kk.tk
      rcases hwc with rfl | rfl
      · exact k l1 _ (.cons (.set x e) .nil) _ (P6.free K06 ((Keep.new (W := []) n1).free nl1)) upd_same ⟨_, _, rfl, ⟨t1, t, rfl, .inl (Keep.new (W := []) nl1 _ _ upd_same (by simp)), E6.tk tkk⟩, rfl⟩ ⟨⟨⟨hmem, o6, e6⟩, trivial⟩, trivial, trivial⟩ (Nat.zero_le _) (Nat.le_refl 1) (P6.keep0 kk) (K06.trans (kk.mono (by simp)))
      · exact k l1 _ (.cons (.lot x e) .nil) _ (P6.free K06 ((Keep.new (W := []) n1).free nl1)) upd_same ⟨_, _, rfl, ⟨t1, t, rfl, .inl (Keep.new (W := []) nl1 _ _ upd_same (by simp)), E6.tk tkk⟩, rfl⟩ ⟨⟨⟨hmem, o6, e6⟩, trivial⟩, trivial, trivial⟩ (Nat.zero_le _) (Nat.le_refl 1) (P6.keep0 kk) (K06.trans (kk.mono (by simp)))
    · exact ⟨Nat.zero_le _, fun l nl => k l _ .nil _ (P1.free K1 nl) upd_same rfl ⟨trivial, trivial⟩ (Nat.zero_le _) (Nat.zero_le _) (P1.new nl) (K1.then_new nl)⟩
theorem ok_thoughts {f : Addr} {fd : FuncData} (D : C8.Def K mg "_law_thoughts" s_law_thoughts f fd) (b : Binds K fd ["pool", "names", "deep", "loops"] []) (T : Txt K mg C_Ratio C_Tape C_Thinker C_Brain C_GameError C_TooLarge T_EVENTS) {n k : Nat} (c_law_thought : C8.Cal P w K mg base k "_law_thought" (sp_thought K n) []) (c_law_few : C8.Cal P w K mg base k "_law_few" sp_law_few [])
    (c_law_spend : C8.Cal P w K mg base k "_law_spend" sp_law_spend []) : C8.Cal P w K mg base (k + 1) "_law_thoughts" (sp_thoughts K (n + 1)) [] := by
  refine cal0 D b .nil sc_law_thoughts (fun vs H Q E h => ?_) (fun cdv A outer s H vs Q E hr h => ?_)
  · obtain ⟨p, q, la, ns, xs, d, lp, rfl, _⟩ := h
    rfl
  · obtain ⟨p, q, la, ns, xs, d, lp, rfl, d0, d1, hP, ha, nla, hxl, k⟩ := h
    refine ⟨_, (pss_cons (ps_set (i := 4) sc_law_thoughts.nd rfl (by first | exact Or.inl rfl | exact Or.inr rfl) (pe_lst pa_nil))
(pss_cons (ps_for PassesOwn.never rfl (pi_range1 (by rfl) T.n_range (pa_cons (pe_c c_law_few hr (by first | exact Nat.le_refl _ | decide | omega) rfl (pa_cons (pv 0) (pa_cons pe_int pa_nil))) pa_nil)) (pg_name (i := 5) sc_law_thoughts.nd rfl (by first | exact Or.inl rfl | exact Or.inr rfl))
  (pss_one (ps_if (pt_val (pe_c c_law_spend hr (by first | exact Nat.le_refl _ | decide | omega) rfl (pa_cons (pv 0) pa_nil)))
    (pss_one (ps_set (i := 4) sc_law_thoughts.nd rfl (by first | exact Or.inl rfl | exact Or.inr rfl) (pe_op op_cat (pv 4) (pe_c c_law_thought hr (by first | exact Nat.le_refl _ | decide | omega) rfl (pa_cons (pv 0) (pa_cons (pv 1) (pa_cons (pv 2) (pa_cons (pv 3) pa_nil))))))))
    pss_nil)))
(pss_one (ps_ret (pe_callTy call_tuple_of (by rfl) T.n_tuple bo_tuple (pa_cons (pv 4) pa_nil)))))), ?_⟩
    have Ha : ∀ {H1 : Hp}, Keep [p] H H1 → H1 la = some (.lst (xs.map V.str)) := fun K1 => K1 _ _ ha (by simpa using nla)
    refine ⟨Nat.zero_le _, fun l0 nl0 => ?_⟩
    have P1 := hP.new (o := .lst []) nl0
    refine ⟨_, rfl, p, q, ns, 5, rfl, by decide, by decide, P1, fun f H2 f0 f1 P2 K2 => ?_⟩
    have K02 : Keep [p] H H2 := (Keep.new nl0).trans K2
    refine ⟨_, rfl, by omega, by omega, for_range (lo := 0) (n := f.toNat) (fun i σ H' => ∃ (l : Addr) (vs : List V) (bl : Bl) (o : Option V), σ = [some (.ref p), some (.ref la), some (.int d), some (.bl lp), some (.ref l), o] ∧ H l = none ∧ H' l = some (.lst vs) ∧ TVs K H' bl vs ∧ (bl.Ok xs ∧ bl.Sm) ∧ bl.dep ≤ d.toNat ∧ bl.len ≤ i ∧ Pool H' p q ns ∧ Keep [p] H H')
      ⟨l0, [], .nil, none, rfl, nl0, K2 _ _ upd_same (by simpa using hP.nep nl0), rfl, ⟨trivial, trivial⟩, Nat.zero_le _, Nat.zero_le _, P2, K02⟩ ?_ ?_⟩
    · rintro i σ H3 hi ⟨l, vs, bl, o, rfl, nl, hl, tv, ok, dp, ln, P3, K3⟩
      refine ⟨_, rfl, p, q, ns, rfl, P3, fun bb H4 P4 K4 => ⟨_, rfl, iteB (fun _ => ?_) (fun _ => ⟨l, vs, bl, _, rfl, nl, K4 _ _ hl (by simpa using hP.nep nl), TVs.tk (P3.tk K4) bl tv, ok, dp, by omega, P4, K3.trans K4⟩)⟩⟩
      have hl4 := K4 _ _ hl (by simpa using hP.nep nl)
      have tv4 := TVs.tk (P3.tk K4) bl tv
      refine ⟨_, rfl, _, rfl, _, rfl, _, rfl, _, rfl, p, q, la, ns, xs, d, lp, rfl, d0, by omega, P4, Ha (K3.trans K4), nla, hxl, fun r us b H5 nr hr tu oku dpu lnu P5 K5 => ?_⟩
      have hl5 := K5 _ _ hl4 (by simpa using hP.nep nl)
      have tv5 := TVs.tk (P4.tk K5) bl tv4
      have e1 := tv5.len
      have e2 := tu.len
      have K05 := (K3.trans K4).trans K5
      refine ⟨_, _, _, _, rfl, rfl, hl5, hr, smallM (by omega), fun z nz => ?_⟩
      exact ⟨z, _, bl.app b, _, rfl, P5.free K05 nz, upd_same, TVs.tk (TK.new nz) _ (tv5.app tu), ⟨Bl.app_ok ok.1 oku.1, Bl.app_sm ok.2 oku.2⟩, by rw [Bl.app_dep]; omega, by rw [Bl.app_len]; omega, P5.new nz, K05.then_new nz⟩
    · rintro σ H3 ⟨l, vs, bl, o, rfl, nl, hl, tv, ok, dp, ln, P3, K3⟩
      refine ⟨_, rfl, _, _, rfl, .inl ⟨SqL.of hl, fun t nt => ?_⟩⟩
      exact k t bl _ ⟨vs, .inl upd_same, TVs.tk (TK.new nt) bl tv⟩ ok dp (by omega) (P3.new nt) (K3.then_new nt)
theorem thoughts_all {f g : Addr} {fd gd : FuncData} (D : C8.Def K mg "_law_thoughts" s_law_thoughts f fd) (b : Binds K fd ["pool", "names", "deep", "loops"] []) (D2 : C8.Def K mg "_law_thought" s_law_thought g gd) (b2 : Binds K gd ["pool", "names", "deep", "loops"] []) (T : Txt K mg C_Ratio C_Tape C_Thinker C_Brain C_GameError C_TooLarge T_EVENTS)
    (c1 : C8.Cal P w K mg base 1 "_law_draw" sp_law_draw []) (c2 : C8.Cal P w K mg base 1 "_law_spend" sp_law_spend []) (c3 : C8.Cal P w K mg base 2 "_law_few" sp_law_few []) (c4 : C8.Cal P w K mg base 15 "_law_expression" (sp_expr K 12) []) : ∀ n, C8.Cal P w K mg base (2 * n + 15) "_law_thoughts" (sp_thoughts K n) []
  | 0 => ok_thoughts0 D b
  | n + 1 => ok_thoughts D b T (ok_thought D2 b2 T (thoughts_all D b D2 b2 T c1 c2 c3 c4 n) (calUp c1 (by omega)) (calUp c4 (by omega))) (calUp c3 (by omega)) (calUp c2 (by omega))
end

section
variable {P : Program} {w : World} {K : PySem.W.Frag} {mg : Str → Option Value} {base : Heap} {C_Ratio : Addr} {C_Tape : Addr} {C_Thinker : Addr} {C_Brain : Addr} {C_GameError : Addr} {C_TooLarge : Addr} {f_TooLarge___init : Addr} {T_EVENTS : Addr}
theorem value_all {f : Addr} {fd : FuncData} (D : C8.Def K mg "value_of" s_value_of f fd) {ds : List Value} (d : Vals [] ds) (b : Binds K fd ["expression", "table", "on", "seen"] ds) (T : Txt K mg C_Ratio C_Tape C_Thinker C_Brain C_GameError C_TooLarge T_EVENTS) (c : C8.Cal P w K mg base 1 "combine" sp_combine []) : ∀ n, C8.Cal P w K mg base (n + 1) "value_of" (sp_value K n) []
  | 0 => ok_value0 D d b
  | n + 1 => ok_value D d b T (value_all D d b T c n) (calUp c (by omega))
end
/-! dicts filled to the end -/
def Full (H : Hp) (d : Addr) (ys : List Str) (f : Str → V) : Prop := ∃ kvs : List (Key × V), H d = some (.dK kvs) ∧ kvs.length = ys.length ∧ ∀ x, valV kvs (.inr x) = if x ∈ ys then some (f x) else none
theorem Full.keep {H H' : Hp} {W : List Addr} {d : Addr} {ys : List Str} {f : Str → V} (h : Full H d ys f) (k : Keep W H H') (w : d ∉ W) : Full H' d ys f := by
  obtain ⟨kvs, e, l, v⟩ := h
  exact ⟨kvs, k _ _ e w, l, v⟩
theorem Full.dcI {H : Hp} {d : Addr} {ys : List Str} {tb : Str → Int} (h : Full H d ys fun x => .int (tb x)) : DcI H d ys tb := by
  obtain ⟨kvs, e, _, v⟩ := h
  exact ⟨kvs, e, fun x hx => by rw [v x, if_pos hx]⟩
theorem putK_old {kvs : List (Key × V)} {k : Key} {v u : V} (h : valV kvs k = some u) : (putK kvs k v).length = kvs.length := by
  unfold putK
  rw [if_pos (by rw [valV_any, h]; rfl), List.length_map]
theorem Full.put {H : Hp} {d : Addr} {ys : List Str} {tb : Str → Int} (h : Full H d ys fun x => .int (tb x)) {x : Str} (hx : x ∈ ys) : ∃ kvs : List (Key × V), H d = some (.dK kvs) ∧ kvs.length = ys.length ∧
    ∀ (H' : Hp) (v : Int), H' d = some (.dK (putK kvs (.inr x) (.int v))) → Full H' d ys (fun y => .int (if y = x then v else tb y)) := by
  obtain ⟨kvs, e, l, g⟩ := h
  refine ⟨kvs, e, l, fun H' v h' => ⟨_, h', ?_, fun y => ?_⟩⟩
  · rw [putK_old (by rw [g x, if_pos hx])]; exact l
  · rw [valV_put]
    by_cases q : y = x
    · subst q
      rw [if_pos rfl, if_pos hx]
      show _ = some (V.int (if y = y then v else tb y))
      rw [if_pos rfl]
    · rw [if_neg (fun w => q (Sum.inr.inj w)), g y]
      show _ = if y ∈ ys then some (V.int (if y = x then v else tb y)) else none
      rw [if_neg q]
/-! a brain at work -/
def thF (d st tp : Addr) (l : Int) : List (Str × V) := [("table", .ref d), ("left", .int l), ("seen", .ref st), ("tape", .ref tp)]
structure ThAt (C CT : Addr) (H : Hp) (x d st tp rx tx : Addr) (ns : List Str) (seen rs : List Int) (s : MS) : Prop where
  o : ∃ dx, H x = some (.ins C dx (thF d st tp s.left))
  t : Full H d ns (fun y => .int (s.tb y))
  sn : H st = some (.tup (seen.map V.int))
  ta : TapeAt CT H tp rx tx rs s.tk
  nx : x ≠ tp
theorem ThAt.keep0 {C CT : Addr} {H H' : Hp} {x d st tp rx tx : Addr} {ns : List Str} {seen rs : List Int} {s : MS} (h : ThAt C CT H x d st tp rx tx ns seen rs s) (k : Keep [] H H') : ThAt C CT H' x d st tp rx tx ns seen rs s := by
  obtain ⟨dx, o⟩ := h.o
  exact ⟨⟨dx, k _ _ o (by simp)⟩, h.t.keep k (by simp), k _ _ h.sn (by simp), h.ta.keep k k.tk (by simp) (by simp) (by simp), h.nx⟩
theorem ThAt.tk3 {C CT : Addr} {H H' : Hp} {x d st tp rx tx : Addr} {ns : List Str} {seen rs : List Int} {s : MS} (h : ThAt C CT H x d st tp rx tx ns seen rs s) (k : Keep [x, d, tx] H H') : TK H H' := by
  obtain ⟨dx, o⟩ := h.o
  obtain ⟨kvs, e, _⟩ := h.t
  obtain ⟨ys, t, _⟩ := h.ta.t
  intro b xs q
  refine k _ _ q fun z => ?_
  have z' : b = x ∨ b = d ∨ b = tx := by simpa using z
  rcases z' with rfl | rfl | rfl
  · rw [o] at q; cases q
  · rw [e] at q; cases q
  · rw [t] at q; cases q
/-- all that a brain at work rests on -/
structure TC (C CT : Addr) (H : Hp) (x d st tp rx tx : Addr) (ns : List Str) (seen rs : List Int) (s : MS) : Prop where
  A : ThAt C CT H x d st tp rx tx ns seen rs s
  ok : MOk ns s
  sk : SeenOk seen
  sl : seen.length ≤ 60000
  bd : s.left.toNat + s.tk.length ≤ 90000
  nl : ns.length ≤ 1000
theorem TC.keep0 {C CT : Addr} {H H' : Hp} {x d st tp rx tx : Addr} {ns : List Str} {seen rs : List Int} {s : MS} (h : TC C CT H x d st tp rx tx ns seen rs s) (k : Keep [] H H') : TC C CT H' x d st tp rx tx ns seen rs s := ⟨h.A.keep0 k, h.ok, h.sk, h.sl, h.bd, h.nl⟩
theorem TC.mv {C CT : Addr} {H H' : Hp} {x d st tp rx tx : Addr} {ns : List Str} {seen rs : List Int} {s r : MS} (h : TC C CT H x d st tp rx tx ns seen rs s) (a : ThAt C CT H' x d st tp rx tx ns seen rs r) (m : Mv ns 0 s r) : TC C CT H' x d st tp rx tx ns seen rs r := ⟨a, m.ok, h.sk, h.sl, by have := m.k; have := h.bd; omega, h.nl⟩
def sp_tval (K : PySem.W.Frag) (C CT : Addr) : Sp := fun vs H Q _ => ∃ x d st tp rx tx ns seen rs s v e, vs = [.ref x, v] ∧ ThAt C CT H x d st tp rx tx ns seen rs s ∧ MOk ns s ∧ SeenOk seen ∧ seen.length ≤ 60000 ∧ EV K H v e ∧ ExOk ns e ∧ ∀ H', Keep [] H H' → Q (.int (s.ev seen e)) H'
def sp_tunit (C CT : Addr) : Sp := fun vs H Q _ => ∃ x d st tp rx tx ns seen rs s, vs = [.ref x] ∧ ThAt C CT H x d st tp rx tx ns seen rs s ∧ (s.left = 0 → Q (.bl false) H) ∧ (¬ s.left = 0 → ∀ H', ThAt C CT H' x d st tp rx tx ns seen rs { s with left := s.left - 1 } → Keep [x, d, tx] H H' → Q (.bl true) H')
def sp_trun (K : PySem.W.Frag) (C CT : Addr) (n : Nat) : Sp := fun vs H Q _ => ∃ x d st tp rx tx ns seen rs s q b, vs = [.ref x, .ref q] ∧ TC C CT H x d st tp rx tx ns seen rs s ∧ BV K H b q ∧ b.Ok ns ∧ b.dep < n ∧ ∀ H', ThAt C CT H' x d st tp rx tx ns seen rs (runB seen rs b s).2 → Keep [x, d, tx] H H' → Q (.bl (runB seen rs b s).1) H'
def sp_tstep (K : PySem.W.Frag) (C CT : Addr) (n : Nat) : Sp := fun vs H Q _ => ∃ x d st tp rx tx ns seen rs s v t, vs = [.ref x, v] ∧ TC C CT H x d st tp rx tx ns seen rs s ∧ TV K H t v ∧ t.Ok ns ∧ t.dep ≤ n ∧ ∀ H', ThAt C CT H' x d st tp rx tx ns seen rs (runT seen rs t s).2 → Keep [x, d, tx] H H' → Q (.bl (runT seen rs t s).1) H'
def sp_tloop (K : PySem.W.Frag) (C CT : Addr) (n : Nat) : Sp := fun vs H Q _ => ∃ x d st tp rx tx ns seen rs s v t q b, vs = [.ref x, v, .ref q] ∧ TC C CT H x d st tp rx tx ns seen rs s ∧ EV K H v t ∧ ExOk ns t ∧ BV K H b q ∧ b.Ok ns ∧ b.dep < n ∧
  ∀ H', ThAt C CT H' x d st tp rx tx ns seen rs (runT seen rs (.whl t b) s).2 → Keep [x, d, tx] H H' → Q (.bl (runT seen rs (.whl t b) s).1) H'
section
variable {P : Program} {w : World} {K : PySem.W.Frag} {mg : Str → Option Value} {base : Heap} {C_Ratio : Addr} {C_Tape : Addr} {C_Thinker : Addr} {C_Brain : Addr} {C_GameError : Addr} {C_TooLarge : Addr} {f_TooLarge___init : Addr} {T_EVENTS : Addr}
theorem ok_tval {f : Addr} {fd : FuncData} (me : Meth K C_Thinker "value" f) (F : C8.Fun K "value" "Thinker.value" s_Thinker_value f fd) (b : Binds K fd ["self", "expression"] []) (T : Txt K mg C_Ratio C_Tape C_Thinker C_Brain C_GameError C_TooLarge T_EVENTS) (c_value_of : C8.Cal P w K mg base 13 "value_of" (sp_value K 12) []) : C8.Met P w K mg base 14 C_Thinker "value" (sp_tval K C_Thinker C_Tape) [] := by
  refine met0 T.cl_Thinker me F b sc_Thinker_value (fun vs H Q E h => ?_) (fun cdv A outer s H vs Q E hr h => ?_)
  · obtain ⟨x, d, st, tp, rx, tx, ns, seen, rs, s, v, e, rfl, _⟩ := h
    rfl
  · obtain ⟨x, d, st, tp, rx, tx, ns, seen, rs, s, v, e, rfl, hA, ok, sk, sl, he, hok, k⟩ := h
    have hu := hu_of hr
    refine ⟨_, (pss_one (ps_ret (pe_c c_value_of hr (by first | exact Nat.le_refl _ | decide | omega) rfl (pa_cons (pv 1) (pa_cons (pe_fld (pv 0) rfl) (pa_cons pe_dnewK (pa_cons (pe_fld (pv 0) rfl) pa_nil))))))), ?_⟩
    obtain ⟨dx, ho⟩ := hA.o
    refine ⟨_, rfl, _, rfl, x, C_Thinker, dx, _, _, rfl, ho, T.cl_Thinker, T.a_Thinker_table, rfl, fun od nod => ?_⟩
    have k1 : Keep [] H (upd H od (.dK [])) := Keep.new nod
    refine ⟨_, rfl, x, C_Thinker, dx, _, _, rfl, k1 _ _ ho (by simp), T.cl_Thinker, T.a_Thinker_seen, rfl, ?_⟩
    refine ⟨v, d, od, st, e, ns, [], s.tb, offs, seen, rfl, he.tk k1.tk, hok.1, hok.2, ⟨(hA.t.keep k1 (by simp)).dcI, ⟨[], upd_same, fun x hx => by cases hx⟩, SqT.of (k1 _ _ hA.sn (by simp)), ok.t, sk, by omega⟩, k _ k1⟩
theorem ok_tunit {f : Addr} {fd : FuncData} (me : Meth K C_Thinker "unit" f) (F : C8.Fun K "unit" "Thinker.unit" s_Thinker_unit f fd) (b : Binds K fd ["self"] []) (T : Txt K mg C_Ratio C_Tape C_Thinker C_Brain C_GameError C_TooLarge T_EVENTS) : C8.Met P w K mg base 1 C_Thinker "unit" (sp_tunit C_Thinker C_Tape) [] := by
  refine met0 T.cl_Thinker me F b sc_Thinker_unit (fun vs H Q E h => ?_) (fun cdv A outer s H vs Q E hr h => ?_)
  · obtain ⟨x, d, st, tp, rx, tx, ns, seen, rs, s, rfl, _⟩ := h
    rfl
  · obtain ⟨x, d, st, tp, rx, tx, ns, seen, rs, s, rfl, hA, k0, k1⟩ := h
    refine ⟨_, (pss_cons (ps_if (pt_cmpR op_eq (pe_fld (pv 0) rfl) pe_int (nomark _))
  (pss_one (ps_ret pe_bl))
  pss_nil)
(pss_cons (ps_fldaug (pv 0) pe_int in_sub)
(pss_one (ps_ret pe_bl)))), ?_⟩
    obtain ⟨dx, ho⟩ := hA.o
    refine ⟨_, rfl, x, C_Thinker, dx, _, _, rfl, ho, T.cl_Thinker, T.a_Thinker_left, rfl, rfl, _, rfl, iteD (fun e => k0 (V.int.inj e)) (fun e => ?_)⟩
    have e' : ¬ s.left = 0 := fun z => e (congrArg V.int z)
    refine ⟨_, rfl, x, C_Thinker, dx, _, _, rfl, ho, T.cl_Thinker, T.a_Thinker_left, rfl, _, _, rfl, rfl, dx, _, ho, by show 4 < 1000; decide, ?_⟩
    have ne : ∀ {a : Addr} {o : HO}, H a = some o → ¬ o = .ins C_Thinker dx (thF d st tp s.left) → a ≠ x := fun h1 h2 z => by rw [z, ho] at h1; exact h2 (Option.some.inj h1).symm
    obtain ⟨kvs, e1, e2, e3⟩ := hA.t
    obtain ⟨dt, ot⟩ := hA.ta.o
    obtain ⟨ys, t1, t2⟩ := hA.ta.t
    have ku : Keep [x] H (upd H x (.ins C_Thinker dx (thF d st tp (s.left - 1)))) := Keep.at_ (List.mem_singleton.mpr rfl)
    have tku : TK H (upd H x (.ins C_Thinker dx (thF d st tp (s.left - 1)))) := fun b xs q => by rw [upd_ne (ne q (by intro z; cases z))]; exact q
    refine k1 e' _ ⟨⟨dx, upd_same⟩, ⟨kvs, ?_, e2, e3⟩, ?_, hA.ta.keep ku tku ?_ ?_ ?_, hA.nx⟩ (ku.mono (by simp))
    · exact ku _ _ e1 (by have := ne e1 (by intro z; cases z); simpa using this)
    · exact tku _ _ hA.sn
    · simpa using hA.nx.symm
    · have := ne hA.ta.r (by intro z; cases z); simpa using this
    · have := ne t1 (by intro z; cases z); simpa using this
end

theorem ThAt.put {C CT : Addr} {H : Hp} {x d st tp rx tx : Addr} {ns : List Str} {seen rs : List Int} {s : MS} (h : ThAt C CT H x d st tp rx tx ns seen rs s) {y : Str} (hy : y ∈ ns) : ∃ kvs : List (Key × V), H d = some (.dK kvs) ∧ kvs.length = ns.length ∧
    ∀ v : Int, ThAt C CT (upd H d (.dK (putK kvs (.inr y) (.int v)))) x d st tp rx tx ns seen rs (s.put y v) := by
  obtain ⟨kvs, e, l, g⟩ := h.t.put hy
  obtain ⟨dx, o⟩ := h.o
  obtain ⟨dt, ot⟩ := h.ta.o
  obtain ⟨ys, t1, t2⟩ := h.ta.t
  refine ⟨kvs, e, l, fun v => ?_⟩
  have ne : ∀ {a : Addr} {u : HO}, H a = some u → ¬ u = .dK kvs → a ≠ d := fun h1 h2 z => by rw [z, e] at h1; exact h2 (Option.some.inj h1).symm
  have ku : Keep [d] H (upd H d (.dK (putK kvs (.inr y) (.int v)))) := Keep.at_ (List.mem_singleton.mpr rfl)
  have tku : TK H (upd H d (.dK (putK kvs (.inr y) (.int v)))) := fun b xs q => by rw [upd_ne (ne q (by intro z; cases z))]; exact q
  refine ⟨⟨dx, ku _ _ o (by have := ne o (by intro z; cases z); simpa using this)⟩, g _ v upd_same, tku _ _ h.sn, h.ta.keep ku tku ?_ ?_ ?_, h.nx⟩
  · have := ne ot (by intro z; cases z); simpa using this
  · have := ne h.ta.r (by intro z; cases z); simpa using this
  · have := ne t1 (by intro z; cases z); simpa using this
theorem ThAt.take {C CT : Addr} {H H' : Hp} {x d st tp rx tx : Addr} {ns : List Str} {seen rs : List Int} {s : MS} (h : ThAt C CT H x d st tp rx tx ns seen rs s) (k : Keep [tx] H H') {tk : List (Int × Int)} (t : TapeAt CT H' tp rx tx rs tk) : ThAt C CT H' x d st tp rx tx ns seen rs { s with tk := tk } := by
  obtain ⟨dx, o⟩ := h.o
  obtain ⟨ys, t1, t2⟩ := h.ta.t
  obtain ⟨kvs, e, _⟩ := id h.t
  have ne : ∀ {a : Addr} {u : HO}, H a = some u → ¬ u = .lst ys → a ≠ tx := fun h1 h2 z => by rw [z, t1] at h1; exact h2 (Option.some.inj h1).symm
  refine ⟨⟨dx, k _ _ o (by have := ne o (by intro z; cases z); simpa using this)⟩, h.t.keep k (by have := ne e (by intro z; cases z); simpa using this), k _ _ h.sn (by have := ne h.sn (by intro z; cases z); simpa using this), t, h.nx⟩
theorem metUp {P : Program} {w : World} {K : PySem.W.Frag} {mg : Str → Option Value} {base : Heap} {j k : Nat} {C : Addr} {m : Str} {sp : Sp} {dvs : List V} (c : C8.Met P w K mg base j C m sp dvs) (h : j ≤ k) : C8.Met P w K mg base k C m sp dvs := by
  obtain ⟨f, fd, ps, ds, hc, hm, F, b, d⟩ := c.ex
  exact ⟨f, fd, ps, ds, hc, hm, F.mono h, b, d⟩
section
variable {P : Program} {w : World} {K : PySem.W.Frag} {mg : Str → Option Value} {base : Heap} {C_Ratio : Addr} {C_Tape : Addr} {C_Thinker : Addr} {C_Brain : Addr} {C_GameError : Addr} {C_TooLarge : Addr} {f_TooLarge___init : Addr} {T_EVENTS : Addr}
theorem ok_trun0 {f : Addr} {fd : FuncData} (me : Meth K C_Thinker "run" f) (b : Binds K fd ["self", "block"] []) (T : Txt K mg C_Ratio C_Tape C_Thinker C_Brain C_GameError C_TooLarge T_EVENTS) {k : Nat} : C8.Met P w K mg base k C_Thinker "run" (sp_trun K C_Thinker C_Tape 0) [] :=
  ⟨f, fd, ["self", "block"], [], T.cl_Thinker, me, ⟨fun vs H Q E h => (by obtain ⟨x, d, st, tp, rx, tx, ns, seen, rs, s, q, b, rfl, _⟩ := h; rfl), fun A outer s H args us vs Q E _ _ _ _ h => (by
    obtain ⟨x, d, st, tp, rx, tx, ns, seen, rs, s, q, b, _, _, _, _, z, _⟩ := h
    exact absurd z (Nat.not_lt_zero _))⟩, b, .nil⟩
theorem ok_tloop {f : Addr} {fd : FuncData} (me : Meth K C_Thinker "loop" f) (F : C8.Fun K "loop" "Thinker.loop" s_Thinker_loop f fd) (b : Binds K fd ["self", "test", "block"] []) (T : Txt K mg C_Ratio C_Tape C_Thinker C_Brain C_GameError C_TooLarge T_EVENTS) {n k : Nat} (c_Thinker_value : C8.Met P w K mg base k C_Thinker "value" (sp_tval K C_Thinker C_Tape) []) (c_Thinker_unit : C8.Met P w K mg base k C_Thinker "unit" (sp_tunit C_Thinker C_Tape) [])
    (c_Thinker_run : C8.Met P w K mg base k C_Thinker "run" (sp_trun K C_Thinker C_Tape n) []) : C8.Met P w K mg base (k + 1) C_Thinker "loop" (sp_tloop K C_Thinker C_Tape n) [] := by
  refine met0 T.cl_Thinker me F b sc_Thinker_loop (fun vs H Q E h => ?_) (fun cdv A outer s H vs Q E hr h => ?_)
  · obtain ⟨x, d, st, tp, rx, tx, ns, seen, rs, s, v, t, q, b, rfl, _⟩ := h
    rfl
  · obtain ⟨x, d, st, tp, rx, tx, ns, seen, rs, s0, v, t, q, b, rfl, hC, he, hok, hB, bok, bd, k⟩ := h
    refine ⟨_, (pss_cons (ps_while PassesOwn.never (pt_cmpR op_ne (pe_mt c_Thinker_value hr (by first | exact Nat.le_refl _ | decide | omega) (pv 0) (pa_cons (pv 1) pa_nil)) pe_int (nomark _))
  (pss_one (ps_if (PW.pt (pw_or (pt_not (pt_truth (pe_mt c_Thinker_run hr (by first | exact Nat.le_refl _ | decide | omega) (pv 0) (pa_cons (pv 2) pa_nil)) (by intro _; rfl))) (pw_or1 (pt_not (pt_truth (pe_mt0 c_Thinker_unit hr (by first | exact Nat.le_refl _ | decide | omega) (pv 0)) (by intro _; rfl))))))
    (pss_one (ps_ret pe_bl))
    pss_nil)))
(pss_one (ps_ret pe_bl))), ?_⟩
    have eR : runT seen rs (.whl t b) s0 = loopM (fun s => decide (s.ev seen t ≠ 0)) (fun s => runB seen rs b s) (s0.left.toNat + 1) s0 := by unfold runT; rfl
    rw [eR] at k
    refine ⟨fun m σ H' => σ = [some (.ref x), some v, some (.ref q)] ∧ ∃ (s : MS) (i : Nat), m = s.left.toNat ∧ s.left.toNat < i ∧ TC C_Thinker C_Tape H' x d st tp rx tx ns seen rs s ∧ Keep [x, d, tx] H H' ∧ loopM (fun s => decide (s.ev seen t ≠ 0)) (fun s => runB seen rs b s) i s = loopM (fun s => decide (s.ev seen t ≠ 0)) (fun s => runB seen rs b s) (s0.left.toNat + 1) s0,
      ⟨_, rfl, s0, _, rfl, Nat.lt_succ_self _, hC, Keep.refl _ _, rfl⟩, ?_⟩
    rintro m σ H1 ⟨rfl, s, i, rfl, hi, C1, K1, eL⟩
    obtain ⟨i, rfl⟩ : ∃ j, i = j + 1 := ⟨i - 1, by omega⟩
    have tk1 := hC.A.tk3 K1
    obtain ⟨dx, ho⟩ := C1.A.o
    refine ⟨_, rfl, x, dx, _, rfl, ho, rfl, _, rfl, x, d, st, tp, rx, tx, ns, seen, rs, s, v, t, rfl, C1.A, C1.ok, C1.sk, C1.sl, he.tk tk1, hok, fun H2 K2 => ?_⟩
    have C2 := C1.keep0 K2
    have K12 := K1.trans (K2.mono (by simp))
    have hB2 := (hB.tk tk1).tk K2.tk
    by_cases hz : s.ev seen t = 0
    · have e : loopM (fun s => decide (s.ev seen t ≠ 0)) (fun s => runB seen rs b s) (i + 1) s = (true, s) := by
        unfold loopM
        rw [if_pos (decide_eq_false (not_not_intro hz))]
      rw [← eL, e] at k
      exact ⟨rfl, _, rfl, iteNF (by rw [hz]) (k _ C2.A K12)⟩
    have e : loopM (fun s => decide (s.ev seen t ≠ 0)) (fun s => runB seen rs b s) (i + 1) s = if (runB seen rs b s).1 = false then (false, (runB seen rs b s).2) else if (runB seen rs b s).2.left = 0 then (false, (runB seen rs b s).2) else
        loopM (fun s => decide (s.ev seen t ≠ 0)) (fun s => runB seen rs b s) i { (runB seen rs b s).2 with left := (runB seen rs b s).2.left - 1 } := by
      conv => lhs; unfold loopM
      rw [if_neg (by simpa using hz)]
    refine ⟨rfl, _, rfl, iteNT (fun z => hz (V.int.inj z)) ⟨fun σ' H' => ∃ m', m' < s.left.toNat ∧ (σ' = [some (.ref x), some v, some (.ref q)] ∧ ∃ (s : MS) (i : Nat), m' = s.left.toNat ∧ s.left.toNat < i ∧ TC C_Thinker C_Tape H' x d st tp rx tx ns seen rs s ∧ Keep [x, d, tx] H H' ∧ loopM (fun s => decide (s.ev seen t ≠ 0)) (fun s => runB seen rs b s) i s = loopM (fun s => decide (s.ev seen t ≠ 0)) (fun s => runB seen rs b s) (s0.left.toNat + 1) s0), fun _ _ z => z, ?_⟩⟩
    have mv := runB_mv (rs := rs) C1.sk b bok s C1.ok
    obtain ⟨dx2, ho2⟩ := C2.A.o
    refine ⟨_, rfl, x, dx2, _, rfl, ho2, rfl, _, rfl, x, d, st, tp, rx, tx, ns, seen, rs, s, q, b, rfl, C2, hB2, bok, bd, fun H3 A3 K3 => ?_⟩
    have C3 := C2.mv A3 mv
    have K13 := K12.trans K3
    cases hb : (runB seen rs b s).1 with
    | false =>
      rw [hb, if_pos rfl] at e
      rw [← eL, e] at k
      exact ⟨_, rfl, iteT (k _ A3 K13)⟩
    | true =>
      rw [hb, if_neg (by decide)] at e
      refine ⟨_, rfl, iteF ?_⟩
      obtain ⟨dx3, ho3⟩ := C3.A.o
      refine ⟨_, rfl, x, dx3, _, rfl, ho3, rfl, x, d, st, tp, rx, tx, ns, seen, rs, _, rfl, A3, fun z => ?_, fun z H4 A4 K4 => ?_⟩
      · rw [if_pos z] at e
        rw [← eL, e] at k
        exact ⟨_, rfl, iteT (k _ A3 K13)⟩
      · rw [if_neg z] at e
        refine ⟨_, rfl, iteF ?_⟩
        have hok3 := C3.ok.dec z
        have hl3 := C3.ok.l
        have hml := mv.l
        have hl0 := C1.ok.l
        refine ⟨((runB seen rs b s).2.left - 1).toNat, by omega, rfl, _, i, rfl, ?_, ⟨A4, hok3, C3.sk, C3.sl, ?_, C3.nl⟩, K13.trans K4, ?_⟩
        · show ((runB seen rs b s).2.left - 1).toNat < i
          omega
        · have := C3.bd
          show ((runB seen rs b s).2.left - 1).toNat + (runB seen rs b s).2.tk.length ≤ 90000
          omega
        · rw [← e, eL]
theorem ok_tstep {f : Addr} {fd : FuncData} (me : Meth K C_Thinker "step" f) (F : C8.Fun K "step" "Thinker.step" s_Thinker_step f fd) (b : Binds K fd ["self", "statement"] []) (T : Txt K mg C_Ratio C_Tape C_Thinker C_Brain C_GameError C_TooLarge T_EVENTS) {n k : Nat} (c_Thinker_value : C8.Met P w K mg base k C_Thinker "value" (sp_tval K C_Thinker C_Tape) []) (c_Thinker_loop : C8.Met P w K mg base k C_Thinker "loop" (sp_tloop K C_Thinker C_Tape n) [])
    (c_Thinker_run : C8.Met P w K mg base k C_Thinker "run" (sp_trun K C_Thinker C_Tape n) []) (c_Tape_take : C8.Met P w K mg base k C_Tape "take" (sp_take C_Tape) []) : C8.Met P w K mg base (k + 1) C_Thinker "step" (sp_tstep K C_Thinker C_Tape n) [] := by
  refine met0 T.cl_Thinker me F b sc_Thinker_step (fun vs H Q E h => ?_) (fun cdv A outer s H vs Q E hr h => ?_)
  · obtain ⟨x, d, st, tp, rx, tx, ns, seen, rs, s, v, t, rfl, _⟩ := h
    rfl
  · obtain ⟨x, d, st, tp, rx, tx, ns, seen, rs, s, v, t, rfl, hC, hT, hok, bd, k⟩ := h
    have hu := hu_of hr
    refine ⟨_, (pss_cons (ps_set (i := 2) sc_Thinker_step.nd rfl (by first | exact Or.inl rfl | exact Or.inr rfl) (pe_ix ix_tup (pv 1) pe_int (fun _ _ => rfl)))
(pss_cons (ps_if (pt_cmpR op_eq (pv 2) pe_str (nomark _))
  (pss_one (ps_ret (pe_mt c_Thinker_loop hr (by first | exact Nat.le_refl _ | decide | omega) (pv 0) (pa_cons (pe_ix ix_tup (pv 1) pe_int (fun _ _ => rfl)) (pa_cons (pe_ix ix_tup (pv 1) pe_int (fun _ _ => rfl)) pa_nil)))))
  pss_nil)
(pss_cons (ps_if (pt_cmpR op_eq (pv 2) pe_str (nomark _))
  (pss_cons (ps_if (pt_cmpR op_ne (pe_mt c_Thinker_value hr (by first | exact Nat.le_refl _ | decide | omega) (pv 0) (pa_cons (pe_ix ix_tup (pv 1) pe_int (fun _ _ => rfl)) pa_nil)) pe_int (nomark _))
    (pss_one (ps_ret (pe_mt c_Thinker_run hr (by first | exact Nat.le_refl _ | decide | omega) (pv 0) (pa_cons (pe_ix ix_tup (pv 1) pe_int (fun _ _ => rfl)) pa_nil))))
    pss_nil)
  (pss_one (ps_ret (pe_mt c_Thinker_run hr (by first | exact Nat.le_refl _ | decide | omega) (pv 0) (pa_cons (pe_ix ix_tup (pv 1) pe_int (fun _ _ => rfl)) pa_nil)))))
  pss_nil)
(pss_cons (ps_set (i := 3) sc_Thinker_step.nd rfl (by first | exact Or.inl rfl | exact Or.inr rfl) (pe_mt c_Thinker_value hr (by first | exact Nat.le_refl _ | decide | omega) (pv 0) (pa_cons (pe_ix ix_tup (pv 1) pe_int (fun _ _ => rfl)) pa_nil)))
(pss_cons (ps_if (PW.pt (pw_and (pt_cmpR op_eq (pv 2) pe_str (nomark _)) (pw_and1 (pt_cmpR op_gt (pv 3) pe_int (nomark _)))))
  (pss_one (ps_set (i := 3) sc_Thinker_step.nd rfl (by first | exact Or.inl rfl | exact Or.inr rfl) (pe_mt c_Tape_take hr (by first | exact Nat.le_refl _ | decide | omega) (pe_fld (pv 0) rfl) (pa_cons (pv 3) pa_nil))))
  pss_nil)
(pss_cons (ps_dput hu (pe_fld (pv 0) rfl) (pe_ix ix_tup (pv 1) pe_int (fun _ _ => rfl)) (pv 3) (by rfl))
(pss_one (ps_ret pe_bl)))))))), ?_⟩
    obtain ⟨dx, ho⟩ := hC.A.o
    cases t with
    | whl t b =>
      obtain ⟨p, u, q, xs, rfl, h1, h2, h3, h4⟩ := hT
      refine ⟨_, rfl, _, _, _, _, rfl, rfl, h1.sq, rfl, ?_⟩
      refine ⟨_, rfl, rfl, _, rfl, iteDT rfl ?_⟩
      exact ⟨_, rfl, x, dx, _, rfl, ho, rfl, _, rfl, _, _, _, _, rfl, rfl, h1.sq, rfl, _, rfl, _, _, _, _, rfl, rfl, h1.sq, rfl, x, d, st, tp, rx, tx, ns, seen, rs, s, u, t, q, b, rfl, hC, h2, hok.1, ⟨xs, h3, h4⟩, hok.2, by (have : b.dep + 1 ≤ n := bd); omega, k⟩
    | iff t a b =>
      obtain ⟨p, u, q, r, xs, ys, rfl, h1, h2, h3, h4, h5, h6⟩ := hT
      have bd' : max a.dep b.dep + 1 ≤ n := bd
      refine ⟨_, rfl, _, _, _, _, rfl, rfl, h1.sq, rfl, ?_⟩
      refine ⟨_, rfl, rfl, _, rfl, iteDF (nes (by decide +kernel)) ?_⟩
      refine ⟨_, rfl, rfl, _, rfl, iteDT rfl ?_⟩
      refine ⟨_, rfl, x, dx, _, rfl, ho, rfl, _, rfl, _, _, _, _, rfl, rfl, h1.sq, rfl, x, d, st, tp, rx, tx, ns, seen, rs, s, u, t, rfl, hC.A, hC.ok, hC.sk, hC.sl, h2, hok.1, fun H1 K1 => ?_⟩
      have C1 := hC.keep0 K1
      have h1' := h1.tk K1.tk
      obtain ⟨dx1, ho1⟩ := C1.A.o
      by_cases hz : s.ev seen t = 0
      · have e : runT seen rs (.iff t a b) s = runB seen rs b s := by unfold runT; rw [if_neg (not_not_intro hz)]
        rw [e] at k
        refine ⟨rfl, _, rfl, iteNF (by rw [hz]) ?_⟩
        exact ⟨_, rfl, x, dx1, _, rfl, ho1, rfl, _, rfl, _, _, _, _, rfl, rfl, h1'.sq, rfl, x, d, st, tp, rx, tx, ns, seen, rs, s, r, b, rfl, C1, ⟨ys, h5.tk K1.tk, TVs.tk K1.tk b h6⟩, hok.2.2, by omega, fun H2 A2 K2 => k _ A2 ((K1.mono (by simp)).trans K2)⟩
      · have e : runT seen rs (.iff t a b) s = runB seen rs a s := by unfold runT; rw [if_pos hz]
        rw [e] at k
        refine ⟨rfl, _, rfl, iteNT (fun z => hz (V.int.inj z)) ?_⟩
        exact ⟨_, rfl, x, dx1, _, rfl, ho1, rfl, _, rfl, _, _, _, _, rfl, rfl, h1'.sq, rfl, x, d, st, tp, rx, tx, ns, seen, rs, s, q, a, rfl, C1, ⟨xs, h3.tk K1.tk, TVs.tk K1.tk a h4⟩, hok.2.1, by omega, fun H2 A2 K2 => k _ A2 ((K1.mono (by simp)).trans K2)⟩
    | set y e =>
      obtain ⟨p, u, rfl, h1, h2⟩ := hT
      refine ⟨_, rfl, _, _, _, _, rfl, rfl, h1.sq, rfl, ?_⟩
      refine ⟨_, rfl, rfl, _, rfl, iteDF (nes (by decide +kernel)) ?_⟩
      refine ⟨_, rfl, rfl, _, rfl, iteDF (nes (by decide +kernel)) ?_⟩
      refine ⟨_, rfl, x, dx, _, rfl, ho, rfl, _, rfl, _, _, _, _, rfl, rfl, h1.sq, rfl, x, d, st, tp, rx, tx, ns, seen, rs, s, u, e, rfl, hC.A, hC.ok, hC.sk, hC.sl, h2, hok.2, fun H1 K1 => ?_⟩
      have C1 := hC.keep0 K1
      have h1' := h1.tk K1.tk
      obtain ⟨dx1, ho1⟩ := C1.A.o
      refine ⟨_, rfl, rfl, _, rfl, iteDF (nes (by decide +kernel)) ?_⟩
      obtain ⟨kvs, e1, e2, e3⟩ := C1.A.put hok.1
      refine ⟨_, rfl, _, rfl, x, C_Thinker, dx1, _, _, rfl, ho1, T.cl_Thinker, T.a_Thinker_table, rfl, _, rfl, _, _, _, _, rfl, rfl, h1'.sq, rfl, d, _, rfl, DPut.k (k := .inr y) e1 (smallL (by rw [e2]; have := hC.nl; omega)), ?_⟩
      exact k _ (e3 _) ((K1.mono (by simp)).trans (Keep.at_ (by simp)))
    | lot y e =>
      obtain ⟨p, u, rfl, h1, h2⟩ := hT
      refine ⟨_, rfl, _, _, _, _, rfl, rfl, h1.sq, rfl, ?_⟩
      refine ⟨_, rfl, rfl, _, rfl, iteDF (nes (by decide +kernel)) ?_⟩
      refine ⟨_, rfl, rfl, _, rfl, iteDF (nes (by decide +kernel)) ?_⟩
      refine ⟨_, rfl, x, dx, _, rfl, ho, rfl, _, rfl, _, _, _, _, rfl, rfl, h1.sq, rfl, x, d, st, tp, rx, tx, ns, seen, rs, s, u, e, rfl, hC.A, hC.ok, hC.sk, hC.sl, h2, hok.2, fun H1 K1 => ?_⟩
      have C1 := hC.keep0 K1
      have h1' := h1.tk K1.tk
      obtain ⟨dx1, ho1⟩ := C1.A.o
      have hv := hC.ok.ev hC.sk hok.2
      have eR : runT seen rs (.lot y e) s = (true, lotS seen rs s y e) := by unfold runT; rfl
      rw [eR] at k
      refine ⟨_, rfl, rfl, _, rfl, iteDT rfl ⟨_, rfl, _, _, rfl, rfl, _, rfl, iteD (fun hp => ?_) (fun hp => ?_)⟩⟩
      · obtain ⟨dt, ot⟩ := C1.A.ta.o
        have hl : s.tk.length ≤ 100000 := by have := hC.bd; omega
        refine ⟨_, rfl, x, C_Thinker, dx1, _, _, rfl, ho1, T.cl_Thinker, T.a_Thinker_tape, rfl, tp, dt, _, rfl, ot, rfl, _, rfl, tp, rx, tx, rs, s.tk, s.ev seen e, rfl, hp, by omega, hl, C1.A.ta, fun H2 K2 TA2 => ?_⟩
        have A2 := C1.A.take K2 TA2
        have tk2 : TK H1 H2 := C1.A.tk3 (K2.mono (by simp))
        obtain ⟨kvs, e1, e2, e3⟩ := A2.put hok.1
        obtain ⟨dx2, ho2⟩ := A2.o
        have eL : lotS seen rs s y e = MS.put { s with tk := s.tk ++ [(nextR rs s.tk (s.ev seen e), s.ev seen e)] } y (nextR rs s.tk (s.ev seen e)) := by unfold lotS; rw [if_pos hp]
        rw [eL] at k
        refine ⟨_, rfl, _, rfl, x, C_Thinker, dx2, _, _, rfl, ho2, T.cl_Thinker, T.a_Thinker_table, rfl, _, rfl, _, _, _, _, rfl, rfl, (h1'.tk tk2).sq, rfl, d, _, rfl, DPut.k (k := .inr y) e1 (smallL (by rw [e2]; have := hC.nl; omega)), ?_⟩
        exact k _ (e3 _) (((K1.mono (by simp)).trans (K2.mono (by simp))).trans (Keep.at_ (by simp)))
      · have eL : lotS seen rs s y e = s.put y (s.ev seen e) := by unfold lotS; rw [if_neg hp]
        rw [eL] at k
        obtain ⟨kvs, e1, e2, e3⟩ := C1.A.put hok.1
        refine ⟨_, rfl, _, rfl, x, C_Thinker, dx1, _, _, rfl, ho1, T.cl_Thinker, T.a_Thinker_table, rfl, _, rfl, _, _, _, _, rfl, rfl, h1'.sq, rfl, d, _, rfl, DPut.k (k := .inr y) e1 (smallL (by rw [e2]; have := hC.nl; omega)), ?_⟩
        exact k _ (e3 _) ((K1.mono (by simp)).trans (Keep.at_ (by simp)))
theorem ok_trun {f : Addr} {fd : FuncData} (me : Meth K C_Thinker "run" f) (F : C8.Fun K "run" "Thinker.run" s_Thinker_run f fd) (b : Binds K fd ["self", "block"] []) (T : Txt K mg C_Ratio C_Tape C_Thinker C_Brain C_GameError C_TooLarge T_EVENTS) {n k : Nat} (c_Thinker_unit : C8.Met P w K mg base k C_Thinker "unit" (sp_tunit C_Thinker C_Tape) [])
    (c_Thinker_step : C8.Met P w K mg base k C_Thinker "step" (sp_tstep K C_Thinker C_Tape n) []) : C8.Met P w K mg base (k + 1) C_Thinker "run" (sp_trun K C_Thinker C_Tape (n + 1)) [] := by
  refine met0 T.cl_Thinker me F b sc_Thinker_run (fun vs H Q E h => ?_) (fun cdv A outer s H vs Q E hr h => ?_)
  · obtain ⟨x, d, st, tp, rx, tx, ns, seen, rs, s, q, b, rfl, _⟩ := h
    rfl
  · obtain ⟨x, d, st, tp, rx, tx, ns, seen, rs, s0, q, b0, rfl, hC, ⟨xs, hq, hT⟩, hok, bd, k⟩ := h
    refine ⟨_, (pss_cons (ps_for PassesOwn.never rfl (pi_tup (pv 1)) (pg_name (i := 2) sc_Thinker_run.nd rfl (by first | exact Or.inl rfl | exact Or.inr rfl))
  (pss_one (ps_if (PW.pt (pw_or (pt_not (pt_truth (pe_mt0 c_Thinker_unit hr (by first | exact Nat.le_refl _ | decide | omega) (pv 0)) (by intro _; rfl))) (pw_or1 (pt_not (pt_truth (pe_mt c_Thinker_step hr (by first | exact Nat.le_refl _ | decide | omega) (pv 0) (pa_cons (pv 2) pa_nil)) (by intro _; rfl))))))
    (pss_one (ps_ret pe_bl))
    pss_nil)))
(pss_one (ps_ret pe_bl))), ?_⟩
    have tkOf : ∀ {H' : Hp}, Keep [x, d, tx] H H' → TK H H' := fun K' => hC.A.tk3 K'
    refine ⟨_, rfl, q, rfl, ⟨_, hq.sq⟩, for_tup (K := K) (a := q) (xs := xs) (fun i σ H' => ∃ (s : MS) (b : Bl) (o : Option V), σ = [some (.ref x), some (.ref q), o] ∧ TC C_Thinker C_Tape H' x d st tp rx tx ns seen rs s ∧ TVs K H b (xs.drop i) ∧ b.Ok ns ∧ b.dep ≤ n ∧ runB seen rs b s = runB seen rs b0 s0 ∧ Keep [x, d, tx] H H')
      ⟨s0, b0, none, rfl, hC, hT, hok, by omega, rfl, Keep.refl _ _⟩ (fun i σ H' _ ⟨_, _, _, _, _, _, _, _, _, K'⟩ => (hq.tk (tkOf K')).sq) ?_ ?_⟩
    · rintro i v σ H1 hv ⟨s, b, o, rfl, C1, hT1, ok1, d1, e1, K1⟩
      obtain ⟨hlt, hget⟩ := List.getElem?_eq_some_iff.mp hv
      rw [List.drop_eq_getElem_cons hlt, hget] at hT1
      cases b with
      | nil => cases hT1
      | cons t b =>
        obtain ⟨v', r', e2, hT2, hT3⟩ := hT1
        cases e2
        obtain ⟨dx, ho⟩ := C1.A.o
        have dt : t.dep ≤ n ∧ b.dep ≤ n := by (have : max t.dep b.dep ≤ n := d1); omega
        have eB : runB seen rs (.cons t b) s = if s.left = 0 then (false, s) else if (runT seen rs t { s with left := s.left - 1 }).1 = false then runT seen rs t { s with left := s.left - 1 } else runB seen rs b (runT seen rs t { s with left := s.left - 1 }).2 := by
          conv => lhs; unfold runB
        refine ⟨_, rfl, x, dx, _, rfl, ho, rfl, x, d, st, tp, rx, tx, ns, seen, rs, s, rfl, C1.A, fun z => ?_, fun z H2 A2 K2 => ?_⟩
        · rw [if_pos z] at eB
          rw [← e1, eB] at k
          exact ⟨_, rfl, iteT (k _ C1.A K1)⟩
        · rw [if_neg z] at eB
          refine ⟨_, rfl, iteF ?_⟩
          have K12 := K1.trans K2
          have okd := C1.ok.dec z
          have C2 : TC C_Thinker C_Tape H2 x d st tp rx tx ns seen rs { s with left := s.left - 1 } := ⟨A2, okd, C1.sk, C1.sl, by (have := C1.bd; show (s.left - 1).toNat + s.tk.length ≤ 90000; omega), C1.nl⟩
          obtain ⟨dx2, ho2⟩ := A2.o
          refine ⟨_, rfl, x, dx2, _, rfl, ho2, rfl, _, rfl, x, d, st, tp, rx, tx, ns, seen, rs, _, v, t, rfl, C2, TV.tk (tkOf K12) t hT2, ok1.1, dt.1, fun H3 A3 K3 => ?_⟩
          have K13 := K12.trans K3
          cases hb : (runT seen rs t { s with left := s.left - 1 }).1 with
          | false =>
            rw [if_pos hb] at eB
            rw [← e1, eB, hb] at k
            exact ⟨_, rfl, iteT (k _ A3 K13)⟩
          | true =>
            rw [if_neg (by rw [hb]; decide)] at eB
            refine ⟨_, rfl, iteF ?_⟩
            have mv := runT_mv (rs := rs) C1.sk t ok1.1 _ okd
            refine ⟨_, b, _, rfl, ⟨A3, mv.ok, C1.sk, C1.sl, ?_, C1.nl⟩, hT3, ok1.2, dt.2, by rw [← e1, eB], K13⟩
            have h1 := mv.k
            have h2 := C1.bd
            have h3 := C1.ok.l
            change _ ≤ (s.left - 1).toNat + s.tk.length + 1 at h1
            omega
    · rintro σ H1 ⟨s, b, o, rfl, C1, hT1, ok1, d1, e1, K1⟩
      rw [List.drop_length] at hT1
      cases b with
      | cons t b => obtain ⟨_, _, e2, _⟩ := hT1; cases e2
      | nil =>
        have eB : runB seen rs .nil s = (true, s) := by unfold runB; rfl
        rw [← e1, eB] at k
        exact k _ C1.A K1
theorem trun_all {fr fs fl : Addr} {dr ds dl : FuncData} (mr : Meth K C_Thinker "run" fr) (Fr : C8.Fun K "run" "Thinker.run" s_Thinker_run fr dr) (br : Binds K dr ["self", "block"] []) (ms : Meth K C_Thinker "step" fs) (Fs : C8.Fun K "step" "Thinker.step" s_Thinker_step fs ds) (bs : Binds K ds ["self", "statement"] [])
    (ml : Meth K C_Thinker "loop" fl) (Fl : C8.Fun K "loop" "Thinker.loop" s_Thinker_loop fl dl) (bl : Binds K dl ["self", "test", "block"] []) (T : Txt K mg C_Ratio C_Tape C_Thinker C_Brain C_GameError C_TooLarge T_EVENTS) (c1 : C8.Met P w K mg base 14 C_Thinker "value" (sp_tval K C_Thinker C_Tape) []) (c2 : C8.Met P w K mg base 1 C_Thinker "unit" (sp_tunit C_Thinker C_Tape) []) (c3 : C8.Met P w K mg base 1 C_Tape "take" (sp_take C_Tape) []) :
    ∀ n, C8.Met P w K mg base (3 * n + 14) C_Thinker "run" (sp_trun K C_Thinker C_Tape n) []
  | 0 => ok_trun0 mr br T
  | n + 1 => by
    have c := trun_all mr Fr br ms Fs bs ml Fl bl T c1 c2 c3 n
    have cl := ok_tloop ml Fl bl T (metUp c1 (by omega)) (metUp c2 (by omega)) c
    have cs := ok_tstep ms Fs bs T (metUp c1 (by omega)) cl (metUp c (by omega)) (metUp c3 (by omega))
    exact ok_trun mr Fr br T (metUp c2 (by omega)) cs
end

/-! tuples whose object is known: their methods -/
def TupD (H : Hp) (a : Addr) (xs : List V) : Prop := ∃ o : Obj, H a = some (.frz o (.tup xs)) ∧ o.cls = .type "tuple" ∧ o.dict = none
theorem TupD.sq {K : PySem.W.Frag} {H : Hp} {a : Addr} {xs : List V} (h : TupD H a xs) : SqT K H a xs := by
  obtain ⟨o, e, _⟩ := h
  exact .inl (.inr ⟨o, e⟩)
theorem TupD.keep {H H' : Hp} {W : List Addr} {a : Addr} {xs : List V} (h : TupD H a xs) (k : Keep W H H') (w : a ∉ W) : TupD H' a xs := by
  obtain ⟨o, e, c, d⟩ := h
  exact ⟨o, k _ _ e w, c, d⟩
section
open PySem.Spec PyProof.Rows
variable {X : Cx} {T id : String} {r : V → List V → Hp → VK → Prop} {o e : Expr} {es : List Expr} {to : TE} {t : TA} {name : Str} {apos cpos pos : Pos}
theorem tupD_is {pins : List (Addr × Obj)} {σ : L2.St} {H : Hp} {s : Shared} {a : Addr} {xs : List V} (I : Inv X pins σ H s) (h : TupD H a xs) :
    s.TypeIs (.ref a) "tuple" ∧ ∀ b, Value.ref a = .ref b → ∃ ob, s.heap.get? b = some ob ∧ ob.dict = none := by
  obtain ⟨o, e, c, d⟩ := h
  obtain ⟨g, _⟩ := I.hok _ _ e
  exact ⟨⟨o, g, c⟩, fun b q => by cases q; exact ⟨o, g, d⟩⟩
theorem pe_bmZ (pa : PlainAttrs "tuple") (slot : Slot "tuple" name id) (hty : typeOf (.builtin id) = pure (.type "method_descriptor")) (hm : MtR X id r) (ho : PE X o to) (ha : PA X (e :: es) t)
    (hbase : attributeBase o name X.env (eval o X.env) = eval o X.env := by rfl)
    (hfew : ((backTo cpos (starEach (e :: es) X.env)).all (fun x => !x.1) && (backToKw cpos (keywordEach [] X.env)).all (fun x => x.1.isSome)
      && decide ((e :: es).length + ([] : List Keyword).length + (if ([] : List Keyword).isEmpty then 0 else 1) < 30)) = true := by rfl)
    (hline : (apos.endLine == cpos.line) = true := by rfl) (hs : starEach (e :: es) X.env = (false, eval e X.env) :: starEach es X.env := by rfl) (hplain : (backTo cpos (starEach es X.env)).any (·.1) = false := by rfl) :
    PE X (.Call (.Attribute o name apos) (e :: es) [] cpos) (fun σ H Q => to σ H fun x H1 => ∃ a xs, x = .ref a ∧ TupD H1 a xs ∧ t σ H1 fun ys H2 => r x ys H2 Q) := by
  refine ⟨fun pins s σ H Q I h => ?_⟩
  refine wpAny_Call_method_late hbase hfew hline rfl (thn (ho.run pins s σ H _ I h) fun v s1 ⟨x, H1, I1, r1, a, xs, hx, ty, q1⟩ => ?_)
  subst hx
  obtain rfl : v = Value.ref a := r1
  obtain ⟨h1, h2⟩ := tupD_is I1 ty
  refine ⟨"tuple", id, pa, slot, hty, h1, h2, ?_⟩
  have hA := ha.run cpos pins s1 σ H1 _ I1 q1
  rw [hs] at hA ⊢
  refine Calls.callWith_builtin (by show (false || (backTo cpos (starEach es X.env)).any (·.1)) = false; rw [hplain] <;> rfl) (Calls.evalArgs_plain ?_)
  exact thn hA fun us s2 ⟨vs, H2, I2, r2, q2⟩ => hm pins s2 σ H2 (.ref a) vs (.ref a) us Q I2 rfl r2 q2
theorem pe_tupZ {x1} (h : PA X es t) : PE X (.Tuple es x1 pos) (fun σ H Q => t σ H fun xs H1 => xs.length ≤ sizeLine ∧ ∀ p o, H1 p = none → o.cls = .type "tuple" → o.dict = none → Q (.ref p) (upd H1 p (.frz o (.tup xs)))) := by
  refine ⟨fun pins s σ H Q I hq => ?_⟩
  refine wpAny_Tuple_spliced (thn (h.run pos pins s σ H _ I hq) fun us s1 ⟨xs, H1, I1, r, z, q⟩ => ⟨by rw [← r.length]; exact z, ?_⟩)
  have hf : H1 s1.heap.objs.size = none := I1.hok.fresh (Nat.le_refl _)
  refine ⟨.ref s1.heap.objs.size, upd H1 s1.heap.objs.size (.frz { cls := .type "tuple", data := .seq us.toArray } (.tup xs)), I1.laid (t' := s1.toks) (fun b u e => Heap.get?_push_of_some _ e) (Nat.le_refl _) ?_, rfl, q _ _ hf rfl rfl⟩
  exact ⟨Heap.get?_push_size _ rfl, z, us, r, ⟨_, Heap.get?_push_size _ rfl, rfl, _, rfl⟩⟩
theorem call_tuple_ofZ : CallR X (.type "tuple") (fun xs H Q => ∃ p ys, xs = [.ref p] ∧ SqL X.K H p ys ∧ ∀ l o, H l = none → o.cls = .type "tuple" → o.dict = none → Q (.ref l) (upd H l (.frz o (.tup ys)))) := by
  intro pins s σ H xs us Q I r h
  obtain ⟨p, ys, rfl, hq, q⟩ := h
  obtain ⟨u, rfl, rx⟩ := vals1 r
  cases rx
  obtain ⟨its, r', pl, hz⟩ := I.list hq
  have hlen := r'.length
  refine call_tuple_list pl.isList (fun h' kp => ?_) (by simp only [List.size_toArray] <;> omega)
  have I1 : Inv X pins σ H { s with heap := h' } := I.kept (t' := s.toks) kp
  have I2 : Inv X pins σ (upd H h'.objs.size (.frz { cls := .type "tuple", data := .seq its.toArray } (.tup ys))) { s with heap := h'.push { cls := .type "tuple", data := .seq its.toArray } } :=
    I1.laid (t' := s.toks) (fun b o e => Heap.get?_push_of_some _ e) (Nat.le_refl _) (show ObjOk X.prog X.w _ _ _ (.frz _ (.tup ys)) from ⟨Heap.get?_push_size _ rfl, hz, its, r', IsTup.new _ _⟩)
  exact ⟨.ref h'.objs.size, _, I2, rfl, q _ _ (I1.hok.fresh (Nat.le_refl _)) rfl rfl⟩
end

/-! views -/
structure Ev where
  w : Str
  a : Int
  b : Option Int
def evL : List Str := ["round", "told", "move", "did"]
def evI (w : Str) : Nat := if w = "round" then 0 else if w = "told" then 1 else if w = "move" then 2 else 3
theorem evI_at : ∀ w ∈ evL, evL[evI w]? = some w ∧ (∀ m, m < evI w → evL[m]? ≠ some w) ∧ evI w < 4 := by decide +kernel
def evD (e : Ev) : List V := match e.b with
  | none => [.str e.w, .int e.a]
  | some b => [.str e.w, .int e.a, .int b]
structure EvOk (e : Ev) : Prop where
  w : e.w ∈ evL
  a0 : 0 ≤ e.a
  a1 : e.a < 65536
  b : ∀ b, e.b = some b → 0 ≤ b ∧ b < 65536
  m : e.w = "move" → ∃ b, e.b = some b
inductive Evs (H : Hp) : List V → List Ev → Prop
  | nil : Evs H [] []
  | cons {p : Addr} {e : Ev} {vs : List V} {es : List Ev} : H p = some (.tup (evD e)) → Evs H vs es → Evs H (.ref p :: vs) (e :: es)
theorem Evs.tk {H H' : Hp} (k : TK H H') {vs : List V} {l : List Ev} (h : Evs H vs l) : Evs H' vs l := by
  induction h with
  | nil => exact .nil
  | cons h _ ih => exact .cons (k _ _ h) ih
theorem Evs.app {H : Hp} {vs us : List V} {l m : List Ev} (h : Evs H vs l) (g : Evs H us m) : Evs H (vs ++ us) (l ++ m) := by
  induction h with
  | nil => exact g
  | cons h _ ih => exact .cons h ih
theorem Evs.len {H : Hp} {vs : List V} {l : List Ev} (h : Evs H vs l) : vs.length = l.length := by
  induction h with
  | nil => rfl
  | cons _ _ ih => rw [List.length_cons, List.length_cons, ih]
theorem Evs.get {H : Hp} {vs : List V} {l : List Ev} (h : Evs H vs l) : ∀ {i : Nat} {v : V}, vs[i]? = some v → ∃ p e, v = .ref p ∧ l[i]? = some e ∧ H p = some (.tup (evD e)) := by
  induction h with
  | nil => intro i v h; simp at h
  | cons h _ ih =>
    intro i v hv
    cases i with
    | zero => simp at hv; subst hv; exact ⟨_, _, rfl, rfl, h⟩
    | succ i => simpa using ih (by simpa using hv)
def EvsOk (es : List Ev) : Prop := ∀ e ∈ es, EvOk e
def num3 (e : Ev) : List Int := [(evI e.w : Int) + 1, e.a, e.b.getD 0]
def nums (es : List Ev) : List Int := (es.map num3).flatten
theorem nums_snoc (es : List Ev) (e : Ev) : nums (es ++ [e]) = nums es ++ num3 e := by simp [nums]
theorem nums_len : ∀ es : List Ev, (nums es).length = 3 * es.length
  | [] => rfl
  | e :: es => by
    show (num3 e ++ nums es).length = _
    rw [List.length_append, nums_len es, List.length_cons]
    show 3 + _ = _
    omega
theorem nums_ok {es : List Ev} (h : EvsOk es) : SeenOk (nums es) := by
  intro x hx
  obtain ⟨l, h1, h2⟩ := List.mem_flatten.mp hx
  obtain ⟨e, he, rfl⟩ := List.mem_map.mp h1
  have k := h e he
  have h3 := (evI_at _ k.w).2.2
  simp only [num3, List.mem_cons, List.not_mem_nil, or_false] at h2
  rcases h2 with rfl | rfl | rfl
  · omega
  · exact ⟨k.a0, k.a1⟩
  · cases q : e.b with
    | none => exact ⟨Int.le_refl _, by decide⟩
    | some b => exact k.b b q
theorem cutFrom {xs : List V} {m : Nat} (h : m ≤ xs.length) : cutV xs (some (m : Int)) none = xs.drop m := by
  unfold cutV
  rw [HT.sIx_nat, HT.sIx_none, Nat.min_eq_left h]
  exact List.take_of_length_le (by rw [List.length_drop]; omega)
def sp_views : Sp := fun vs H Q _ => ∃ q xs es, vs = [.ref q] ∧ H q = some (.tup xs) ∧ Evs H xs es ∧ EvsOk es ∧ es.length ≤ 10000 ∧ ∀ t H', H t = none → H' t = some (.tup ((nums es).map V.int)) → Keep [] H H' → Q (.ref t) H'
def sp_lseen : Sp := fun vs H Q _ => ∃ q xs es, vs = [.ref q] ∧ H q = some (.tup xs) ∧ Evs H xs es ∧ EvsOk es ∧ es.length ≤ 10000 ∧ ∀ t H', H t = none → H' t = some (.lst ((nums es).map V.int)) → Keep [] H H' → Q (.ref t) H'
section
variable {P : Program} {w : World} {K : PySem.W.Frag} {mg : Str → Option Value} {base : Heap} {C_Ratio : Addr} {C_Tape : Addr} {C_Thinker : Addr} {C_Brain : Addr} {C_GameError : Addr} {C_TooLarge : Addr} {f_TooLarge___init : Addr} {T_EVENTS : Addr}
theorem ok_views {f : Addr} {fd : FuncData} (D : C8.Def K mg "view_numbers" s_view_numbers f fd) (b : Binds K fd ["view"] []) (T : Txt K mg C_Ratio C_Tape C_Thinker C_Brain C_GameError C_TooLarge T_EVENTS) : C8.Cal P w K mg base 1 "view_numbers" sp_views [] := by
  refine cal0 D b .nil sc_view_numbers (fun vs H Q E h => ?_) (fun cdv A outer s H vs Q E hr h => ?_)
  · obtain ⟨q, xs, es, rfl, _⟩ := h
    rfl
  · obtain ⟨q, xs, es, rfl, hq, hE, hok, hlen, k⟩ := h
    refine ⟨_, (pss_cons (ps_set (i := 1) sc_view_numbers.nd rfl (by first | exact Or.inl rfl | exact Or.inr rfl) (pe_lst pa_nil))
(pss_cons (ps_for PassesOwn.never rfl (pi_tup (pv 0)) (pg_name (i := 2) sc_view_numbers.nd rfl (by first | exact Or.inl rfl | exact Or.inr rfl))
  (pss_cons (ps_expr (pe_bm PySem.F.plainAttrs_list PySem.F.slot_list_append PySem.F.type_list_append mt_append (pv 1) (pa_cons (pe_op op_add (pe_bm PySem.F.plainAttrs_tuple PySem.F.slot_tuple_index PySem.F.type_tuple_index mt_tup_index (pe_gc rfl T.v_EVENTS) (pa_cons (pe_ix ix_tup (pv 2) pe_int (fun _ _ => rfl)) pa_nil)) pe_int) pa_nil)))
  (pss_cons (ps_expr (pe_bm PySem.F.plainAttrs_list PySem.F.slot_list_append PySem.F.type_list_append mt_append (pv 1) (pa_cons (pe_ix ix_tup (pv 2) pe_int (fun _ _ => rfl)) pa_nil)))
  (pss_one (ps_expr (pe_bm PySem.F.plainAttrs_list PySem.F.slot_list_append PySem.F.type_list_append mt_append (pv 1) (pa_cons (pe_ifExp (pt_cmpR op_gt (pe_callB call_len_seq (by rfl) T.n_len bo_len (pa_cons (pv 2) pa_nil)) pe_int (nomark _)) (pe_ix ix_tup (pv 2) pe_int (fun _ _ => rfl)) pe_int) pa_nil)))))))
(pss_one (ps_ret (pe_callTy call_tuple_of (by rfl) T.n_tuple bo_tuple (pa_cons (pv 1) pa_nil)))))), ?_⟩
    refine ⟨Nat.zero_le _, fun l nl => ?_⟩
    have hl := hE.len
    refine ⟨_, rfl, q, rfl, ⟨_, SqT.of (Keep.new (W := []) nl _ _ hq (by simp))⟩, for_tup (K := K) (a := q) (xs := xs) (fun i σ H' => ∃ o : Option V, σ = [some (.ref q), some (.ref l), o] ∧ H' l = some (.lst ((nums (es.take i)).map V.int)) ∧ Keep [] H H')
      ⟨none, rfl, upd_same, Keep.new nl⟩ (fun i σ H' _ ⟨_, _, _, K'⟩ => SqT.of (K' _ _ hq (by simp))) ?_ ?_⟩
    · rintro i v σ H1 hv ⟨o, rfl, h1, K1⟩
      obtain ⟨p, e, rfl, hg, he⟩ := hE.get hv
      obtain ⟨hlt, hget⟩ := List.getElem?_eq_some_iff.mp hg
      have hee := hok e (hget ▸ List.getElem_mem hlt)
      have hi := evI_at _ hee.w
      have ll := nums_len (es.take i)
      rw [List.length_take] at ll
      have he1 := K1 _ _ he (by simp)
      have npl : p ≠ l := ne_of_none he nl
      obtain ⟨w0, a0, b0⟩ := e
      have hs0 : (evD ⟨w0, a0, b0⟩)[0]? = some (.str w0) := by cases b0 <;> rfl
      have hs1 : (evD ⟨w0, a0, b0⟩)[1]? = some (.int a0) := by cases b0 <;> rfl
      refine ⟨_, rfl, .inl ⟨rfl, _, SqL.of h1⟩, .inr (.inl ⟨rfl, T.d_EVENTS⟩), _, rfl, _, _, _, _, rfl, rfl, SqT.of he1, atI_nat (j := 0) hs0, _, evL, _, _, rfl, rfl, T.q_EVENTS _, hi.1, hi.2.1, _, _, rfl, rfl, ?_⟩
      refine ⟨_, _, _, rfl, rfl, h1, by rw [List.length_map]; exact smallL (by omega), ?_⟩
      have he2 : upd H1 l (.lst ((nums (es.take i)).map V.int ++ [.int ((evI w0 : Int) + 1)])) p = some (.tup (evD ⟨w0, a0, b0⟩)) := by rw [upd_ne npl]; exact he1
      refine ⟨_, rfl, .inl ⟨rfl, _, SqL.of upd_same⟩, _, rfl, _, _, _, _, rfl, rfl, SqT.of he2, atI_nat (j := 1) hs1, ?_⟩
      refine ⟨_, _, _, rfl, rfl, upd_same, by rw [List.length_append, List.length_map]; exact smallL (by simp; omega), ?_⟩
      have he3 : upd (upd H1 l (.lst ((nums (es.take i)).map V.int ++ [.int ((evI w0 : Int) + 1)]))) l (.lst ((nums (es.take i)).map V.int ++ [.int ((evI w0 : Int) + 1)] ++ [.int a0])) p = some (.tup (evD ⟨w0, a0, b0⟩)) := by rw [upd_ne npl]; exact he2
      refine ⟨_, rfl, .inl ⟨rfl, _, SqL.of upd_same⟩, _, rfl, _, _, rfl, .inr (SqT.of he3), _, _, rfl, rfl, ?_⟩
      have fin : ∀ z : Int, z = b0.getD 0 → ∀ {H9 : Hp}, H9 l = some (.lst (((nums (es.take i)).map V.int ++ [.int ((evI w0 : Int) + 1)] ++ [.int a0]) ++ [.int z])) → H9 l = some (.lst ((nums (es.take (i + 1))).map V.int)) := by
        intro z hz H9 h9
        rw [h9, List.take_succ_eq_append_getElem hlt, hget, nums_snoc, List.map_append, hz]
        simp [num3]
      have kf : ∀ z : Int, Keep [] H (upd (upd (upd H1 l (.lst ((nums (es.take i)).map V.int ++ [.int ((evI w0 : Int) + 1)]))) l (.lst ((nums (es.take i)).map V.int ++ [.int ((evI w0 : Int) + 1)] ++ [.int a0]))) l (.lst (((nums (es.take i)).map V.int ++ [.int ((evI w0 : Int) + 1)] ++ [.int a0]) ++ [.int z]))) := fun z => ((K1.then_own nl).then_own nl).then_own nl
      have sz : ((nums (es.take i)).map V.int ++ [V.int ((evI w0 : Int) + 1)] ++ [V.int a0]).length < sizeLine := by
        rw [List.length_append, List.length_append, List.length_map]; exact smallL (by simp; omega)
      cases b0 with
      | none =>
        refine ⟨_, rfl, iteDF (by show ¬ ((2 : Nat) : Int) > 2; omega) ?_⟩
        exact ⟨_, _, _, rfl, rfl, upd_same, sz, _, rfl, fin 0 rfl upd_same, kf 0⟩
      | some b =>
        refine ⟨_, rfl, iteDT (by show ((3 : Nat) : Int) > 2; omega) ?_⟩
        exact ⟨_, rfl, _, _, _, _, rfl, rfl, SqT.of he3, rfl, _, _, _, rfl, rfl, upd_same, sz, _, rfl, fin b rfl upd_same, kf b⟩
    · rintro σ H1 ⟨o, rfl, h1, K1⟩
      rw [hl, List.take_length] at h1
      exact ⟨_, rfl, _, _, rfl, .inl ⟨SqL.of h1, fun t nt => k t _ (K1.free nt) upd_same (K1.then_new nt)⟩⟩
theorem ok_lseen {f : Addr} {fd : FuncData} (D : C8.Def K mg "_law_seen" s_law_seen f fd) (b : Binds K fd ["view"] []) (T : Txt K mg C_Ratio C_Tape C_Thinker C_Brain C_GameError C_TooLarge T_EVENTS) : C8.Cal P w K mg base 1 "_law_seen" sp_lseen [] := by
  refine cal0 D b .nil sc_law_seen (fun vs H Q E h => ?_) (fun cdv A outer s H vs Q E hr h => ?_)
  · obtain ⟨q, xs, es, rfl, _⟩ := h
    rfl
  · obtain ⟨q, xs, es, rfl, hq, hE, hok, hlen, k⟩ := h
    refine ⟨_, (pss_cons (ps_set (i := 1) sc_law_seen.nd rfl (by first | exact Or.inl rfl | exact Or.inr rfl) (pe_lst pa_nil))
(pss_cons (ps_for PassesOwn.never rfl (pi_tup (pv 0)) (pg_name (i := 2) sc_law_seen.nd rfl (by first | exact Or.inl rfl | exact Or.inr rfl))
  (pss_cons (ps_set (i := 3) sc_law_seen.nd rfl (by first | exact Or.inl rfl | exact Or.inr rfl) (pe_op op_cat (pe_callTy call_list_of (by rfl) T.n_list bo_list (pa_cons (pe_slice sl_tup (pv 2) (po_some pe_int) po_none) pa_nil)) (pe_lst (pa_cons pe_int pa_nil))))
  (pss_one (ps_set (i := 1) sc_law_seen.nd rfl (by first | exact Or.inl rfl | exact Or.inr rfl) (pe_op op_cat (pv 1) (pe_lst (pa_cons (pe_op op_add (pe_bmZ PySem.F.plainAttrs_tuple PySem.F.slot_tuple_index PySem.F.type_tuple_index mt_tup_index (pe_tupZ (pa_cons pe_str (pa_cons pe_str (pa_cons pe_str (pa_cons pe_str pa_nil))))) (pa_cons (pe_ix ix_tup (pv 2) pe_int (fun _ _ => rfl)) pa_nil)) pe_int) (pa_cons (pe_ix ix_list (pv 3) pe_int (fun _ _ => rfl)) (pa_cons (pe_ix ix_list (pv 3) pe_int (fun _ _ => rfl)) pa_nil)))))))))
(pss_one (ps_ret (pv 1))))), ?_⟩
    refine ⟨Nat.zero_le _, fun l nl => ?_⟩
    have hl := hE.len
    refine ⟨_, rfl, q, rfl, ⟨_, SqT.of (Keep.new (W := []) nl _ _ hq (by simp))⟩, for_tup (K := K) (a := q) (xs := xs) (fun i σ H' => ∃ (l : Addr) (o o2 : Option V), σ = [some (.ref q), some (.ref l), o, o2] ∧ H l = none ∧ H' l = some (.lst ((nums (es.take i)).map V.int)) ∧ Keep [] H H')
      ⟨l, none, none, rfl, nl, upd_same, Keep.new nl⟩ (fun i σ H' _ ⟨_, _, _, _, _, _, K'⟩ => SqT.of (K' _ _ hq (by simp))) ?_ ?_⟩
    · rintro i v σ H1 hv ⟨l, o, o2, rfl, nl, h1, K1⟩
      obtain ⟨p, e, rfl, hg, he⟩ := hE.get hv
      obtain ⟨hlt, hget⟩ := List.getElem?_eq_some_iff.mp hg
      have hee := hok e (hget ▸ List.getElem_mem hlt)
      have hi := evI_at _ hee.w
      have ll := nums_len (es.take i)
      rw [List.length_take] at ll
      have he1 := K1 _ _ he (by simp)
      obtain ⟨w0, a0, b0⟩ := e
      have hs0 : (evD ⟨w0, a0, b0⟩)[0]? = some (.str w0) := by cases b0 <;> rfl
      have hdl : 2 ≤ (evD ⟨w0, a0, b0⟩).length ∧ (evD ⟨w0, a0, b0⟩).length ≤ 3 := by cases b0 with
        | none => exact ⟨by show 2 ≤ 2; decide, by show 2 ≤ 3; decide⟩
        | some b => exact ⟨by show 2 ≤ 3; decide, by show 3 ≤ 3; decide⟩
      refine ⟨_, rfl, _, rfl, p, _, rfl, SqT.of he1, ?_, fun sl nsl => ?_⟩
      · rintro ⟨h, _⟩
        rw [show (1 : Int) = ((1 : Nat) : Int) from rfl, HT.sIx_nat] at h
        omega
      rw [show (1 : Int) = ((1 : Nat) : Int) from rfl, cutFrom (by omega)]
      have k1 : Keep [] H1 (upd H1 sl (.tup ((evD ⟨w0, a0, b0⟩).drop 1))) := Keep.new nsl
      refine ⟨_, _, rfl, .inr (SqT.of upd_same), fun l1 n1 => And.intro (by show 1 ≤ sizeLine; decide) <| fun l2 n2 => ?_⟩
      have k2 := k1.then_new (o := .lst ((evD ⟨w0, a0, b0⟩).drop 1)) n1
      have k3 := k2.then_new (o := .lst [.int 0]) n2
      refine ⟨l1, l2, _, _, rfl, rfl, Keep.new (W := []) n2 _ _ upd_same (by simp), upd_same, smallM (by rw [List.length_drop]; simp; omega), fun l3 n3 => ?_⟩
      have k4 := k3.then_new (o := .lst ((evD ⟨w0, a0, b0⟩).drop 1 ++ [.int 0])) n3
      have e0 : ((evD ⟨w0, a0, b0⟩).drop 1 ++ [V.int 0])[0]? = some (.int a0) := by cases b0 <;> rfl
      have e1 : ((evD ⟨w0, a0, b0⟩).drop 1 ++ [V.int 0])[1]? = some (.int (b0.getD 0)) := by cases b0 <;> rfl
      refine ⟨_, rfl, And.intro (by show 4 ≤ sizeLine; decide) <| fun z oz nz cz dz => ?_⟩
      have k5 := k4.then_new (o := .frz oz (.tup (evL.map V.str))) nz
      refine ⟨_, _, rfl, ⟨oz, upd_same, cz, dz⟩, _, rfl, _, _, _, _, rfl, rfl, SqT.of (k5 _ _ he1 (by simp)), atI_nat (j := 0) hs0, _, evL, _, _, rfl, rfl, TupD.sq ⟨oz, upd_same, cz, dz⟩, hi.1, hi.2.1, _, _, rfl, rfl, ?_⟩
      have h3 := Keep.new (W := []) nz (o := .frz oz (.tup (evL.map V.str))) _ _ (upd_same (H := upd (upd (upd H1 sl (.tup ((evD ⟨w0, a0, b0⟩).drop 1))) l1 (.lst ((evD ⟨w0, a0, b0⟩).drop 1))) l2 (.lst [.int 0])) (a := l3) (o := .lst ((evD ⟨w0, a0, b0⟩).drop 1 ++ [.int 0]))) (by simp)
      refine ⟨_, rfl, _, _, _, _, rfl, rfl, SqL.of h3, atI_nat (j := 0) e0, _, rfl, _, _, _, _, rfl, rfl, SqL.of h3, atI_nat (j := 1) e1, And.intro (by show 3 ≤ sizeLine; decide) <| fun l4 n4 => ?_⟩
      have k6 := k5.then_new (o := .lst [.int ((evI w0 : Int) + 1), .int a0, .int (b0.getD 0)]) n4
      refine ⟨l, l4, _, _, rfl, rfl, k6 _ _ h1 (by simp), upd_same, smallM (by rw [List.length_map]; simp; omega), fun r nr => ?_⟩
      have k7 := (K1.trans k6).then_new (o := .lst ((nums (es.take i)).map V.int ++ [.int ((evI w0 : Int) + 1), .int a0, .int (b0.getD 0)])) nr
      refine ⟨r, _, _, rfl, (K1.trans k6).free nr, ?_, k7⟩
      rw [upd_same, List.take_succ_eq_append_getElem hlt, hget, nums_snoc, List.map_append]
      rfl
    · rintro σ H1 ⟨l, o, o2, rfl, nl, h1, K1⟩
      rw [hl, List.take_length] at h1
      exact ⟨_, rfl, k l _ nl h1 K1⟩
end

/-! the law's own brain at work -/
structure LAt (H : Hp) (R d sl rl tl : Addr) (ns : List Str) (seen rs : List Int) (left : Int) (s : MS) : Prop where
  r : H R = some (.lst [.int left, .ref d, .ref sl, .ref rl, .ref tl])
  t : Full H d ns (fun y => .int (s.tb y))
  sn : H sl = some (.lst (seen.map V.int))
  rr : H rl = some (.lst (rs.map V.int))
  tt : ∃ xs, H tl = some (.lst xs) ∧ PL H xs s.tk
  n1 : R ≠ sl
  n2 : R ≠ rl
  n3 : R ≠ tl
  n4 : tl ≠ sl
  n5 : tl ≠ rl
theorem LAt.keep0 {H H' : Hp} {R d sl rl tl : Addr} {ns : List Str} {seen rs : List Int} {left : Int} {s : MS} (h : LAt H R d sl rl tl ns seen rs left s) (k : Keep [] H H') : LAt H' R d sl rl tl ns seen rs left s := by
  obtain ⟨xs, t1, t2⟩ := h.tt
  exact ⟨k _ _ h.r (by simp), h.t.keep k (by simp), k _ _ h.sn (by simp), k _ _ h.rr (by simp), ⟨xs, k _ _ t1 (by simp), t2.tk k.tk⟩, h.n1, h.n2, h.n3, h.n4, h.n5⟩
theorem LAt.tk3 {H H' : Hp} {R d sl rl tl : Addr} {ns : List Str} {seen rs : List Int} {left : Int} {s : MS} (h : LAt H R d sl rl tl ns seen rs left s) (k : Keep [R, d, tl] H H') : TK H H' := by
  obtain ⟨kvs, e, _⟩ := h.t
  obtain ⟨ys, t, _⟩ := h.tt
  have o := h.r
  intro b xs q
  refine k _ _ q fun z => ?_
  have z' : b = R ∨ b = d ∨ b = tl := by simpa using z
  rcases z' with rfl | rfl | rfl
  · rw [o] at q; cases q
  · rw [e] at q; cases q
  · rw [t] at q; cases q
theorem LAt.unit {H : Hp} {R d sl rl tl : Addr} {ns : List Str} {seen rs : List Int} {left : Int} {s : MS} (h : LAt H R d sl rl tl ns seen rs left s) (l' : Int) : LAt (upd H R (.lst [.int l', .ref d, .ref sl, .ref rl, .ref tl])) R d sl rl tl ns seen rs l' s := by
  obtain ⟨kvs, e, e2, e3⟩ := h.t
  obtain ⟨ys, t1, t2⟩ := h.tt
  have tku : TK H (upd H R (.lst [.int l', .ref d, .ref sl, .ref rl, .ref tl])) := TK.lst h.r
  exact ⟨upd_same, ⟨kvs, by rw [upd_ne (ne_of e h.r (by intro z; cases z))]; exact e, e2, e3⟩, by rw [upd_ne h.n1.symm]; exact h.sn, by rw [upd_ne h.n2.symm]; exact h.rr, ⟨ys, by rw [upd_ne h.n3.symm]; exact t1, t2.tk tku⟩, h.n1, h.n2, h.n3, h.n4, h.n5⟩
theorem LAt.st {H : Hp} {R d sl rl tl : Addr} {ns : List Str} {seen rs : List Int} {left : Int} {s : MS} (h : LAt H R d sl rl tl ns seen rs left s) (l' : Int) : LAt H R d sl rl tl ns seen rs left { s with left := l' } := ⟨h.r, h.t, h.sn, h.rr, h.tt, h.n1, h.n2, h.n3, h.n4, h.n5⟩
theorem LAt.put {H : Hp} {R d sl rl tl : Addr} {ns : List Str} {seen rs : List Int} {left : Int} {s : MS} (h : LAt H R d sl rl tl ns seen rs left s) {y : Str} (hy : y ∈ ns) : ∃ kvs : List (Key × V), H d = some (.dK kvs) ∧ kvs.length = ns.length ∧
    ∀ v : Int, LAt (upd H d (.dK (putK kvs (.inr y) (.int v)))) R d sl rl tl ns seen rs left (s.put y v) := by
  obtain ⟨kvs, e, l, g⟩ := h.t.put hy
  obtain ⟨ys, t1, t2⟩ := h.tt
  refine ⟨kvs, e, l, fun v => ?_⟩
  have ne : ∀ {a : Addr} {xs : List V}, H a = some (.lst xs) → a ≠ d := fun h1 => ne_of h1 e (by intro z; cases z)
  have tku : TK H (upd H d (.dK (putK kvs (.inr y) (.int v)))) := fun b xs q => by rw [upd_ne (ne_of q e (by intro z; cases z))]; exact q
  exact ⟨by rw [upd_ne (ne h.r)]; exact h.r, g _ v upd_same, by rw [upd_ne (ne h.sn)]; exact h.sn, by rw [upd_ne (ne h.rr)]; exact h.rr, ⟨ys, by rw [upd_ne (ne t1)]; exact t1, t2.tk tku⟩, h.n1, h.n2, h.n3, h.n4, h.n5⟩
theorem LAt.take {H H' : Hp} {R d sl rl tl : Addr} {ns : List Str} {seen rs : List Int} {left : Int} {s : MS} (h : LAt H R d sl rl tl ns seen rs left s) (k : Keep [tl] H H') {tk : List (Int × Int)} (t : ∃ xs, H' tl = some (.lst xs) ∧ PL H' xs tk) : LAt H' R d sl rl tl ns seen rs left { s with tk := tk } := by
  obtain ⟨kvs, e, _⟩ := id h.t
  obtain ⟨ys, t1, t2⟩ := h.tt
  exact ⟨k _ _ h.r (by simpa using h.n3), h.t.keep k (by have := ne_of e t1 (by intro z; cases z); simpa using this), k _ _ h.sn (by simpa using h.n4.symm), k _ _ h.rr (by simpa using h.n5.symm), t, h.n1, h.n2, h.n3, h.n4, h.n5⟩
structure LC (H : Hp) (R d sl rl tl : Addr) (ns : List Str) (seen rs : List Int) (s : MS) : Prop where
  A : LAt H R d sl rl tl ns seen rs s.left s
  ok : MOk ns s
  sk : SeenOk seen
  sl' : seen.length ≤ 60000
  bd : s.left.toNat + s.tk.length ≤ 90000
  nl : ns.length ≤ 1000
theorem LC.keep0 {H H' : Hp} {R d sl rl tl : Addr} {ns : List Str} {seen rs : List Int} {s : MS} (h : LC H R d sl rl tl ns seen rs s) (k : Keep [] H H') : LC H' R d sl rl tl ns seen rs s := ⟨h.A.keep0 k, h.ok, h.sk, h.sl', h.bd, h.nl⟩
theorem LC.mv {H H' : Hp} {R d sl rl tl : Addr} {ns : List Str} {seen rs : List Int} {s r : MS} (h : LC H R d sl rl tl ns seen rs s) (a : LAt H' R d sl rl tl ns seen rs r.left r) (m : Mv ns 0 s r) : LC H' R d sl rl tl ns seen rs r := ⟨a, m.ok, h.sk, h.sl', by have := m.k; have := h.bd; omega, h.nl⟩
def sp_lunit : Sp := fun vs H Q _ => ∃ (R : Addr) (l : Int) (v1 v2 v3 v4 : V), vs = [.ref R] ∧ H R = some (.lst [.int l, v1, v2, v3, v4]) ∧ Q (.bl (decide (l - 1 ≥ 0))) (upd H R (.lst [.int (l - 1), v1, v2, v3, v4]))
def sp_lfall : Sp := fun vs H Q _ => ∃ (rl tl : Addr) (rs : List Int) (tk : List (Int × Int)) (xs : List V) (c : Int), vs = [.ref rl, .ref tl, .int c] ∧ 0 < c ∧ c < 1073741824 ∧ H rl = some (.lst (rs.map V.int)) ∧ H tl = some (.lst xs) ∧ PL H xs tk ∧ tk.length ≤ 100000 ∧ tl ≠ rl ∧
  ∀ H', Keep [tl] H H' → (∃ ys, H' tl = some (.lst ys) ∧ PL H' ys (tk ++ [(nextR rs tk c, c)])) → Q (.int (nextR rs tk c)) H'
def sp_lrun (K : PySem.W.Frag) (n : Nat) : Sp := fun vs H Q _ => ∃ R d sl rl tl ns seen rs s q b, vs = [.ref R, .ref q] ∧ LC H R d sl rl tl ns seen rs s ∧ BV K H b q ∧ b.Ok ns ∧ b.dep < n ∧
  ∀ H' left', LAt H' R d sl rl tl ns seen rs left' (runB seen rs b s).2 → ((runB seen rs b s).1 = true → left' = (runB seen rs b s).2.left) → Keep [R, d, tl] H H' → Q (.bl (runB seen rs b s).1) H'
theorem pick3 {z : Int} (h : z = 0) : ((3 : Int) - if (!decide (V.int z = V.int 0)) = true then 1 else 0) = 3 := by
  rw [decide_eq_true (congrArg V.int h)]; rfl
theorem pick2 {z : Int} (h : ¬ z = 0) : ((3 : Int) - if (!decide (V.int z = V.int 0)) = true then 1 else 0) = 2 := by
  rw [decide_eq_false (fun q => h (V.int.inj q))]; rfl
section
variable {P : Program} {w : World} {K : PySem.W.Frag} {mg : Str → Option Value} {base : Heap} {C_Ratio : Addr} {C_Tape : Addr} {C_Thinker : Addr} {C_Brain : Addr} {C_GameError : Addr} {C_TooLarge : Addr} {f_TooLarge___init : Addr} {T_EVENTS : Addr}
theorem ok_lunit {f : Addr} {fd : FuncData} (D : C8.Def K mg "_law_unit" s_law_unit f fd) (b : Binds K fd ["run"] []) (T : Txt K mg C_Ratio C_Tape C_Thinker C_Brain C_GameError C_TooLarge T_EVENTS) : C8.Cal P w K mg base 1 "_law_unit" sp_lunit [] := by
  refine cal0 D b .nil sc_law_unit (fun vs H Q E h => ?_) (fun cdv A outer s H vs Q E hr h => ?_)
  · obtain ⟨R, l, v1, v2, v3, v4, rfl, _⟩ := h
    rfl
  · obtain ⟨R, l, v1, v2, v3, v4, rfl, hR, k⟩ := h
    refine ⟨_, (pss_cons (ps_asg (pe_op op_sub (pe_ix ix_list (pv 0) pe_int (fun _ _ => rfl)) pe_int) (pg_sub (pv 0) pe_int set_list))
(pss_one (ps_ret (pe_cmpR op_ge (pe_ix ix_list (pv 0) pe_int (fun _ _ => rfl)) pe_int (nomark _))))), ?_⟩
    refine ⟨_, rfl, _, _, _, _, rfl, rfl, SqL.of hR, rfl, _, _, rfl, rfl, _, rfl, _, _, _, _, rfl, rfl, hR, rfl, ?_⟩
    exact ⟨_, rfl, _, _, _, _, rfl, rfl, SqL.of upd_same, rfl, _, _, rfl, rfl, k⟩
theorem ok_lfall {f : Addr} {fd : FuncData} (D : C8.Def K mg "_law_fall" s_law_fall f fd) (b : Binds K fd ["results", "taken", "count"] []) (T : Txt K mg C_Ratio C_Tape C_Thinker C_Brain C_GameError C_TooLarge T_EVENTS) : C8.Cal P w K mg base 1 "_law_fall" sp_lfall [] := by
  refine cal0 D b .nil sc_law_fall (fun vs H Q E h => ?_) (fun cdv A outer s H vs Q E hr h => ?_)
  · obtain ⟨rl, tl, rs, tk, xs, c, rfl, _⟩ := h
    rfl
  · obtain ⟨rl, tl, rs, tk, xs, c, rfl, c0, c1, hr1, ht, pl, hl, hne, k⟩ := h
    refine ⟨_, (pss_cons (ps_set (i := 3) sc_law_fall.nd rfl (by first | exact Or.inl rfl | exact Or.inr rfl) pe_int)
(pss_cons (ps_if (pt_cmpR op_lt (pe_callB call_len_seq (by rfl) T.n_len bo_len (pa_cons (pv 1) pa_nil)) (pe_callB call_len_seq (by rfl) T.n_len bo_len (pa_cons (pv 0) pa_nil)) (nomark _))
  (pss_one (ps_set (i := 3) sc_law_fall.nd rfl (by first | exact Or.inl rfl | exact Or.inr rfl) (pe_op op_mod (pe_callTy call_int1 (by rfl) T.n_int bo_int (pa_cons (pe_ix ix_list (pv 0) (pe_callB call_len_seq (by rfl) T.n_len bo_len (pa_cons (pv 1) pa_nil)) (fun _ _ => rfl)) pa_nil)) (pv 2))))
  pss_nil)
(pss_cons (ps_expr (pe_bm PySem.F.plainAttrs_list PySem.F.slot_list_append PySem.F.type_list_append mt_append (pv 1) (pa_cons (pe_tup (pa_cons (pv 3) (pa_cons (pv 2) pa_nil))) pa_nil)))
(pss_one (ps_ret (pv 3)))))), ?_⟩
    have hlen := pl.len
    have fin : ∀ {r : Int}, r = nextR rs tk c → 2 ≤ sizeLine ∧ ∀ u, H u = none → ∃ l ys y, V.ref tl = .ref l ∧ [V.ref u] = [y] ∧ upd H u (.tup [.int r, .int c]) l = some (.lst ys) ∧ ys.length < sizeLine ∧ Q (.int r) (upd (upd H u (.tup [.int r, .int c])) l (.lst (ys ++ [y]))) := fun {r} e =>
      ⟨by decide, fun u nu => by
        subst e
        have ku : Keep [] H (upd H u (.tup [.int (nextR rs tk c), .int c])) := Keep.new nu
        have ht' := ku _ _ ht (by simp)
        have eut : u ≠ tl := (ne_of_none ht nu).symm
        have kk : Keep [tl] H (upd (upd H u (.tup [.int (nextR rs tk c), .int c])) tl (.lst (xs ++ [.ref u]))) := (ku.mono (by simp)).then_at (List.mem_singleton.mpr rfl)
        have kt : TK H (upd (upd H u (.tup [.int (nextR rs tk c), .int c])) tl (.lst (xs ++ [.ref u]))) := (TK.new nu).trans (TK.lst ht')
        exact ⟨_, _, _, rfl, rfl, ht', by rw [hlen]; exact smallL (by omega), k _ kk ⟨_, upd_same, (pl.tk kt).snoc (by rw [upd_ne eut]; exact upd_same)⟩⟩⟩
    refine ⟨_, rfl, _, _, rfl, .inl (SqL.of ht), _, rfl, _, _, rfl, .inl (SqL.of hr1), _, _, rfl, rfl, _, rfl, iteD (fun h => ?_) (fun h => ?_)⟩
    · rw [List.length_map, hlen] at h
      have h' : tk.length < rs.length := by omega
      have hget : (rs.map V.int)[xs.length]? = some (.int (rs.getD tk.length 0)) := by
        rw [hlen, List.getElem?_map, List.getD_eq_getElem?_getD, List.getElem?_eq_getElem h']; rfl
      have en : nextR rs tk c = (rs.getD tk.length 0) % c := by unfold nextR; rw [if_pos h']
      refine ⟨_, rfl, _, rfl, _, _, rfl, .inl (SqL.of ht), _, _, _, _, rfl, rfl, SqL.of hr1, atI_nat hget, .inl ⟨_, rfl, _, rfl, _, _, rfl, rfl, c0, ?_⟩⟩
      obtain ⟨a1, a2⟩ := fin (r := (rs.getD tk.length 0) % c) en.symm
      refine ⟨_, rfl, .inl ⟨rfl, _, SqL.of ht⟩, _, rfl, _, rfl, a1, fun u nu => ?_⟩
      obtain ⟨l, ys, y, z1, z2, z3, z4, z5⟩ := a2 u nu
      exact ⟨l, ys, y, z1, z2, z3, z4, _, rfl, z5⟩
    · rw [List.length_map, hlen] at h
      have en : nextR rs tk c = 0 := by unfold nextR; rw [if_neg (by omega)]
      obtain ⟨a1, a2⟩ := fin (r := 0) en.symm
      refine ⟨_, rfl, .inl ⟨rfl, _, SqL.of ht⟩, _, rfl, _, rfl, a1, fun u nu => ?_⟩
      obtain ⟨l, ys, y, z1, z2, z3, z4, z5⟩ := a2 u nu
      exact ⟨l, ys, y, z1, z2, z3, z4, _, rfl, z5⟩
theorem ok_lrun0 {f : Addr} {fd : FuncData} (D : C8.Def K mg "_law_run" s_law_run f fd) (b : Binds K fd ["run", "block"] []) {k : Nat} : C8.Cal P w K mg base k "_law_run" (sp_lrun K 0) [] :=
  ⟨f, fd, ["run", "block"], [], ⟨fun vs H Q E h => (by obtain ⟨R, d, sl, rl, tl, ns, seen, rs, s, q, b, rfl, _⟩ := h; rfl), fun A outer s H args us vs Q E _ _ _ _ h => (by
    obtain ⟨R, d, sl, rl, tl, ns, seen, rs, s, q, b, _, _, _, _, z, _⟩ := h
    exact absurd z (Nat.not_lt_zero _))⟩, D.mgf, D.kp, b, .nil⟩
theorem ok_lrun {f : Addr} {fd : FuncData} (D : C8.Def K mg "_law_run" s_law_run f fd) (b : Binds K fd ["run", "block"] []) (T : Txt K mg C_Ratio C_Tape C_Thinker C_Brain C_GameError C_TooLarge T_EVENTS) {n k : Nat} (c_law_run : C8.Cal P w K mg base k "_law_run" (sp_lrun K n) []) (c_law_unit : C8.Cal P w K mg base k "_law_unit" sp_lunit []) (c_law_fall : C8.Cal P w K mg base k "_law_fall" sp_lfall [])
    (c_law_value : C8.Cal P w K mg base k "_law_value" (sp_lvalue K 12) []) : C8.Cal P w K mg base (k + 1) "_law_run" (sp_lrun K (n + 1)) [] := by
  refine cal0 D b .nil sc_law_run (fun vs H Q E h => ?_) (fun cdv A outer s H vs Q E hr h => ?_)
  · obtain ⟨R, d, sl, rl, tl, ns, seen, rs, s, q, b, rfl, _⟩ := h
    rfl
  · obtain ⟨R, d, sl, rl, tl, ns, seen, rs, s0, q, b0, rfl, hC, ⟨xs, hq, hT⟩, hok, bd, k⟩ := h
    have hu := hu_of hr
    refine ⟨_, (pss_cons (ps_for PassesOwn.never rfl (pi_tup (pv 1)) (pg_name (i := 2) sc_law_run.nd rfl (by first | exact Or.inl rfl | exact Or.inr rfl))
  (pss_cons (ps_if (pt_not (pt_val (pe_c c_law_unit hr (by first | exact Nat.le_refl _ | decide | omega) rfl (pa_cons (pv 0) pa_nil))))
    (pss_one (ps_ret pe_bl))
    pss_nil)
  (pss_one (ps_if (pt_cmpR op_eq (pe_ix ix_tup (pv 2) pe_int (fun _ _ => rfl)) pe_str (nomark _))
    (pss_one (ps_for PassesOwn.never rfl (pi_range1 (by rfl) T.n_range (pa_cons (pe_op op_add (pe_ix ix_list (pv 0) pe_int (fun _ _ => rfl)) pe_int) pa_nil)) (pg_name (i := 3) sc_law_run.nd rfl (by first | exact Or.inl rfl | exact Or.inr rfl))
      (pss_cons (ps_if (pt_cmpR op_eq (pe_c c_law_value hr (by first | exact Nat.le_refl _ | decide | omega) rfl (pa_cons (pe_ix ix_tup (pv 2) pe_int (fun _ _ => rfl)) (pa_cons (pe_ix ix_list (pv 0) pe_int (fun _ _ => rfl)) (pa_cons pe_dnewK (pa_cons (pe_ix ix_list (pv 0) pe_int (fun _ _ => rfl)) pa_nil))))) pe_int (nomark _))
        (pss_one ps_break)
        pss_nil)
      (pss_one (ps_if (PW.pt (pw_or (pt_not (pt_val (pe_c c_law_run hr (by first | exact Nat.le_refl _ | decide | omega) rfl (pa_cons (pv 0) (pa_cons (pe_ix ix_tup (pv 2) pe_int (fun _ _ => rfl)) pa_nil))))) (pw_or1 (pt_not (pt_val (pe_c c_law_unit hr (by first | exact Nat.le_refl _ | decide | omega) rfl (pa_cons (pv 0) pa_nil)))))))
        (pss_one (ps_ret pe_bl))
        pss_nil)))))
    (pss_one (ps_if (pt_cmpR op_eq (pe_ix ix_tup (pv 2) pe_int (fun _ _ => rfl)) pe_str (nomark _))
      (pss_cons (ps_set (i := 4) sc_law_run.nd rfl (by first | exact Or.inl rfl | exact Or.inr rfl) (pe_ix ix_tup (pv 2) (pe_op op_sub pe_int (pe_callTy call_int1 (by rfl) T.n_int bo_int (pa_cons (pe_cmpR op_ne (pe_c c_law_value hr (by first | exact Nat.le_refl _ | decide | omega) rfl (pa_cons (pe_ix ix_tup (pv 2) pe_int (fun _ _ => rfl)) (pa_cons (pe_ix ix_list (pv 0) pe_int (fun _ _ => rfl)) (pa_cons pe_dnewK (pa_cons (pe_ix ix_list (pv 0) pe_int (fun _ _ => rfl)) pa_nil))))) pe_int (nomark _)) pa_nil))) (fun _ _ => rfl)))
      (pss_one (ps_if (pt_not (pt_val (pe_c c_law_run hr (by first | exact Nat.le_refl _ | decide | omega) rfl (pa_cons (pv 0) (pa_cons (pv 4) pa_nil)))))
        (pss_one (ps_ret pe_bl))
        pss_nil)))
      (pss_cons (ps_set (i := 5) sc_law_run.nd rfl (by first | exact Or.inl rfl | exact Or.inr rfl) (pe_c c_law_value hr (by first | exact Nat.le_refl _ | decide | omega) rfl (pa_cons (pe_ix ix_tup (pv 2) pe_int (fun _ _ => rfl)) (pa_cons (pe_ix ix_list (pv 0) pe_int (fun _ _ => rfl)) (pa_cons pe_dnewK (pa_cons (pe_ix ix_list (pv 0) pe_int (fun _ _ => rfl)) pa_nil))))))
      (pss_cons (ps_if (PW.pt (pw_and (pt_cmpR op_eq (pe_ix ix_tup (pv 2) pe_int (fun _ _ => rfl)) pe_str (nomark _)) (pw_and1 (pt_cmpR op_gt (pv 5) pe_int (nomark _)))))
        (pss_one (ps_set (i := 5) sc_law_run.nd rfl (by first | exact Or.inl rfl | exact Or.inr rfl) (pe_c c_law_fall hr (by first | exact Nat.le_refl _ | decide | omega) rfl (pa_cons (pe_ix ix_list (pv 0) pe_int (fun _ _ => rfl)) (pa_cons (pe_ix ix_list (pv 0) pe_int (fun _ _ => rfl)) (pa_cons (pv 5) pa_nil))))))
        pss_nil)
      (pss_cons (ps_set (i := 6) sc_law_run.nd rfl (by first | exact Or.inl rfl | exact Or.inr rfl) (pe_ix ix_list (pv 0) pe_int (fun _ _ => rfl)))
      (pss_one (ps_dput hu (pv 6) (pe_ix ix_tup (pv 2) pe_int (fun _ _ => rfl)) (pv 5) (by rfl))))))))))))
(pss_one (ps_ret pe_bl))), ?_⟩
    have tkOf : ∀ {H' : Hp}, Keep [R, d, tl] H H' → TK H H' := fun K' => hC.A.tk3 K'
    refine ⟨_, rfl, q, rfl, ⟨_, hq.sq⟩, for_tup (K := K) (a := q) (xs := xs) (fun i σ H' => ∃ (s : MS) (b : Bl) (o2 o3 o4 o5 o6 : Option V), σ = [some (.ref R), some (.ref q), o2, o3, o4, o5, o6] ∧ LC H' R d sl rl tl ns seen rs s ∧ TVs K H b (xs.drop i) ∧ b.Ok ns ∧ b.dep ≤ n ∧ runB seen rs b s = runB seen rs b0 s0 ∧ Keep [R, d, tl] H H')
      ⟨s0, b0, none, none, none, none, none, rfl, hC, hT, hok, by omega, rfl, Keep.refl _ _⟩ (fun i σ H' _ ⟨_, _, _, _, _, _, _, _, _, _, _, _, _, K'⟩ => (hq.tk (tkOf K')).sq) ?_ ?_⟩
    · rintro i v σ H1 hv ⟨s, b, o2, o3, o4, o5, o6, rfl, C1, hT1, ok1, d1, e1, K1⟩
      obtain ⟨hlt, hget⟩ := List.getElem?_eq_some_iff.mp hv
      rw [List.drop_eq_getElem_cons hlt, hget] at hT1
      cases b with
      | nil => cases hT1
      | cons t b =>
        obtain ⟨v', r', e2, hT2, hT3⟩ := hT1
        cases e2
        have dt : t.dep ≤ n ∧ b.dep ≤ n := by (have : max t.dep b.dep ≤ n := d1); omega
        have eB : runB seen rs (.cons t b) s = if s.left = 0 then (false, s) else if (runT seen rs t { s with left := s.left - 1 }).1 = false then runT seen rs t { s with left := s.left - 1 } else runB seen rs b (runT seen rs t { s with left := s.left - 1 }).2 := by
          conv => lhs; unfold runB
        have hl0 := C1.ok.l
        refine ⟨_, rfl, R, s.left, _, _, _, _, rfl, C1.A.r, _, rfl, ?_⟩
        by_cases z : s.left = 0
        · rw [if_pos z] at eB
          rw [← e1, eB] at k
          refine iteNT (by omega) ?_
          exact k _ _ (C1.A.unit _) (fun h => by cases h) (K1.then_at (by simp))
        rw [if_neg z] at eB
        refine iteNF (by omega) ?_
        have A2 := (C1.A.unit (s.left - 1)).st (s.left - 1)
        have K2 : Keep [R, d, tl] H (upd H1 R (.lst [.int (s.left - 1), .ref d, .ref sl, .ref rl, .ref tl])) := K1.then_at (by simp)
        have okd := C1.ok.dec z
        have C2 : LC (upd H1 R (.lst [.int (s.left - 1), .ref d, .ref sl, .ref rl, .ref tl])) R d sl rl tl ns seen rs { s with left := s.left - 1 } := ⟨A2, okd, C1.sk, C1.sl', by (have := C1.bd; show (s.left - 1).toNat + s.tk.length ≤ 90000; omega), C1.nl⟩
        have mv := runT_mv (rs := rs) C1.sk t ok1.1 _ okd
        have hTk := TV.tk (tkOf K2) t hT2
        -- behind a statement that went well
        have go : ∀ {H3 : Hp} {p2 p3 p4 p5 p6 : Option V}, LAt H3 R d sl rl tl ns seen rs (runT seen rs t { s with left := s.left - 1 }).2.left (runT seen rs t { s with left := s.left - 1 }).2 → (runT seen rs t { s with left := s.left - 1 }).1 = true → Keep [R, d, tl] H H3 →
            ∃ (s : MS) (b : Bl) (o2 o3 o4 o5 o6 : Option V), ([some (.ref R), some (.ref q), p2, p3, p4, p5, p6] : List (Option V)) = [some (.ref R), some (.ref q), o2, o3, o4, o5, o6] ∧ LC H3 R d sl rl tl ns seen rs s ∧ TVs K H b (xs.drop (i + 1)) ∧ b.Ok ns ∧ b.dep ≤ n ∧ runB seen rs b s = runB seen rs b0 s0 ∧ Keep [R, d, tl] H H3 := by
          intro H3 p2 p3 p4 p5 p6 A3 hb K3
          rw [if_neg (by rw [hb]; decide)] at eB
          refine ⟨_, b, _, _, _, _, _, rfl, ⟨A3, mv.ok, C1.sk, C1.sl', ?_, C1.nl⟩, hT3, ok1.2, dt.2, by rw [← e1, eB], K3⟩
          have h1 := mv.k
          have h2 := C1.bd
          change _ ≤ (s.left - 1).toNat + s.tk.length + 1 at h1
          omega
        -- .. or not
        have stop : ∀ {H3 : Hp} {l' : Int}, LAt H3 R d sl rl tl ns seen rs l' (runT seen rs t { s with left := s.left - 1 }).2 → (runT seen rs t { s with left := s.left - 1 }).1 = false → Keep [R, d, tl] H H3 → Q (.bl false) H3 := by
          intro H3 l' A3 hb K3
          rw [if_pos hb] at eB
          rw [← e1, eB, hb] at k
          exact k _ _ A3 (fun h => by cases h) K3
        generalize hs1 : ({ s with left := s.left - 1 } : MS) = s1 at *
        generalize upd H1 R (.lst [.int (s.left - 1), .ref d, .ref sl, .ref rl, .ref tl]) = H2 at *
        cases t with
        | set y e =>
          obtain ⟨p, u, rfl, h1, h2⟩ := hTk
          refine ⟨_, rfl, _, _, _, _, rfl, rfl, h1.sq, rfl, rfl, _, rfl, iteDF (nes (by decide +kernel)) ?_⟩
          refine ⟨_, rfl, _, _, _, _, rfl, rfl, h1.sq, rfl, rfl, _, rfl, iteDF (nes (by decide +kernel)) ?_⟩
          refine ⟨_, rfl, _, _, _, _, rfl, rfl, h1.sq, rfl, _, rfl, _, _, _, _, rfl, rfl, SqL.of C2.A.r, rfl, fun od nod => ?_⟩
          have k1 : Keep [] H2 (upd H2 od (.dK [])) := Keep.new nod
          refine ⟨_, rfl, _, _, _, _, rfl, rfl, SqL.of (k1 _ _ C2.A.r (by simp)), rfl, u, d, od, sl, e, ns, [], _, offs, seen, rfl, h2.tk k1.tk, (ok1.1.2).1, (ok1.1.2).2, (C2.A.t.keep k1 (by simp)).dcI, ⟨[], upd_same, fun x hx => by cases hx⟩, k1 _ _ C2.A.sn (by simp), C2.ok.t, C2.sk, C2.sl', fun H3 K3' => ?_⟩
          have K3 := k1.trans K3'
          have C3 := C2.keep0 K3
          have h1' := h1.tk K3.tk
          refine ⟨_, rfl, _, _, _, _, rfl, rfl, h1'.sq, rfl, rfl, _, rfl, iteDF (nes (by decide +kernel)) ?_⟩
          obtain ⟨kvs, g1, g2, g3⟩ := C3.A.put ok1.1.1
          refine ⟨_, rfl, _, _, _, _, rfl, rfl, SqL.of C3.A.r, rfl, ?_⟩
          refine ⟨_, rfl, _, rfl, _, rfl, _, _, _, _, rfl, rfl, h1'.sq, rfl, d, _, rfl, DPut.k (k := .inr y) g1 (smallL (by rw [g2]; have := C1.nl; omega)), ?_⟩
          exact go (g3 _) rfl ((K2.trans (K3.mono (by simp))).then_at (by simp))
        | lot y e =>
          obtain ⟨p, u, rfl, h1, h2⟩ := hTk
          have hv := C2.ok.ev C2.sk ok1.1.2
          have eR : runT seen rs (.lot y e) s1 = (true, lotS seen rs s1 y e) := by unfold runT; rfl
          refine ⟨_, rfl, _, _, _, _, rfl, rfl, h1.sq, rfl, rfl, _, rfl, iteDF (nes (by decide +kernel)) ?_⟩
          refine ⟨_, rfl, _, _, _, _, rfl, rfl, h1.sq, rfl, rfl, _, rfl, iteDF (nes (by decide +kernel)) ?_⟩
          refine ⟨_, rfl, _, _, _, _, rfl, rfl, h1.sq, rfl, _, rfl, _, _, _, _, rfl, rfl, SqL.of C2.A.r, rfl, fun od nod => ?_⟩
          have k1 : Keep [] H2 (upd H2 od (.dK [])) := Keep.new nod
          refine ⟨_, rfl, _, _, _, _, rfl, rfl, SqL.of (k1 _ _ C2.A.r (by simp)), rfl, u, d, od, sl, e, ns, [], _, offs, seen, rfl, h2.tk k1.tk, (ok1.1.2).1, (ok1.1.2).2, (C2.A.t.keep k1 (by simp)).dcI, ⟨[], upd_same, fun x hx => by cases hx⟩, k1 _ _ C2.A.sn (by simp), C2.ok.t, C2.sk, C2.sl', fun H3 K3' => ?_⟩
          have K3 := k1.trans K3'
          have C3 := C2.keep0 K3
          have h1' := h1.tk K3.tk
          rw [eR] at go
          refine ⟨_, rfl, _, _, _, _, rfl, rfl, h1'.sq, rfl, rfl, _, rfl, iteDT rfl ⟨_, rfl, _, _, rfl, rfl, _, rfl, iteD (fun hp => ?_) (fun hp => ?_)⟩⟩
          · obtain ⟨ys, t1, t2⟩ := C3.A.tt
            have hl : s1.tk.length ≤ 100000 := by have := C3.bd; omega
            have hp' : s1.ev seen e > 0 := hp
            refine ⟨_, rfl, _, _, _, _, rfl, rfl, SqL.of C3.A.r, rfl, _, rfl, _, _, _, _, rfl, rfl, SqL.of C3.A.r, rfl, _, rfl, rl, tl, rs, s1.tk, ys, s1.ev seen e, rfl, hp', by omega, C3.A.rr, t1, t2, hl, C3.A.n5, fun H4 K4 TT => ?_⟩
            have A4 := C3.A.take K4 TT
            have tk4 : TK H3 H4 := C3.A.tk3 (K4.mono (by simp))
            obtain ⟨kvs, g1, g2, g3⟩ := A4.put ok1.1.1
            have eL : lotS seen rs s1 y e = MS.put { s1 with tk := s1.tk ++ [(nextR rs s1.tk (s1.ev seen e), s1.ev seen e)] } y (nextR rs s1.tk (s1.ev seen e)) := by unfold lotS; rw [if_pos hp']
            rw [eL] at go
            refine ⟨_, rfl, _, _, _, _, rfl, rfl, SqL.of A4.r, rfl, ?_⟩
            refine ⟨_, rfl, _, rfl, _, rfl, _, _, _, _, rfl, rfl, (h1'.tk tk4).sq, rfl, d, _, rfl, DPut.k (k := .inr y) g1 (smallL (by rw [g2]; have := C1.nl; omega)), ?_⟩
            exact go (g3 _) rfl (((K2.trans (K3.mono (by simp))).trans (K4.mono (by simp))).then_at (by simp))
          · have hp' : ¬ s1.ev seen e > 0 := hp
            have eL : lotS seen rs s1 y e = s1.put y (s1.ev seen e) := by unfold lotS; rw [if_neg hp']
            rw [eL] at go
            obtain ⟨kvs, g1, g2, g3⟩ := C3.A.put ok1.1.1
            refine ⟨_, rfl, _, _, _, _, rfl, rfl, SqL.of C3.A.r, rfl, ?_⟩
            refine ⟨_, rfl, _, rfl, _, rfl, _, _, _, _, rfl, rfl, h1'.sq, rfl, d, _, rfl, DPut.k (k := .inr y) g1 (smallL (by rw [g2]; have := C1.nl; omega)), ?_⟩
            exact go (g3 _) rfl ((K2.trans (K3.mono (by simp))).then_at (by simp))
        | iff t a b1 =>
          obtain ⟨p, u, qa, qb, xa, xb, rfl, h1, h2, h3, h4, h5, h6⟩ := hTk
          have bd' : max a.dep b1.dep + 1 ≤ n := dt.1
          refine ⟨_, rfl, _, _, _, _, rfl, rfl, h1.sq, rfl, rfl, _, rfl, iteDF (nes (by decide +kernel)) ?_⟩
          refine ⟨_, rfl, _, _, _, _, rfl, rfl, h1.sq, rfl, rfl, _, rfl, iteDT rfl ?_⟩
          refine ⟨_, rfl, _, rfl, _, _, _, _, rfl, rfl, h1.sq, rfl, _, rfl, _, _, _, _, rfl, rfl, SqL.of C2.A.r, rfl, fun od nod => ?_⟩
          have k1 : Keep [] H2 (upd H2 od (.dK [])) := Keep.new nod
          refine ⟨_, rfl, _, _, _, _, rfl, rfl, SqL.of (k1 _ _ C2.A.r (by simp)), rfl, u, d, od, sl, t, ns, [], _, offs, seen, rfl, h2.tk k1.tk, (ok1.1.1).1, (ok1.1.1).2, (C2.A.t.keep k1 (by simp)).dcI, ⟨[], upd_same, fun x hx => by cases hx⟩, k1 _ _ C2.A.sn (by simp), C2.ok.t, C2.sk, C2.sl', fun H3 K3' => ?_⟩
          have K3 := k1.trans K3'
          have C3 := C2.keep0 K3
          have h1' := h1.tk K3.tk
          have K03 := K2.trans (K3.mono (by simp))
          by_cases hz : s1.ev seen t = 0
          · have eR : runT seen rs (.iff t a b1) s1 = runB seen rs b1 s1 := by unfold runT; rw [if_neg (not_not_intro hz)]
            have ei : ((3 : Int) - if (!decide (V.int (val s1.tb offs seen t) = V.int 0)) = true then 1 else 0) = 3 := pick3 hz
            refine ⟨rfl, .inr ⟨_, rfl, _, _, rfl, rfl, p, _, _, _, rfl, rfl, h1'.sq, by rw [ei]; rfl, ?_⟩⟩
            refine ⟨_, rfl, _, rfl, R, d, sl, rl, tl, ns, seen, rs, s1, qb, b1, rfl, C3, ⟨xb, h5.tk K3.tk, TVs.tk K3.tk b1 h6⟩, ok1.1.2.2, by omega, fun H4 l' A4 hb K4 => ?_⟩
            rw [eR] at go stop
            cases hqq : (runB seen rs b1 s1).1 with
            | true => rw [hb hqq] at A4; exact ⟨_, rfl, iteF (go A4 hqq (K03.trans K4))⟩
            | false => exact ⟨_, rfl, iteT (stop A4 hqq (K03.trans K4))⟩
          · have eR : runT seen rs (.iff t a b1) s1 = runB seen rs a s1 := by unfold runT; rw [if_pos hz]
            have ei : ((3 : Int) - if (!decide (V.int (val s1.tb offs seen t) = V.int 0)) = true then 1 else 0) = 2 := pick2 hz
            refine ⟨rfl, .inr ⟨_, rfl, _, _, rfl, rfl, p, _, _, _, rfl, rfl, h1'.sq, by rw [ei]; rfl, ?_⟩⟩
            refine ⟨_, rfl, _, rfl, R, d, sl, rl, tl, ns, seen, rs, s1, qa, a, rfl, C3, ⟨xa, h3.tk K3.tk, TVs.tk K3.tk a h4⟩, ok1.1.2.1, by omega, fun H4 l' A4 hb K4 => ?_⟩
            rw [eR] at go stop
            cases hqq : (runB seen rs a s1).1 with
            | true => rw [hb hqq] at A4; exact ⟨_, rfl, iteF (go A4 hqq (K03.trans K4))⟩
            | false => exact ⟨_, rfl, iteT (stop A4 hqq (K03.trans K4))⟩
        | whl t b1 =>
          clear hTk
          obtain ⟨p, u, qb, xb, rfl, h1, h2, h3, h4⟩ := hT2
          have bd' : b1.dep + 1 ≤ n := dt.1
          refine ⟨_, rfl, _, _, _, _, rfl, rfl, (h1.tk (tkOf K2)).sq, rfl, rfl, _, rfl, iteDT rfl ?_⟩
          have hl1 := C2.ok.l
          have hb1 := C2.bd
          have eR : runT seen rs (.whl t b1) s1 = loopM (fun s => decide (s.ev seen t ≠ 0)) (fun s => runB seen rs b1 s) (s1.left.toNat + 1) s1 := by unfold runT; rfl
          refine ⟨_, rfl, _, _, _, _, rfl, rfl, SqL.of C2.A.r, rfl, _, _, rfl, rfl, _, rfl, by omega, by omega, for_range (lo := 0) (n := (s1.left + 1).toNat) (fun i2 σ H' => ∃ (s : MS) (o3 : Option V), σ = [some (.ref R), some (.ref q), some (.ref p), o3, o4, o5, o6] ∧ s.left.toNat + i2 ≤ s1.left.toNat ∧ LC H' R d sl rl tl ns seen rs s ∧ Keep [R, d, tl] H H' ∧
            loopM (fun s => decide (s.ev seen t ≠ 0)) (fun s => runB seen rs b1 s) (s1.left.toNat + 1 - i2) s = runT seen rs (.whl t b1) s1) ⟨s1, _, rfl, Nat.le_refl _, C2, K2, eR.symm⟩ ?_ ?_⟩
          · rintro i2 σ H3 hi2 ⟨s3, p3, rfl, hs3, C3, K3, e3⟩
            obtain ⟨j, hj⟩ : ∃ j, s1.left.toNat + 1 - i2 = j + 1 := ⟨s1.left.toNat - i2, by omega⟩
            rw [hj] at e3
            have g1 := h1.tk (tkOf K3)
            have g2 := h2.tk (tkOf K3)
            have hl3 := C3.ok.l
            refine ⟨_, rfl, _, _, _, _, rfl, rfl, g1.sq, rfl, _, rfl, _, _, _, _, rfl, rfl, SqL.of C3.A.r, rfl, fun od nod => ?_⟩
            have k1 : Keep [] H3 (upd H3 od (.dK [])) := Keep.new nod
            refine ⟨_, rfl, _, _, _, _, rfl, rfl, SqL.of (k1 _ _ C3.A.r (by simp)), rfl, u, d, od, sl, t, ns, [], _, offs, seen, rfl, g2.tk k1.tk, (ok1.1.1).1, (ok1.1.1).2, (C3.A.t.keep k1 (by simp)).dcI, ⟨[], upd_same, fun x hx => by cases hx⟩, k1 _ _ C3.A.sn (by simp), C3.ok.t, C3.sk, C3.sl', fun H4 K3' => ?_⟩
            have K4 := k1.trans K3'
            have C4 := C3.keep0 K4
            have K04 := K3.trans (K4.mono (by simp))
            by_cases hz : s3.ev seen t = 0
            · have e5 : loopM (fun s => decide (s.ev seen t ≠ 0)) (fun s => runB seen rs b1 s) (j + 1) s3 = (true, s3) := by
                unfold loopM
                rw [if_pos (decide_eq_false (not_not_intro hz))]
              rw [e5] at e3
              rw [← e3] at go
              exact ⟨rfl, _, rfl, iteDT (congrArg V.int hz) (go C4.A rfl K04)⟩
            · have e5 : loopM (fun s => decide (s.ev seen t ≠ 0)) (fun s => runB seen rs b1 s) (j + 1) s3 = if (runB seen rs b1 s3).1 = false then (false, (runB seen rs b1 s3).2) else if (runB seen rs b1 s3).2.left = 0 then (false, (runB seen rs b1 s3).2) else
                  loopM (fun s => decide (s.ev seen t ≠ 0)) (fun s => runB seen rs b1 s) j { (runB seen rs b1 s3).2 with left := (runB seen rs b1 s3).2.left - 1 } := by
                conv => lhs; unfold loopM
                rw [if_neg (by simpa using hz)]
              have g1' := h1.tk (tkOf K04)
              have mv3 := runB_mv (rs := rs) C1.sk b1 ok1.1.2 s3 C3.ok
              refine ⟨rfl, _, rfl, iteDF (fun z => hz (V.int.inj z)) ?_⟩
              refine ⟨_, rfl, _, rfl, _, _, _, _, rfl, rfl, g1'.sq, rfl, R, d, sl, rl, tl, ns, seen, rs, s3, qb, b1, rfl, C4, ⟨xb, h3.tk (tkOf K04), TVs.tk (tkOf K04) b1 h4⟩, ok1.1.2, by omega, fun H5 l' A5 hb K5 => ?_⟩
              have K05 := K04.trans K5
              cases hqq : (runB seen rs b1 s3).1 with
              | false =>
                rw [if_pos hqq] at e5
                rw [e5] at e3
                rw [← e3] at stop
                exact ⟨_, rfl, iteT (stop A5 rfl K05)⟩
              | true =>
                rw [if_neg (by rw [hqq]; decide)] at e5
                rw [hb hqq] at A5
                have C5 := C4.mv A5 mv3
                have hl5 := C5.ok.l
                refine ⟨_, rfl, iteF ?_⟩
                refine ⟨_, rfl, R, (runB seen rs b1 s3).2.left, _, _, _, _, rfl, A5.r, _, rfl, ?_⟩
                by_cases z5 : (runB seen rs b1 s3).2.left = 0
                · rw [if_pos z5] at e5
                  rw [e5] at e3
                  rw [← e3] at stop
                  refine iteNT (by omega) ?_
                  exact stop (A5.unit _) rfl (K05.then_at (by simp))
                · rw [if_neg z5] at e5
                  refine iteNF (by omega) ?_
                  have hml := mv3.l
                  refine ⟨_, _, rfl, ?_, ⟨(A5.unit _).st _, C5.ok.dec z5, C5.sk, C5.sl', ?_, C5.nl⟩, K05.then_at (by simp), ?_⟩
                  · show ((runB seen rs b1 s3).2.left - 1).toNat + (i2 + 1) ≤ _
                    omega
                  · have := C5.bd
                    show ((runB seen rs b1 s3).2.left - 1).toNat + (runB seen rs b1 s3).2.tk.length ≤ 90000
                    omega
                  · rw [show s1.left.toNat + 1 - (i2 + 1) = j by omega, ← e3, e5]
          · rintro σ H3 ⟨s3, p3, rfl, hs3, C3, K3, e3⟩
            omega
    · rintro σ H1 ⟨s, b, o2, o3, o4, o5, o6, rfl, C1, hT1, ok1, d1, e1, K1⟩
      rw [List.drop_length] at hT1
      cases b with
      | cons t b => obtain ⟨_, _, e2, _⟩ := hT1; cases e2
      | nil =>
        have eB : runB seen rs .nil s = (true, s) := by unfold runB; rfl
        rw [← e1, eB] at k
        exact k _ _ C1.A (fun _ => rfl) K1
theorem lrun_all {f : Addr} {fd : FuncData} (D : C8.Def K mg "_law_run" s_law_run f fd) (b : Binds K fd ["run", "block"] []) (T : Txt K mg C_Ratio C_Tape C_Thinker C_Brain C_GameError C_TooLarge T_EVENTS) (c1 : C8.Cal P w K mg base 1 "_law_unit" sp_lunit []) (c2 : C8.Cal P w K mg base 1 "_law_fall" sp_lfall []) (c3 : C8.Cal P w K mg base 13 "_law_value" (sp_lvalue K 12) []) : ∀ n, C8.Cal P w K mg base (n + 13) "_law_run" (sp_lrun K n) []
  | 0 => ok_lrun0 D b
  | n + 1 => ok_lrun D b T (lrun_all D b T c1 c2 c3 n) (calUp c1 (by omega)) (calUp c2 (by omega)) (calUp c3 (by omega))
end

/-! views that are drawn -/
def VL (H : Hp) (l : Addr) (es : List Ev) : Prop := ∃ vs, H l = some (.lst vs) ∧ Evs H vs es
theorem VL.keep {H H' : Hp} {l : Addr} {es : List Ev} {W : List Addr} (h : VL H l es) (k : Keep W H H') (t : TK H H') (w : l ∉ W) : VL H' l es := by
  obtain ⟨vs, h1, h2⟩ := h
  exact ⟨vs, k _ _ h1 w, h2.tk t⟩
theorem VL.push {H : Hp} {l t : Addr} {es : List Ev} (h : VL H l es) (e : Ev) (nt : H t = none) : ∃ vs, upd H t (.tup (evD e)) l = some (.lst vs) ∧ vs.length = es.length ∧ VL (upd (upd H t (.tup (evD e))) l (.lst (vs ++ [.ref t]))) l (es ++ [e]) := by
  obtain ⟨vs, h1, h2⟩ := h
  have k1 : Keep [] H (upd H t (.tup (evD e))) := Keep.new nt
  have h1' := k1 _ _ h1 (by simp)
  have ne : t ≠ l := (ne_of_none h1 nt).symm
  refine ⟨vs, h1', h2.len, _, upd_same, (h2.tk (k1.tk.trans (TK.lst h1'))).app (.cons (by rw [upd_ne ne]; exact upd_same) .nil)⟩
theorem VL.cat {H : Hp} {l u r : Addr} {es fs : List Ev} {vs us : List V} (h1 : Evs H vs es) (h2 : Evs H us fs) (nr : H r = none) : VL (upd H r (.lst (vs ++ us))) r (es ++ fs) := ⟨_, upd_same, (h1.app h2).tk (TK.new nr)⟩
theorem EvsOk.app {es fs : List Ev} (h : EvsOk es) (g : EvsOk fs) : EvsOk (es ++ fs) := fun e he => (List.mem_append.mp he).elim (h e) (g e)
theorem evok (w : Str) (a : Int) (b : Option Int) (hw : w ∈ evL) (a0 : 0 ≤ a) (a1 : a < 65536) (hb : ∀ c, b = some c → 0 ≤ c ∧ c < 65536) (hm : w = "move" → ∃ c, b = some c) : EvsOk [⟨w, a, b⟩] := fun e he => by
  rw [List.mem_singleton] at he
  subst he
  exact ⟨hw, a0, a1, hb, hm⟩
theorem evok2 {w : Str} {a : Int} (hw : w ∈ evL) (nm : w ≠ "move") (a0 : 0 ≤ a) (a1 : a < 65536) : EvsOk [⟨w, a, none⟩] := evok w a none hw a0 a1 (fun _ h => by cases h) (fun h => absurd h nm)
theorem evok3 {w : Str} {a b : Int} (hw : w ∈ evL) (a0 : 0 ≤ a) (a1 : a < 65536) (b0 : 0 ≤ b) (b1 : b < 65536) : EvsOk [⟨w, a, some b⟩] := evok w a (some b) hw a0 a1 (fun _ h => by cases h; exact ⟨b0, b1⟩) (fun _ => ⟨b, rfl⟩)
def sp_view : Sp := fun vs H Q _ => ∃ p q ns, vs = [.ref p] ∧ Pool H p q ns ∧ ∀ t xs es H', H t = none → H' t = some (.tup xs) → Evs H' xs es → EvsOk es → es ≠ [] → es.length ≤ 200 → Pool H' p q ns → Keep [p] H H' → Q (.ref t) H'
def sp_count : Sp := fun vs H Q _ => ∃ p q ns t xs es, vs = [.ref p, .ref t] ∧ Pool H p q ns ∧ H t = some (.tup xs) ∧ t ≠ p ∧ Evs H xs es ∧ EvsOk es ∧ es ≠ [] ∧ ∀ c H', Pool H' p q ns → Keep [p] H H' → Q (.int c) H'
def sp_results : Sp := fun vs H Q _ => ∃ p q ns m, vs = [.ref p, .int m] ∧ 0 ≤ m ∧ m ≤ 1000 ∧ Pool H p q ns ∧ ∀ l (rs : List Int) H', H l = none → H' l = some (.lst (rs.map V.int)) → rs.length ≤ m.toNat → Pool H' p q ns → Keep [p] H H' → Q (.ref l) H'
/-! a brain's cells -/
inductive RL (H : Hp) : List V → List Str → List Int → Prop
  | nil : RL H [] [] []
  | cons {p : Addr} {n : Str} {c : Int} {vs : List V} {ns : List Str} {cs : List Int} : H p = some (.tup [.str n, .int c]) → RL H vs ns cs → RL H (.ref p :: vs) (n :: ns) (c :: cs)
theorem RL.tk {H H' : Hp} (k : TK H H') {vs : List V} {ns : List Str} {cs : List Int} (h : RL H vs ns cs) : RL H' vs ns cs := by
  induction h with
  | nil => exact .nil
  | cons h _ ih => exact .cons (k _ _ h) ih
theorem RL.snoc {H : Hp} {vs : List V} {ns : List Str} {cs : List Int} {p : Addr} {n : Str} {c : Int} (h : RL H vs ns cs) (hp : H p = some (.tup [.str n, .int c])) : RL H (vs ++ [.ref p]) (ns ++ [n]) (cs ++ [c]) := by
  induction h with
  | nil => exact .cons hp .nil
  | cons h _ ih => exact .cons h ih
theorem RL.len {H : Hp} {vs : List V} {ns : List Str} {cs : List Int} (h : RL H vs ns cs) : vs.length = ns.length ∧ cs.length = ns.length := by
  induction h with
  | nil => exact ⟨rfl, rfl⟩
  | cons _ _ ih => exact ⟨by rw [List.length_cons, List.length_cons, ih.1], by rw [List.length_cons, List.length_cons, ih.2]⟩
theorem RL.get {H : Hp} {vs : List V} {ns : List Str} {cs : List Int} (h : RL H vs ns cs) : ∀ {i : Nat} {v : V}, vs[i]? = some v → ∃ p n c, v = .ref p ∧ ns[i]? = some n ∧ cs[i]? = some c ∧ H p = some (.tup [.str n, .int c]) := by
  induction h with
  | nil => intro i v h; simp at h
  | cons h _ ih =>
    intro i v hv
    cases i with
    | zero => simp at hv; subst hv; exact ⟨_, _, _, rfl, rfl, rfl, h⟩
    | succ i => simpa using ih (by simpa using hv)
structure Bd (K : PySem.W.Frag) (H : Hp) (ce bk : Addr) (an : V) (ns : List Str) (cs : List Int) (b : Bl) (e : Ex) : Prop where
  ce : ∃ xs, H ce = some (.tup xs) ∧ RL H xs ns cs
  bk : BV K H b bk
  an : EV K H an e
theorem Bd.tk {K : PySem.W.Frag} {H H' : Hp} {ce bk : Addr} {an : V} {ns : List Str} {cs : List Int} {b : Bl} {e : Ex} (h : Bd K H ce bk an ns cs b e) (k : TK H H') : Bd K H' ce bk an ns cs b e := by
  obtain ⟨xs, h1, h2⟩ := h.ce
  exact ⟨⟨xs, k _ _ h1, h2.tk k⟩, h.bk.tk k, h.an.tk k⟩
structure BdOk (ns : List Str) (b : Bl) (e : Ex) : Prop where
  nd : ns.Nodup
  nl : ns.length ≤ 8
  bo : b.Ok ns
  d : b.dep ≤ 8
  e : ExOk ns e
  sm : b.Sm
  ln : b.len ≤ 5
def sp_brain (K : PySem.W.Frag) : Sp := fun vs H Q _ => ∃ (p q : Addr) (ps : List Int) (u : Int) (lp : Bool), vs = [.ref p, .int u, .bl lp] ∧ Pool H p q ps ∧ ∀ t ce bk an ns cs b e H', H t = none → H' t = some (.tup [.int u, .ref ce, .ref bk, an]) → Bd K H' ce bk an ns cs b e → BdOk ns b e → Pool H' p q ps → Keep [p] H H' → Q (.ref t) H'
section
variable {P : Program} {w : World} {K : PySem.W.Frag} {mg : Str → Option Value} {base : Heap} {C_Ratio : Addr} {C_Tape : Addr} {C_Thinker : Addr} {C_Brain : Addr} {C_GameError : Addr} {C_TooLarge : Addr} {f_TooLarge___init : Addr} {T_EVENTS : Addr}
theorem ok_count {f : Addr} {fd : FuncData} (D : C8.Def K mg "_law_count" s_law_count f fd) (b : Binds K fd ["pool", "view"] []) (T : Txt K mg C_Ratio C_Tape C_Thinker C_Brain C_GameError C_TooLarge T_EVENTS) (c_law_draw : C8.Cal P w K mg base 1 "_law_draw" sp_law_draw []) : C8.Cal P w K mg base 2 "_law_count" sp_count [] := by
  refine cal0 D b .nil sc_law_count (fun vs H Q E h => ?_) (fun cdv A outer s H vs Q E hr h => ?_)
  · obtain ⟨p, q, ns, t, xs, es, rfl, _⟩ := h
    rfl
  · obtain ⟨p, q, ns, t, xs, es, rfl, hP, ht, ntp, hE, hok, hne, k⟩ := h
    refine ⟨_, (pss_cons (ps_set (i := 2) sc_law_count.nd rfl (by first | exact Or.inl rfl | exact Or.inr rfl) (pe_op op_add pe_int (pe_c c_law_draw hr (by first | exact Nat.le_refl _ | decide | omega) rfl (pa_cons (pv 0) (pa_cons pe_int pa_nil)))))
(pss_cons (ps_if (pt_cmpR op_eq (pe_ix ix_tup (pe_ix ix_tup (pv 1) (pe_un un_neg pe_int) (fun _ _ => rfl)) pe_int (fun _ _ => rfl)) pe_str (nomark _))
  (pss_one (ps_ret (pe_ix ix_tup (pe_ix ix_tup (pv 1) (pe_un un_neg pe_int) (fun _ _ => rfl)) pe_int (fun _ _ => rfl))))
  pss_nil)
(pss_one (ps_ret (pv 2))))), ?_⟩
    refine ⟨_, rfl, p, q, ns, 8, rfl, by decide, by decide, hP, fun r H1 _ _ P1 K1 => ⟨_, _, rfl, rfl, ?_⟩⟩
    have E1 := hE.tk (hP.tk K1)
    have ht1 := K1 _ _ ht (by simpa using ntp)
    have hlen := E1.len
    have hpos : 0 < xs.length := by rw [hlen]; exact List.length_pos_iff.mpr hne
    obtain ⟨a, e, hx, hg, ha⟩ := E1.get (i := xs.length - 1) (v := xs[xs.length - 1]'(by omega)) (List.getElem?_eq_getElem _)
    have hlast : atI xs (-1) = some (.ref a) := by
      have e1 : xs = xs.dropLast ++ [xs.getLast (by intro z; rw [z] at hpos; simp at hpos)] := (List.dropLast_concat_getLast _).symm
      rw [e1, atI_last, List.getLast_eq_getElem, hx]
    obtain ⟨hlt, hge⟩ := List.getElem?_eq_some_iff.mp hg
    have hee := hok e (hge ▸ List.getElem_mem hlt)
    have hs0 : (evD e)[0]? = some (.str e.w) := by unfold evD; split <;> rfl
    refine ⟨_, rfl, _, rfl, _, _, _, _, rfl, rfl, SqT.of ht1, hlast, _, _, _, _, rfl, rfl, SqT.of ha, atI_nat (j := 0) hs0, rfl, _, rfl, iteD (fun h => ?_) (fun h => ?_)⟩
    · obtain ⟨c, hc⟩ := hee.m (V.str.inj h)
      have hs2 : (evD e)[2]? = some (.int c) := by unfold evD; rw [hc]; rfl
      exact ⟨_, rfl, _, rfl, _, _, _, _, rfl, rfl, SqT.of ht1, hlast, _, _, _, _, rfl, rfl, SqT.of ha, atI_nat (j := 2) hs2, k c _ P1 K1⟩
    · exact ⟨_, rfl, k _ _ P1 K1⟩
end

/-! dicts that are filled name by name -/
def Fill (H : Hp) (d : Addr) (ys : List Str) (i : Nat) (f : Str → V) : Prop := ∃ kvs : List (Key × V), H d = some (.dK kvs) ∧ kvs.length = i ∧ ∀ x, valV kvs (.inr x) = if x ∈ ys.take i then some (f x) else none
theorem fill0 {H : Hp} {d : Addr} {ys : List Str} {f : Str → V} (h : H d = some (.dK [])) : Fill H d ys 0 f := ⟨[], h, rfl, fun x => by simp [valV_nil]⟩
theorem Fill.keep {H H' : Hp} {W : List Addr} {d : Addr} {ys : List Str} {i : Nat} {f : Str → V} (h : Fill H d ys i f) (k : Keep W H H') (w : d ∉ W) : Fill H' d ys i f := by
  obtain ⟨kvs, e, l, v⟩ := h
  exact ⟨kvs, k _ _ e w, l, v⟩
theorem nodup_take {ys : List Str} (h : ys.Nodup) {i : Nat} {z : Str} (e : ys.take (i + 1) = ys.take i ++ [z]) : z ∉ ys.take i := by
  have h2 : (ys.take (i + 1)).Nodup := h.sublist (List.take_sublist _ _)
  rw [e, List.nodup_append] at h2
  exact fun q => h2.2.2 z q z (by simp) rfl
theorem Fill.step {H : Hp} {d : Addr} {ys : List Str} {i : Nat} {f : Str → V} (h : Fill H d ys i f) (nd : ys.Nodup) {z : Str} (e : ys.take (i + 1) = ys.take i ++ [z]) : ∃ kvs : List (Key × V), H d = some (.dK kvs) ∧ kvs.length = i ∧
    ∀ (H' : Hp), H' d = some (.dK (putK kvs (.inr z) (f z))) → Fill H' d ys (i + 1) f := by
  obtain ⟨kvs, hd, hl, hv⟩ := h
  have hnt := nodup_take nd e
  refine ⟨kvs, hd, hl, fun H' h' => ⟨_, h', ?_, fun x => ?_⟩⟩
  · rw [putK_new _ (by rw [hv z, if_neg hnt]), List.length_append, hl]; rfl
  · rw [valV_put]
    by_cases q : x = z
    · subst q
      rw [if_pos rfl, if_pos (by rw [e]; simp)]
    · rw [if_neg (fun w => q (Sum.inr.inj w)), hv x, e]
      by_cases e2 : x ∈ ys.take i
      · rw [if_pos e2, if_pos (List.mem_append_left _ e2)]
      · rw [if_neg e2, if_neg (by rw [List.mem_append, List.mem_singleton]; rintro (w | w) <;> contradiction)]
theorem Fill.full {H : Hp} {d : Addr} {ys : List Str} {n : Nat} {f : Str → V} (h : Fill H d ys n f) (e : n = ys.length) : Full H d ys f := by
  subst e
  obtain ⟨kvs, a, b, c⟩ := h
  exact ⟨kvs, a, b, fun x => by rw [c x, List.take_length]⟩
theorem Full.get {H : Hp} {d : Addr} {ys : List Str} {f : Str → V} (h : Full H d ys f) {x : Str} (hx : x ∈ ys) : DGet H d (.str x) (some (f x)) := by
  obtain ⟨kvs, e, _, v⟩ := h
  have := v x
  rw [if_pos hx] at this
  rw [← this]
  exact DGet.k (k := .inr x) e
def tbOf : List Str → List Int → Str → Int
  | n :: ns, c :: cs, y => if y = n then c else tbOf ns cs y
  | _, _, _ => 0
theorem tbOf_at : ∀ {ns : List Str} {cs : List Int}, ns.Nodup → ∀ {i : Nat} {n : Str} {c : Int}, ns[i]? = some n → cs[i]? = some c → tbOf ns cs n = c
  | [], _, _, i, n, c, h, _ => by simp at h
  | _ :: _, [], _, i, n, c, _, h => by simp at h
  | a :: ns, b :: cs, nd, 0, n, c, h1, h2 => by
    simp at h1 h2
    subst h1 h2
    show (if a = a then b else _) = b
    rw [if_pos rfl]
  | a :: ns, b :: cs, nd, i + 1, n, c, h1, h2 => by
    have hm : n ∈ ns := List.mem_of_getElem? (by simpa using h1)
    have hne : n ≠ a := fun z => (List.nodup_cons.mp nd).1 (z ▸ hm)
    show (if n = a then b else tbOf ns cs n) = c
    rw [if_neg hne]
    exact tbOf_at (List.nodup_cons.mp nd).2 (by simpa using h1) (by simpa using h2)
def CsOk (cs : List Int) : Prop := ∀ c ∈ cs, 0 ≤ c ∧ c < 65536
theorem tbOf_ok : ∀ {ns : List Str} {cs : List Int}, CsOk cs → ∀ y, 0 ≤ tbOf ns cs y ∧ tbOf ns cs y < 65536
  | [], _, _, y => by unfold tbOf; exact ⟨by decide, by decide⟩
  | _ :: _, [], _, y => by unfold tbOf; exact ⟨by decide, by decide⟩
  | a :: ns, b :: cs, h, y => by
    unfold tbOf
    split
    · exact h b (List.mem_cons_self ..)
    · exact tbOf_ok (fun c hc => h c (List.mem_cons_of_mem _ hc)) y
/-! brains, thinkers -/
def BrA (C : Addr) (H : Hp) (B : Addr) (u : Int) (ce bk : Addr) (an : V) : Prop := ∃ dx, H B = some (.ins C dx [("units", .int u), ("cells", .ref ce), ("block", .ref bk), ("answer", an)])
def sp_brinit (K : PySem.W.Frag) (C : Addr) : Sp := fun vs H Q _ => ∃ (x dx : Addr) (u : Int) (ce bk : Addr) (an : V) (xs ys : List V), vs = [.ref x, .int u, .ref ce, .ref bk, an] ∧ H x = some (.ins C dx []) ∧ H ce = some (.tup xs) ∧ At K H bk ys ∧ ∀ H', Keep [x] H H' → BrA C H' x u ce bk an → Q .non H'
def sp_thinit (K : PySem.W.Frag) (C CB : Addr) : Sp := fun vs H Q _ => ∃ (x dx B : Addr) (u : Int) (ce bk ca : Addr) (an st tp : V) (xs : List V) (ns : List Str) (ks cs : List Int), vs = [.ref x, .ref B, .ref ca, st, tp] ∧ H x = some (.ins C dx []) ∧ BrA CB H B u ce bk an ∧ B ≠ x ∧
  H ce = some (.tup xs) ∧ RL H xs ns ks ∧ H ca = some (.tup (cs.map V.int)) ∧ cs.length = ns.length ∧ ns.Nodup ∧ ns.length ≤ 1000 ∧
  ∀ d H', H d = none → Keep [x] H H' → H' x = some (.ins C dx [("table", .ref d), ("left", .int u), ("seen", st), ("tape", tp)]) → Full H' d ns (fun y => .int (tbOf ns cs y)) → Q .non H'
section
variable {P : Program} {w : World} {K : PySem.W.Frag} {mg : Str → Option Value} {base : Heap} {C_Ratio : Addr} {C_Tape : Addr} {C_Thinker : Addr} {C_Brain : Addr} {C_GameError : Addr} {C_TooLarge : Addr} {f_TooLarge___init : Addr} {T_EVENTS : Addr}
theorem ok_brain {f : Addr} {fd : FuncData} (D : C8.Def K mg "_law_brain" s_law_brain f fd) (b : Binds K fd ["pool", "units", "loops"] []) (T : Txt K mg C_Ratio C_Tape C_Thinker C_Brain C_GameError C_TooLarge T_EVENTS) (c_law_names : C8.Cal P w K mg base 4 "_law_names" sp_law_names []) (c_law_number : C8.Cal P w K mg base 2 "_law_number" sp_law_number [])
    (c_law_thoughts : C8.Cal P w K mg base 33 "_law_thoughts" (sp_thoughts K 9) []) (c_law_expression : C8.Cal P w K mg base 15 "_law_expression" (sp_expr K 12) []) : C8.Cal P w K mg base 34 "_law_brain" (sp_brain K) [] := by
  refine cal0 D b .nil sc_law_brain (fun vs H Q E h => ?_) (fun cdv A outer s H vs Q E hr h => ?_)
  · obtain ⟨p, q, ps, u, lp, rfl, _⟩ := h
    rfl
  · obtain ⟨p, q, ps, u, lp, rfl, hP, k⟩ := h
    refine ⟨_, (pss_cons (ps_set (i := 3) sc_law_brain.nd rfl (by first | exact Or.inl rfl | exact Or.inr rfl) (pe_c c_law_names hr (by first | exact Nat.le_refl _ | decide | omega) rfl (pa_cons (pv 0) (pa_cons pe_int pa_nil))))
(pss_cons (ps_set (i := 4) sc_law_brain.nd rfl (by first | exact Or.inl rfl | exact Or.inr rfl) (pe_callTy call_tuple_of (by rfl) T.n_tuple bo_tuple (pa_cons (pe_lc (own := [("name", 6)]) (g := gName 6) (tt := tYes) rfl sc_law_brain.nd (pi_list (pv 3)) (blkOk_by (N := ["pool", "units", "loops", "names", "cells", "block", "name"]) (sc := fnScope s_law_brain) (by decide +kernel)) (fun _ _ _ _ _ => pg_name (i := 6) sc_law_brain.nd rfl (Or.inl rfl)) (fun _ _ _ _ _ => pts_nil) (fun _ _ _ _ _ => (pe_tup (pa_cons (pv 6) (pa_cons (pe_c c_law_number hr (by first | exact Nat.le_refl _ | decide | omega) rfl (pa_cons (pv 0) pa_nil)) pa_nil))))) pa_nil)))
(pss_cons (ps_set (i := 5) sc_law_brain.nd rfl (by first | exact Or.inl rfl | exact Or.inr rfl) (pe_c c_law_thoughts hr (by first | exact Nat.le_refl _ | decide | omega) rfl (pa_cons (pv 0) (pa_cons (pv 3) (pa_cons pe_int (pa_cons (pv 2) pa_nil))))))
(pss_one (ps_ret (pe_tup (pa_cons (pv 1) (pa_cons (pv 4) (pa_cons (pv 5) (pa_cons (pe_c c_law_expression hr (by first | exact Nat.le_refl _ | decide | omega) rfl (pa_cons (pv 0) (pa_cons (pv 3) (pa_cons pe_int pa_nil)))) pa_nil)))))))))), ?_⟩
    refine ⟨_, rfl, p, q, ps, 8, rfl, by decide, by decide, hP, fun l ys H1 nl hl hlen nd nok hle P1 K1 => ?_⟩
    have hlen : ys.length ≤ 8 := hlen
    have nlp := hP.nep nl
    refine ⟨_, rfl, l, rfl, ⟨_, SqL.of hl⟩, fun L hL => ?_⟩
    have hL0 := P1.free K1 hL
    have nLp := hP.nep hL0
    have nLq := hP.neq hL0
    refine lc_list (K := K) (a := l) (xs := ys.map V.str) (fun i H2 => ∃ (vs : List V) (cs : List Int), H2 L = some (.lst vs) ∧ RL H2 vs (ys.take i) cs ∧ Pool H2 p q ps ∧ Keep [p] H H2 ∧ H2 l = some (.lst (ys.map V.str)))
      ⟨[], [], upd_same, .nil, P1.new hL, K1.then_new hL, by rw [upd_ne (ne_of_none hl hL)]; exact hl⟩ (fun i H2 _ ⟨_, _, _, _, _, _, h⟩ => SqL.of h) ?_ ?_
    · rintro i v H2 hi2 ⟨vs, cs, hD, hR, P2, K2, hl2⟩
      obtain ⟨z, hz, rfl⟩ := strs_get hi2
      obtain ⟨hlt, he⟩ := List.getElem?_eq_some_iff.mp hz
      refine ⟨rfl, yes_then ⟨_, rfl, _, rfl, p, q, ps, rfl, P2, fun r H3 r0 r1 P3 K3 => And.intro (by show 2 ≤ sizeLine; decide) <| fun t nt => ?_⟩⟩
      have hD3 := K3 _ _ hD (by simpa using nLp)
      have kt : Keep [] H3 (upd H3 t (.tup [.str z, .int r])) := Keep.new nt
      have hD4 := kt _ _ hD3 (by simp)
      have hln := hR.len
      rw [List.length_take] at hln
      have ntL : t ≠ L := (ne_of_none hD3 nt).symm
      have tkk : TK H2 (upd (upd H3 t (.tup [.str z, .int r])) L (.lst (vs ++ [.ref t]))) := (P2.tk K3).trans (kt.tk.trans (TK.lst hD4))
      refine ⟨_, hD4, smallL (by omega), vs ++ [.ref t], cs ++ [r], upd_same, ?_, (P3.new nt).own nLp nLq, ((K2.trans K3).then_new nt).then_own hL0, ?_⟩
      · rw [List.take_succ_eq_append_getElem hlt, he]
        exact (hR.tk tkk).snoc (by rw [upd_ne ntL]; exact upd_same)
      · rw [upd_ne (ne_of_none hl hL)]
        exact kt _ _ (K3 _ _ hl2 (by simpa using nlp)) (by simp)
    · rintro H2 ⟨vs, cs, hD, hR, P2, K2, hl2⟩
      rw [List.length_map, ← List.length_map (f := V.str), List.length_map, List.take_length] at hR
      refine ⟨_, _, rfl, .inl ⟨SqL.of hD, fun t nt => ?_⟩⟩
      have k3 : Keep [] H2 (upd H2 t (.tup vs)) := Keep.new nt
      have K3 := K2.trans (k3.mono (by simp))
      refine ⟨_, rfl, _, rfl, _, rfl, p, q, l, ps, ys, 8, lp, rfl, by decide, by decide, P2.new nt, k3 _ _ hl2 (by simp), nlp, by omega, fun r bl H4 B4 o4 d4 l4 P4 K4 => ?_⟩
      have K04 := K3.trans K4
      have hl4 := K4 _ _ (k3 _ _ hl2 (by simp)) (by simpa using nlp)
      refine ⟨_, rfl, _, rfl, _, rfl, _, rfl, _, rfl, p, q, l, ps, ys, 12, rfl, by decide, by decide, P4, hl4, nlp, by omega, fun an e H5 E5 o5 d5 P5 K5 => And.intro (by show 4 ≤ sizeLine; decide) <| fun z nz => ?_⟩
      have tk45 := P4.tk K5
      have tk24 : TK H2 H4 := k3.tk.trans ((P2.new nt).tk K4)
      have ct4 : H4 t = some (.tup vs) := (P2.new nt).tk K4 _ _ upd_same
      have tkz : TK H5 (upd H5 z (.tup [.int u, .ref t, .ref r, an])) := TK.new nz
      exact k z t r an ys cs bl e _ (P5.free (K04.trans K5) nz) upd_same ⟨⟨vs, tkz _ _ (tk45 _ _ ct4), ((hR.tk tk24).tk tk45).tk tkz⟩, (B4.tk tk45).tk tkz, E5.tk tkz⟩ ⟨nd, hlen, o4.1, d4, ⟨o5, d5⟩, o4.2, l4⟩ (P5.new nz) ((K04.trans K5).then_new nz)
theorem ok_brinit {f : Addr} {fd : FuncData} (M : Mk K C_Brain f) (F : C8.Fun K "__init__" "Brain.__init__" s_Brain___init f fd) (b : Binds K fd ["self", "units", "cells", "block", "answer"] []) (T : Txt K mg C_Ratio C_Tape C_Thinker C_Brain C_GameError C_TooLarge T_EVENTS) : C8.Mak P w K mg base 1 "Brain" C_Brain (sp_brinit K C_Brain) [] := by
  refine mak0 M T.m_Brain F b .nil sc_Brain___init (fun vs H Q E h => ?_) (fun cdv A outer s H vs Q E hr h => ?_)
  · obtain ⟨x, dx, u, ce, bk, an, xs, ys, rfl, _⟩ := h
    rfl
  · obtain ⟨x, dx, u, ce, bk, an, xs, ys, rfl, hx, hce, hbk, k⟩ := h
    refine ⟨_, (pss_cons (ps_fld (pv 0) (pv 1) rfl)
(pss_cons (ps_fld (pv 0) (pe_callTy call_tuple_of (by rfl) T.n_tuple bo_tuple (pa_cons (pv 2) pa_nil)) rfl)
(pss_cons (ps_fld (pv 0) (pe_callTy call_tuple_of (by rfl) T.n_tuple bo_tuple (pa_cons (pv 3) pa_nil)) rfl)
(pss_one (ps_fld (pv 0) (pv 4) rfl))))), ?_⟩
    have mx : x ∈ [x] := List.mem_singleton.mpr rfl
    have tku : ∀ {H1 : Hp} {fs gs : List (Str × V)}, H1 x = some (.ins C_Brain dx fs) → TK H1 (upd H1 x (.ins C_Brain dx gs)) := fun h b zs q => by rw [upd_ne (ne_of q h (by intro z; cases z))]; exact q
    refine ⟨_, rfl, _, rfl, x, C_Brain, dx, [], rfl, hx, T.cl_Brain, T.a_Brain_units, by show 0 < 1000; decide, ?_⟩
    have t1 := tku (gs := [("units", V.int u)]) hx
    refine ⟨_, rfl, _, _, rfl, .inr ⟨(SqT.of (t1 _ _ hce)), _, rfl, x, C_Brain, dx, _, rfl, upd_same, T.cl_Brain, T.a_Brain_cells, by show 1 < 1000; decide, ?_⟩⟩
    have t2 : TK H (upd (upd H x (.ins C_Brain dx [("units", .int u)])) x (.ins C_Brain dx [("units", .int u), ("cells", .ref ce)])) := t1.trans (tku upd_same)
    refine ⟨_, rfl, _, _, rfl, .inr ⟨(hbk.tk t2).sq, _, rfl, x, C_Brain, dx, _, rfl, upd_same, T.cl_Brain, T.a_Brain_block, by show 2 < 1000; decide, ?_⟩⟩
    refine ⟨_, rfl, _, rfl, x, C_Brain, dx, _, rfl, upd_same, T.cl_Brain, T.a_Brain_answer, by show 3 < 1000; decide, ?_⟩
    exact k _ ((((Keep.at_ mx).then_at mx).then_at mx).then_at mx) ⟨dx, upd_same⟩
theorem ok_thinit {f : Addr} {fd : FuncData} (M : Mk K C_Thinker f) (F : C8.Fun K "__init__" "Thinker.__init__" s_Thinker___init f fd) (b : Binds K fd ["self", "brain", "cells", "seen", "tape"] []) (T : Txt K mg C_Ratio C_Tape C_Thinker C_Brain C_GameError C_TooLarge T_EVENTS) : C8.Mak P w K mg base 1 "Thinker" C_Thinker (sp_thinit K C_Thinker C_Brain) [] := by
  refine mak0 M T.m_Thinker F b .nil sc_Thinker___init (fun vs H Q E h => ?_) (fun cdv A outer s H vs Q E hr h => ?_)
  · obtain ⟨x, dx, B, u, ce, bk, ca, an, st, tp, xs, ns, ks, cs, rfl, _⟩ := h
    rfl
  · obtain ⟨x, dx, B, u, ce, bk, ca, an, st, tp, xs, ns, ks, cs, rfl, hx, ⟨dB, oB⟩, nBx, hce, hR, hca, hcl, nd, hnl, k⟩ := h
    have hu := hu_of hr
    refine ⟨_, (pss_cons (ps_fld (pv 0) pe_dnewK rfl)
(pss_cons (ps_for PassesOwn.never rfl (RZ.pi_zipA (by rfl) T.n_zip (pa_cons (pe_fld (pv 1) rfl) (pa_cons (pv 2) pa_nil))) (pg_tup (by rfl) (pgs_cons (pg_name (i := 5) sc_Thinker___init.nd rfl (by first | exact Or.inl rfl | exact Or.inr rfl)) (pgs_cons (pg_name (i := 6) sc_Thinker___init.nd rfl (by first | exact Or.inl rfl | exact Or.inr rfl)) pgs_nil)))
  (pss_one (ps_dput hu (pe_fld (pv 0) rfl) (pe_ix ix_tup (pv 5) pe_int (fun _ _ => rfl)) (pv 6) (by rfl))))
(pss_cons (ps_fld (pv 0) (pe_fld (pv 1) rfl) rfl)
(pss_cons (ps_fld (pv 0) (pv 3) rfl)
(pss_one (ps_fld (pv 0) (pv 4) rfl)))))), ?_⟩
    have mx : x ∈ [x] := List.mem_singleton.mpr rfl
    refine fun d nd0 => ⟨_, rfl, x, C_Thinker, dx, [], rfl, by rw [upd_ne (ne_of_none hx nd0)]; exact hx, T.cl_Thinker, T.a_Thinker_table, by show 0 < 1000; decide, ?_⟩
    have exd : x ≠ d := ne_of_none hx nd0
    have k0 : Keep [x] H (upd (upd H d (.dK [])) x (.ins C_Thinker dx [("table", .ref d)])) := (Keep.new nd0).then_at mx
    have ncx : ce ≠ x := ne_of hce hx (by intro z; cases z)
    have nax : ca ≠ x := ne_of hca hx (by intro z; cases z)
    have hrl := hR.len
    have cok : ∀ {H1 : Hp}, Keep [x, d] H H1 → SqT K H1 ce xs ∧ SqT K H1 ca (cs.map V.int) := fun k1 =>
      ⟨SqT.of (k1 _ _ hce (by simp [ncx, ne_of_none hce nd0])), SqT.of (k1 _ _ hca (by simp [nax, ne_of_none hca nd0]))⟩
    have k0' : Keep [x, d] H (upd (upd H d (.dK [])) x (.ins C_Thinker dx [("table", .ref d)])) := k0.mono (by simp)
    have oB1 := k0 _ _ oB (by simpa using nBx)
    refine ⟨_, rfl, B, C_Brain, dB, _, _, rfl, oB1, T.cl_Brain, T.a_Brain_cells, rfl, _, rfl, ce, ca, xs, cs.map V.int, rfl, .inr ⟨(cok k0').1, (cok k0').2, ?_⟩⟩
    refine RZ.for_zipT (K := K) (by rw [List.length_map]; omega) (fun i σ H' => (∃ o5 o6 : Option V, σ = [some (.ref x), some (.ref B), some (.ref ca), some st, some tp, o5, o6]) ∧ Fill H' d ns i (fun y => .int (tbOf ns cs y)) ∧ Keep [x, d] H H' ∧ H' x = some (.ins C_Thinker dx [("table", .ref d)]))
      ⟨⟨none, none, rfl⟩, fill0 (by rw [upd_ne exd.symm]; exact upd_same), k0', upd_same⟩ (fun i σ H' ⟨_, _, k1, _⟩ => cok k1) ?_ ?_
    · rintro i v z Tt σ H1 hv hz ⟨⟨o5, o6, rfl⟩, hF, K1, ox⟩ nT
      obtain ⟨p, n, c0, rfl, hn, _, hp⟩ := hR.get hv
      obtain ⟨c, hc, rfl⟩ := ints_get hz
      obtain ⟨hlt, he⟩ := List.getElem?_eq_some_iff.mp hn
      have kT : Keep [] H1 (upd H1 Tt (.tup [.ref p, .int c])) := Keep.new nT
      have hp1 := kT _ _ (K1 _ _ hp (by simp [ne_of hp hx (by intro z; cases z), ne_of_none hp nd0])) (by simp)
      have et : ns.take (i + 1) = ns.take i ++ [n] := by rw [List.take_succ_eq_append_getElem hlt, he]
      obtain ⟨kvs, g1, g2, g3⟩ := (hF.keep kT (by simp)).step nd et
      have hval : tbOf ns cs n = c := tbOf_at nd hn hc
      have ox1 := kT _ _ ox (by simp)
      refine ⟨Tt, _, rfl, SqT.of upd_same, rfl, _, _, rfl, _, _, rfl, rfl, ?_⟩
      refine ⟨_, rfl, _, rfl, x, C_Thinker, dx, _, _, rfl, ox1, T.cl_Thinker, T.a_Thinker_table, rfl, _, rfl, _, _, _, _, rfl, rfl, SqT.of hp1, rfl, d, _, rfl, DPut.k (k := .inr n) g1 (smallL (by rw [g2]; omega)), ?_⟩
      refine ⟨⟨_, _, rfl⟩, g3 _ (by rw [hval]; exact upd_same), ((K1.trans (kT.mono (by simp))).then_at (by simp)), by rw [upd_ne exd]; exact ox1⟩
    · rintro σ H1 ⟨⟨o5, o6, rfl⟩, hF, K1, ox⟩
      have hFull := hF.full hrl.1
      have oB2 := K1 _ _ oB (by simp [nBx, ne_of_none oB nd0])
      refine ⟨_, rfl, B, C_Brain, dB, _, _, rfl, oB2, T.cl_Brain, T.a_Brain_units, rfl, _, rfl, x, C_Thinker, dx, _, rfl, ox, T.cl_Thinker, T.a_Thinker_left, by show 1 < 1000; decide, ?_⟩
      refine ⟨_, rfl, _, rfl, x, C_Thinker, dx, _, rfl, upd_same, T.cl_Thinker, T.a_Thinker_seen, by show 2 < 1000; decide, ?_⟩
      refine ⟨_, rfl, _, rfl, x, C_Thinker, dx, _, rfl, upd_same, T.cl_Thinker, T.a_Thinker_tape, by show 3 < 1000; decide, ?_⟩
      have kk : Keep [x, d] H _ := ((K1.then_at (o := .ins C_Thinker dx [("table", .ref d), ("left", .int u)]) (by simp : x ∈ [x, d])).then_at (o := .ins C_Thinker dx [("table", .ref d), ("left", .int u), ("seen", st)]) (by simp : x ∈ [x, d])).then_at (o := .ins C_Thinker dx [("table", .ref d), ("left", .int u), ("seen", st), ("tape", tp)]) (by simp : x ∈ [x, d])
      refine k d _ nd0 (fun a o h w => kk a o h (by simp at w; simp [w, ne_of_none h nd0])) upd_same ?_
      obtain ⟨kvs, a, b, c⟩ := hFull
      exact ⟨kvs, by rw [upd_ne exd.symm, upd_ne exd.symm, upd_ne exd.symm]; exact a, b, c⟩
end

def thk (ns : List Str) (cs : List Int) (b : Bl) (e : Ex) (count : Int) (seen rs : List Int) (u : Int) (tk : List (Int × Int)) : Int × List Int × List (Int × Int) :=
  if (runB seen rs b ⟨u, tbOf ns cs, tk⟩).1 = false then (0, cs, (runB seen rs b ⟨u, tbOf ns cs, tk⟩).2.tk)
  else (if (runB seen rs b ⟨u, tbOf ns cs, tk⟩).2.ev seen e ≥ count then 0 else (runB seen rs b ⟨u, tbOf ns cs, tk⟩).2.ev seen e, ns.map (runB seen rs b ⟨u, tbOf ns cs, tk⟩).2.tb, (runB seen rs b ⟨u, tbOf ns cs, tk⟩).2.tk)
/-- what both thinkings are told -/
structure ThIn (K : PySem.W.Frag) (H : Hp) (ce bk ca vw : Addr) (an : V) (ns : List Str) (ks cs : List Int) (b : Bl) (e : Ex) (xs : List V) (es : List Ev) (u : Int) : Prop where
  bd : Bd K H ce bk an ns ks b e
  bo : BdOk ns b e
  u0 : 0 ≤ u
  u1 : u ≤ 65535
  co : CsOk cs
  cl : cs.length = ns.length
  ca : H ca = some (.tup (cs.map V.int))
  vw : H vw = some (.tup xs)
  ev : Evs H xs es
  eo : EvsOk es
  el : es.length ≤ 10000
theorem ThIn.tk {K : PySem.W.Frag} {H H' : Hp} {ce bk ca vw : Addr} {an : V} {ns : List Str} {ks cs : List Int} {b : Bl} {e : Ex} {xs : List V} {es : List Ev} {u : Int} (h : ThIn K H ce bk ca vw an ns ks cs b e xs es u) (k : TK H H') : ThIn K H' ce bk ca vw an ns ks cs b e xs es u :=
  ⟨h.bd.tk k, h.bo, h.u0, h.u1, h.co, h.cl, k _ _ h.ca, k _ _ h.vw, h.ev.tk k, h.eo, h.el⟩
theorem ThIn.mok {K : PySem.W.Frag} {H : Hp} {ce bk ca vw : Addr} {an : V} {ns : List Str} {ks cs : List Int} {b : Bl} {e : Ex} {xs : List V} {es : List Ev} {u : Int} (h : ThIn K H ce bk ca vw an ns ks cs b e xs es u) (tk : List (Int × Int)) : MOk ns ⟨u, tbOf ns cs, tk⟩ := ⟨h.u0, fun y _ => tbOf_ok h.co y⟩
theorem ThIn.sl {K : PySem.W.Frag} {H : Hp} {ce bk ca vw : Addr} {an : V} {ns : List Str} {ks cs : List Int} {b : Bl} {e : Ex} {xs : List V} {es : List Ev} {u : Int} (h : ThIn K H ce bk ca vw an ns ks cs b e xs es u) : (nums es).length ≤ 60000 := by
  rw [nums_len]; have := h.el; omega
def sp_think (K : PySem.W.Frag) (CB CT : Addr) : Sp := fun vs H Q _ => ∃ B ce bk ca vw tp rx tx an ns ks cs b e xs es u count rs tk, vs = [.ref B, .ref ca, .ref vw, .int count, .ref tp] ∧ BrA CB H B u ce bk an ∧ ThIn K H ce bk ca vw an ns ks cs b e xs es u ∧ TapeAt CT H tp rx tx rs tk ∧ tk.length ≤ 1000 ∧
  ∀ t ct H', H t = none → H' t = some (.tup [.int (thk ns cs b e count (nums es) rs u tk).1, .ref ct]) → H' ct = some (.tup ((thk ns cs b e count (nums es) rs u tk).2.1.map V.int)) → TapeAt CT H' tp rx tx rs (thk ns cs b e count (nums es) rs u tk).2.2 → Keep [tx] H H' → Q (.ref t) H'
def sp_lthink (K : PySem.W.Frag) : Sp := fun vs H Q _ => ∃ br ce bk ca vw rl tl an ns ks cs b e xs es u count rs, vs = [.ref br, .ref ca, .ref vw, .int count, .ref rl, .ref tl] ∧ H br = some (.tup [.int u, .ref ce, .ref bk, an]) ∧ ThIn K H ce bk ca vw an ns ks cs b e xs es u ∧ H rl = some (.lst (rs.map V.int)) ∧ H tl = some (.lst []) ∧ tl ≠ rl ∧
  ∀ t ct z H', H t = none → H' t = some (.tup [.int (thk ns cs b e count (nums es) rs u []).1, .ref ct, .int z]) → H' ct = some (.tup ((thk ns cs b e count (nums es) rs u []).2.1.map V.int)) → (∃ ys, H' tl = some (.lst ys) ∧ PL H' ys (thk ns cs b e count (nums es) rs u []).2.2) → Keep [tl] H H' → Q (.ref t) H'
section
variable {P : Program} {w : World} {K : PySem.W.Frag} {mg : Str → Option Value} {base : Heap} {C_Ratio : Addr} {C_Tape : Addr} {C_Thinker : Addr} {C_Brain : Addr} {C_GameError : Addr} {C_TooLarge : Addr} {f_TooLarge___init : Addr} {T_EVENTS : Addr}
theorem ok_think {f : Addr} {fd : FuncData} (D : C8.Def K mg "think" s_think f fd) (b : Binds K fd ["brain", "cells", "view", "count", "tape"] []) (T : Txt K mg C_Ratio C_Tape C_Thinker C_Brain C_GameError C_TooLarge T_EVENTS) (c_view_numbers : C8.Cal P w K mg base 1 "view_numbers" sp_views []) (c_Thinker : C8.Mak P w K mg base 1 "Thinker" C_Thinker (sp_thinit K C_Thinker C_Brain) [])
    (c_Thinker_run : C8.Met P w K mg base 41 C_Thinker "run" (sp_trun K C_Thinker C_Tape 9) []) (c_Thinker_value : C8.Met P w K mg base 14 C_Thinker "value" (sp_tval K C_Thinker C_Tape) []) : C8.Cal P w K mg base 42 "think" (sp_think K C_Brain C_Tape) [] := by
  refine cal0 D b .nil sc_think (fun vs H Q E h => ?_) (fun cdv A outer s H vs Q E hr h => ?_)
  · obtain ⟨B, ce, bk, ca, vw, tp, rx, tx, an, ns, ks, cs, b, e, xs, es, u, count, rs, tk, rfl, _⟩ := h
    rfl
  · obtain ⟨B, ce, bk, ca, vw, tp, rx, tx, an, ns, ks, cs, b, e, xs, es, u, count, rs, tk, rfl, ⟨dB, oB⟩, hI, hTp, htk, k⟩ := h
    have hu := hu_of hr
    refine ⟨_, (pss_cons (ps_set (i := 5) sc_think.nd rfl (by first | exact Or.inl rfl | exact Or.inr rfl) (pe_mk c_Thinker hr (by first | exact Nat.le_refl _ | decide | omega) rfl (pa_cons (pv 0) (pa_cons (pv 1) (pa_cons (pe_c c_view_numbers hr (by first | exact Nat.le_refl _ | decide | omega) rfl (pa_cons (pv 2) pa_nil)) (pa_cons (pv 4) pa_nil))))))
(pss_cons (ps_if (pt_not (pt_truth (pe_mt c_Thinker_run hr (by first | exact Nat.le_refl _ | decide | omega) (pv 5) (pa_cons (pe_fld (pv 0) rfl) pa_nil)) (by intro _; rfl)))
  (pss_one (ps_ret (pe_tup (pa_cons pe_int (pa_cons (pe_callTy call_tuple_of (by rfl) T.n_tuple bo_tuple (pa_cons (pv 1) pa_nil)) pa_nil)))))
  pss_nil)
(pss_cons (ps_set (i := 6) sc_think.nd rfl (by first | exact Or.inl rfl | exact Or.inr rfl) (pe_mt c_Thinker_value hr (by first | exact Nat.le_refl _ | decide | omega) (pv 5) (pa_cons (pe_fld (pv 0) rfl) pa_nil)))
(pss_cons (ps_if (pt_cmpR op_ge (pv 6) (pv 3) (nomark _))
  (pss_one (ps_set (i := 6) sc_think.nd rfl (by first | exact Or.inl rfl | exact Or.inr rfl) pe_int))
  pss_nil)
(pss_one (ps_ret (pe_tup (pa_cons (pv 6) (pa_cons (pe_callTy call_tuple_of (by rfl) T.n_tuple bo_tuple (pa_cons (pe_lc (own := [("row", 7)]) (g := gName 7) (tt := tYes) rfl sc_think.nd (pi_tup (pe_fld (pv 0) rfl)) (blkOk_by (N := ["brain", "cells", "view", "count", "tape", "thinker", "answer", "row"]) (sc := fnScope s_think) (by decide +kernel)) (fun _ _ _ _ _ => pg_name (i := 7) sc_think.nd rfl (Or.inl rfl)) (fun _ _ _ _ _ => pts_nil) (fun _ _ _ _ _ => (pe_dget hu (pe_fldK (K := K) (pv 5) rfl) (pe_ix (ix_tupK (K := K)) (pv 7) pe_int (fun _ _ => rfl)) (fun _ _ => rfl)))) pa_nil)) pa_nil))))))))), ?_⟩
    refine ⟨_, rfl, _, rfl, _, rfl, vw, xs, es, rfl, hI.vw, hI.ev, hI.eo, hI.el, fun st H1 nst hst K1 => ⟨_, rfl, fun x dx nx nd ne => ?_⟩⟩
    have km : Keep [] H1 (upd (upd H1 dx (.own x)) x (.ins C_Thinker dx [])) := Keep.made nx nd
    have I1 := (hI.tk K1.tk).tk km.tk
    obtain ⟨ys, hce, hR⟩ := I1.bd.ce
    have oB1 := km _ _ (K1 _ _ oB (by simp)) (by simp)
    have nBx : B ≠ x := ne_of_none (K1 _ _ oB (by simp)) nx
    refine ⟨x, dx, B, u, ce, bk, ca, an, .ref st, .ref tp, ys, ns, ks, cs, rfl, upd_same, ⟨dB, oB1⟩, nBx, hce, hR, I1.ca, I1.cl, I1.bo.nd, by have := I1.bo.nl; omega, fun d H2 ndd K2 ox2 hF2 => ⟨rfl, ?_⟩⟩
    have nx0 : H x = none := K1.free nx
    have T1 := hTp.keep K1 K1.tk (by simp) (by simp) (by simp)
    have Tm := T1.keep km km.tk (by simp) (by simp) (by simp)
    obtain ⟨dt, ot⟩ := T1.o
    obtain ⟨zs, t1, t2⟩ := T1.t
    have ntp : tp ≠ x := ne_of_none ot nx
    have nrx : rx ≠ x := ne_of_none T1.r nx
    have ntx : tx ≠ x := ne_of_none t1 nx
    have tk2 : TK (upd (upd H1 dx (.own x)) x (.ins C_Thinker dx [])) H2 := fun a ws q => K2 _ _ q (by
      have : a ≠ x := ne_of q upd_same (by intro z; cases z)
      simpa using this)
    have I2 := I1.tk tk2
    have T2 := Tm.keep K2 tk2 (by simpa using ntp) (by simpa using nrx) (by simpa using ntx)
    have oB2 := K2 _ _ oB1 (by simpa using nBx)
    have hst2 := tk2 _ _ (km.tk _ _ hst)
    have A2 : ThAt C_Thinker C_Tape H2 x d st tp rx tx ns (nums es) rs ⟨u, tbOf ns cs, tk⟩ := ⟨⟨dx, ox2⟩, hF2, hst2, T2, ntp.symm⟩
    have C2 : TC C_Thinker C_Tape H2 x d st tp rx tx ns (nums es) rs ⟨u, tbOf ns cs, tk⟩ := ⟨A2, I2.mok tk, nums_ok I2.eo, I2.sl, by (have := I2.u1; show u.toNat + tk.length ≤ 90000; omega), by have := I2.bo.nl; omega⟩
    have mv := runB_mv (rs := rs) C2.sk b I2.bo.bo _ C2.ok
    have K02 : Keep [x] H H2 := (K1.trans km).mono (by simp) |>.trans K2
    have nd0 : H d = none := (K1.trans km).free ndd
    have e0 : thk ns cs b e count (nums es) rs u tk = if (runB (nums es) rs b ⟨u, tbOf ns cs, tk⟩).1 = false then (0, cs, (runB (nums es) rs b ⟨u, tbOf ns cs, tk⟩).2.tk) else (if (runB (nums es) rs b ⟨u, tbOf ns cs, tk⟩).2.ev (nums es) e ≥ count then 0 else (runB (nums es) rs b ⟨u, tbOf ns cs, tk⟩).2.ev (nums es) e, ns.map (runB (nums es) rs b ⟨u, tbOf ns cs, tk⟩).2.tb, (runB (nums es) rs b ⟨u, tbOf ns cs, tk⟩).2.tk) := rfl
    refine ⟨_, rfl, x, dx, _, rfl, ox2, rfl, _, rfl, B, C_Brain, dB, _, _, rfl, oB2, T.cl_Brain, T.a_Brain_block, rfl, x, d, st, tp, rx, tx, ns, nums es, rs, _, bk, b, rfl, C2, I2.bd.bk, I2.bo.bo, by have := I2.bo.d; omega, fun H3 A3 K3 => ?_⟩
    have tk3 := A2.tk3 K3
    have I3 := I2.tk tk3
    have kx : Keep [tx] H H3 := fun a o h w => K3 _ _ (K02 _ _ h (by have := ne_of_none h nx0; simpa using this)) (by
      have h1 := ne_of_none h nx0
      have h2 := ne_of_none h nd0
      have h3 : a ≠ tx := by simpa using w
      simp [h1, h2, h3])
    have oB3 := kx _ _ oB (by
      have := ne_of (K1 _ _ oB (by simp)) t1 (by intro z; cases z)
      simpa using this)
    obtain ⟨dx3, ox3⟩ := A3.o
    have C3 := C2.mv A3 mv
    cases hb : (runB (nums es) rs b ⟨u, tbOf ns cs, tk⟩).1 with
    | false =>
      rw [if_pos hb] at e0
      rw [e0] at k
      refine ⟨_, rfl, iteT ?_⟩
      refine ⟨_, rfl, _, _, rfl, .inr ⟨SqT.of I3.ca, And.intro (by show 2 ≤ sizeLine; decide) <| fun t nt => ?_⟩⟩
      have kt : Keep [] H3 (upd H3 t (.tup [.int 0, .ref ca])) := Keep.new nt
      have hyt : ∃ o, H3 tx = some o := by obtain ⟨ws, h, _⟩ := A3.ta.t; exact ⟨_, h⟩
      obtain ⟨oo, hoo⟩ := hyt
      exact k t ca _ (kx.free1 hoo nt) upd_same (kt _ _ I3.ca (by simp)) (A3.ta.keep kt kt.tk (by simp) (by simp) (by simp)) (kx.trans (kt.mono (by simp)))
    | true =>
      rw [if_neg (by rw [hb]; decide)] at e0
      rw [e0] at k
      generalize (runB (nums es) rs b ⟨u, tbOf ns cs, tk⟩).2 = s3 at *
      refine ⟨_, rfl, iteF ?_⟩
      refine ⟨_, rfl, x, dx3, _, rfl, ox3, rfl, _, rfl, B, C_Brain, dB, _, _, rfl, oB3, T.cl_Brain, T.a_Brain_answer, rfl, x, d, st, tp, rx, tx, ns, nums es, rs, s3, an, e, rfl, A3, C3.ok, C3.sk, C3.sl, I3.bd.an, I3.bo.e, fun H4 K4 => ?_⟩
      have A4 := A3.keep0 K4
      have I4 := I3.tk K4.tk
      have k4 : Keep [tx] H H4 := kx.trans (K4.mono (by simp))
      have oB4 := K4 _ _ oB3 (by simp)
      obtain ⟨dx4, ox4⟩ := A4.o
      obtain ⟨ys4, hce4, hR4⟩ := I4.bd.ce
      obtain ⟨oo, hoo⟩ : ∃ o, H4 tx = some o := by obtain ⟨ws, h, _⟩ := A4.ta.t; exact ⟨_, h⟩
      -- the end, whatever the answer is
      have fin : ∀ (z : Int), z = (if s3.ev (nums es) e ≥ count then 0 else s3.ev (nums es) e) → ∀ {L : Addr} {H5 : Hp}, H4 L = none → Keep [] H4 H5 → H5 L = some (.lst (ns.map fun y => V.int (s3.tb y))) → ∃ p ys, [V.ref L] = [V.ref p] ∧ ((SqL K H5 p ys ∧ ∀ l, H5 l = none → 2 ≤ sizeLine ∧ ∀ t, upd H5 l (.tup ys) t = none → Q (.ref t) (upd (upd H5 l (.tup ys)) t (.tup [.int z, .ref l]))) ∨ (SqT K H5 p ys ∧ 2 ≤ sizeLine ∧ ∀ t, H5 t = none → Q (.ref t) (upd H5 t (.tup [.int z, .ref p])))) := by
        intro z hz L H5 nL K5 hL5
        refine ⟨_, _, rfl, .inl ⟨SqL.of hL5, fun l nl => ⟨by decide, fun t nt => ?_⟩⟩⟩
        have k6 : Keep [] H5 (upd H5 l (.tup (ns.map fun y => V.int (s3.tb y)))) := Keep.new nl
        have k7 := k6.then_new (o := .tup [.int z, .ref l]) nt
        have k47 := K5.trans k7
        subst hz
        refine k t l _ (k4.free1 hoo ((K5.trans k6).free nt)) upd_same ?_ (A4.ta.keep k47 k47.tk (by simp) (by simp) (by simp)) (k4.trans (k47.mono (by simp)))
        have : upd (upd H5 l (.tup (ns.map fun y => V.int (s3.tb y)))) t (.tup [.int (if s3.ev (nums es) e ≥ count then 0 else s3.ev (nums es) e), .ref l]) l = some (.tup (ns.map fun y => V.int (s3.tb y))) := Keep.new (W := []) nt _ _ upd_same (by simp)
        rw [this, List.map_map]
        rfl
      refine ⟨_, rfl, _, rfl, _, _, rfl, rfl, _, rfl, iteD (fun h => ?_) (fun h => ?_)⟩
      · have h' : s3.ev (nums es) e ≥ count := h
        refine ⟨_, rfl, _, rfl, B, C_Brain, dB, _, _, rfl, oB4, T.cl_Brain, T.a_Brain_cells, rfl, ce, rfl, ⟨_, SqT.of hce4⟩, fun L hL => ?_⟩
        refine lc_tup (K := K) (a := ce) (xs := ys4) (fun i H5 => H5 L = some (.lst ((ns.take i).map fun y => V.int (s3.tb y))) ∧ Keep [] H4 H5) ⟨upd_same, Keep.new hL⟩ (fun i H5 _ ⟨_, k5⟩ => SqT.of (k5 _ _ hce4 (by simp))) ?_ ?_
        · rintro i v H5 hv ⟨hL5, K5⟩
          obtain ⟨pp, n, c, rfl, hn, _, hp⟩ := hR4.get hv
          obtain ⟨hlt, hget⟩ := List.getElem?_eq_some_iff.mp hn
          have hmem : n ∈ ns := List.mem_of_getElem? hn
          refine ⟨rfl, yes_then ⟨_, rfl, x, C_Thinker, dx4, _, _, rfl, K5 _ _ ox4 (by simp), T.cl_Thinker, T.a_Thinker_table, rfl, _, rfl, _, _, _, _, rfl, rfl, SqT.of (K5 _ _ hp (by simp)), rfl, _, _, rfl, (A4.t.keep K5 (by simp)).get hmem, ?_⟩⟩
          refine ⟨_, hL5, by rw [List.length_map, List.length_take]; exact smallL (by have := hI.bo.nl; omega), ?_, K5.then_own hL⟩
          rw [List.take_succ_eq_append_getElem hlt, hget, List.map_append]
          exact upd_same
        · rintro H5 ⟨hL5, K5⟩
          rw [hR4.len.1, List.take_length] at hL5
          exact fin 0 (by rw [if_pos h']) hL K5 hL5
      · have h' : ¬ s3.ev (nums es) e ≥ count := h
        refine ⟨_, rfl, _, rfl, B, C_Brain, dB, _, _, rfl, oB4, T.cl_Brain, T.a_Brain_cells, rfl, ce, rfl, ⟨_, SqT.of hce4⟩, fun L hL => ?_⟩
        refine lc_tup (K := K) (a := ce) (xs := ys4) (fun i H5 => H5 L = some (.lst ((ns.take i).map fun y => V.int (s3.tb y))) ∧ Keep [] H4 H5) ⟨upd_same, Keep.new hL⟩ (fun i H5 _ ⟨_, k5⟩ => SqT.of (k5 _ _ hce4 (by simp))) ?_ ?_
        · rintro i v H5 hv ⟨hL5, K5⟩
          obtain ⟨pp, n, c, rfl, hn, _, hp⟩ := hR4.get hv
          obtain ⟨hlt, hget⟩ := List.getElem?_eq_some_iff.mp hn
          have hmem : n ∈ ns := List.mem_of_getElem? hn
          refine ⟨rfl, yes_then ⟨_, rfl, x, C_Thinker, dx4, _, _, rfl, K5 _ _ ox4 (by simp), T.cl_Thinker, T.a_Thinker_table, rfl, _, rfl, _, _, _, _, rfl, rfl, SqT.of (K5 _ _ hp (by simp)), rfl, _, _, rfl, (A4.t.keep K5 (by simp)).get hmem, ?_⟩⟩
          refine ⟨_, hL5, by rw [List.length_map, List.length_take]; exact smallL (by have := hI.bo.nl; omega), ?_, K5.then_own hL⟩
          rw [List.take_succ_eq_append_getElem hlt, hget, List.map_append]
          exact upd_same
        · rintro H5 ⟨hL5, K5⟩
          rw [hR4.len.1, List.take_length] at hL5
          exact fin _ (by rw [if_neg h']) hL K5 hL5
theorem ok_lthink {f : Addr} {fd : FuncData} (D : C8.Def K mg "_law_think" s_law_think f fd) (b : Binds K fd ["brain", "cells", "view", "count", "results", "taken"] []) (T : Txt K mg C_Ratio C_Tape C_Thinker C_Brain C_GameError C_TooLarge T_EVENTS) (c_law_seen : C8.Cal P w K mg base 1 "_law_seen" sp_lseen []) (c_law_run : C8.Cal P w K mg base 22 "_law_run" (sp_lrun K 9) [])
    (c_law_value : C8.Cal P w K mg base 13 "_law_value" (sp_lvalue K 12) []) : C8.Cal P w K mg base 23 "_law_think" (sp_lthink K) [] := by
  refine cal0 D b .nil sc_law_think (fun vs H Q E h => ?_) (fun cdv A outer s H vs Q E hr h => ?_)
  · obtain ⟨br, ce, bk, ca, vw, rl, tl, an, ns, ks, cs, b, e, xs, es, u, count, rs, rfl, _⟩ := h
    rfl
  · obtain ⟨br, ce, bk, ca, vw, rl, tl, an, ns, ks, cs, b, e, xs, es, u, count, rs, rfl, hbr, hI, hrl, htl, hne, k⟩ := h
    have hu := hu_of hr
    refine ⟨_, (pss_cons (ps_set (i := 6) sc_law_think.nd rfl (by first | exact Or.inl rfl | exact Or.inr rfl) pe_dnewK)
(pss_cons (ps_for PassesOwn.never rfl (pi_range1 (by rfl) T.n_range (pa_cons (pe_callB call_len_seq (by rfl) T.n_len bo_len (pa_cons (pv 1) pa_nil)) pa_nil)) (pg_name (i := 7) sc_law_think.nd rfl (by first | exact Or.inl rfl | exact Or.inr rfl))
  (pss_one (ps_dput hu (pv 6) (pe_ix ix_tup (pe_ix ix_tup (pe_ix ix_tup (pv 0) pe_int (fun _ _ => rfl)) (pv 7) (fun _ _ => rfl)) pe_int (fun _ _ => rfl)) (pe_ix ix_tup (pv 1) (pv 7) (fun _ _ => rfl)) (by rfl))))
(pss_cons (ps_set (i := 8) sc_law_think.nd rfl (by first | exact Or.inl rfl | exact Or.inr rfl) (pe_lst (pa_cons (pe_ix ix_tup (pv 0) pe_int (fun _ _ => rfl)) (pa_cons (pv 6) (pa_cons (pe_c c_law_seen hr (by first | exact Nat.le_refl _ | decide | omega) rfl (pa_cons (pv 2) pa_nil)) (pa_cons (pv 4) (pa_cons (pv 5) pa_nil)))))))
(pss_cons (ps_if (pt_not (pt_val (pe_c c_law_run hr (by first | exact Nat.le_refl _ | decide | omega) rfl (pa_cons (pv 8) (pa_cons (pe_ix ix_tup (pv 0) pe_int (fun _ _ => rfl)) pa_nil)))))
  (pss_one (ps_ret (pe_tup (pa_cons pe_int (pa_cons (pe_callTy call_tuple_of (by rfl) T.n_tuple bo_tuple (pa_cons (pv 1) pa_nil)) (pa_cons (pe_un un_neg pe_int) pa_nil))))))
  pss_nil)
(pss_cons (ps_set (i := 9) sc_law_think.nd rfl (by first | exact Or.inl rfl | exact Or.inr rfl) (pe_c c_law_value hr (by first | exact Nat.le_refl _ | decide | omega) rfl (pa_cons (pe_ix ix_tup (pv 0) pe_int (fun _ _ => rfl)) (pa_cons (pv 6) (pa_cons pe_dnewK (pa_cons (pe_ix ix_list (pv 8) pe_int (fun _ _ => rfl)) pa_nil))))))
(pss_cons (ps_if (pt_cmpR op_ge (pv 9) (pv 3) (nomark _))
  (pss_one (ps_set (i := 9) sc_law_think.nd rfl (by first | exact Or.inl rfl | exact Or.inr rfl) pe_int))
  pss_nil)
(pss_one (ps_ret (pe_tup (pa_cons (pv 9) (pa_cons (pe_callTy call_tuple_of (by rfl) T.n_tuple bo_tuple (pa_cons (pe_lc (own := [("row", 10)]) (g := gName 10) (tt := tYes) rfl sc_law_think.nd (pi_tup (pe_ix ix_tup (pv 0) pe_int (fun _ _ => rfl))) (blkOk_by (N := ["brain", "cells", "view", "count", "results", "taken", "table", "k", "run", "answer", "row"]) (sc := fnScope s_law_think) (by decide +kernel)) (fun _ _ _ _ _ => pg_name (i := 10) sc_law_think.nd rfl (Or.inl rfl)) (fun _ _ _ _ _ => pts_nil) (fun _ _ _ _ _ => (pe_dget hu (pv 6) (pe_ix (ix_tupK (K := K)) (pv 10) pe_int (fun _ _ => rfl)) (fun _ _ => rfl)))) pa_nil)) (pa_cons (pe_op op_sub (pe_ix ix_tup (pv 0) pe_int (fun _ _ => rfl)) (pe_ix ix_list (pv 8) pe_int (fun _ _ => rfl))) pa_nil)))))))))))), ?_⟩
    refine fun d nd => ?_
    have k0 : Keep [] H (upd H d (.dK [])) := Keep.new nd
    obtain ⟨ys, hce, hR⟩ := hI.bd.ce
    have hrlen := hR.len
    have nod := hI.bo.nd
    refine ⟨_, rfl, _, _, rfl, .inr (SqT.of (k0 _ _ hI.ca (by simp))), _, rfl, by omega, by rw [List.length_map]; (have := hI.cl; have := hI.bo.nl; omega), ?_⟩
    refine for_range (lo := 0) (n := (cs.map V.int).length) (fun i σ H' => (∃ o : Option V, σ = [some (.ref br), some (.ref ca), some (.ref vw), some (.int count), some (.ref rl), some (.ref tl), some (.ref d), o, none, none, none]) ∧ Fill H' d ns i (fun y => .int (tbOf ns cs y)) ∧ Keep [] H H')
      ⟨⟨none, rfl⟩, fill0 upd_same, k0⟩ ?_ ?_
    · rintro i σ H1 hi ⟨⟨o, rfl⟩, hF, K1⟩
      rw [List.length_map] at hi
      have e0 : (0 : Int) + (i : Int) = (i : Int) := by omega
      rw [e0]
      have hcl := hI.cl
      have hv : ys[i]? = some (ys[i]'(by omega)) := List.getElem?_eq_getElem _
      obtain ⟨p, n, c0, hyp, hn, _, hp⟩ := hR.get hv
      rw [hyp] at hv
      have hc : cs[i]? = some cs[i] := List.getElem?_eq_getElem hi
      have hcv : (cs.map V.int)[i]? = some (.int cs[i]) := by rw [List.getElem?_map, hc]; rfl
      obtain ⟨hlt, he⟩ := List.getElem?_eq_some_iff.mp hn
      have et : ns.take (i + 1) = ns.take i ++ [n] := by rw [List.take_succ_eq_append_getElem hlt, he]
      obtain ⟨kvs, g1, g2, g3⟩ := hF.step nod et
      have hval : tbOf ns cs n = cs[i] := tbOf_at nod hn hc
      refine ⟨_, rfl, _, rfl, _, _, _, _, rfl, rfl, SqT.of (K1 _ _ hI.ca (by simp)), atI_nat hcv, _, rfl, _, rfl, _, _, _, _, rfl, rfl, SqT.of (K1 _ _ hbr (by simp)), rfl, _, rfl, _, _, _, _, rfl, rfl, SqT.of (K1 _ _ hce (by simp)), atI_nat hv, _, _, _, _, rfl, rfl, SqT.of (K1 _ _ hp (by simp)), rfl, d, _, rfl, DPut.k (k := .inr n) g1 (smallL (by rw [g2]; have := hI.bo.nl; omega)), ?_⟩
      exact ⟨⟨_, rfl⟩, g3 _ (by rw [hval]; exact upd_same), K1.then_own nd⟩
    · rintro σ H1 ⟨⟨o, rfl⟩, hF, K1⟩
      rw [List.length_map] at hF
      have hFull := hF.full hI.cl
      have I1 := hI.tk K1.tk
      refine ⟨_, rfl, _, _, _, _, rfl, rfl, SqT.of (K1 _ _ hbr (by simp)), rfl, _, rfl, _, rfl, vw, xs, es, rfl, I1.vw, I1.ev, I1.eo, I1.el, fun sl H2 nsl hsl K2 => ⟨_, rfl, _, rfl, And.intro (by show 5 ≤ sizeLine; decide) <| fun R nR => ?_⟩⟩
      have kR : Keep [] H2 (upd H2 R (.lst [.int u, .ref d, .ref sl, .ref rl, .ref tl])) := Keep.new nR
      have K12 := K1.trans K2
      have K1R := K12.trans kR
      have nR0 : H R = none := K12.free nR
      have I2 := hI.tk K1R.tk
      have hrl2 := K12 _ _ hrl (by simp)
      have htl2 := K12 _ _ htl (by simp)
      have A2 : LAt (upd H2 R (.lst [.int u, .ref d, .ref sl, .ref rl, .ref tl])) R d sl rl tl ns (nums es) rs u ⟨u, tbOf ns cs, []⟩ :=
        ⟨upd_same, (hFull.keep K2 (by simp)).keep kR (by simp), kR _ _ hsl (by simp), kR _ _ hrl2 (by simp), ⟨[], kR _ _ htl2 (by simp), .nil⟩, (ne_of_none hsl nR).symm, (ne_of_none hrl2 nR).symm, (ne_of_none htl2 nR).symm, ne_of_none (K1 _ _ htl (by simp)) nsl, hne⟩
      have C2 : LC (upd H2 R (.lst [.int u, .ref d, .ref sl, .ref rl, .ref tl])) R d sl rl tl ns (nums es) rs ⟨u, tbOf ns cs, []⟩ := ⟨A2, I2.mok [], nums_ok I2.eo, I2.sl, by (have := I2.u1; show u.toNat + 0 ≤ 90000; omega), by have := I2.bo.nl; omega⟩
      have mv := runB_mv (rs := rs) C2.sk b I2.bo.bo _ C2.ok
      have e0 : thk ns cs b e count (nums es) rs u [] = if (runB (nums es) rs b ⟨u, tbOf ns cs, []⟩).1 = false then (0, cs, (runB (nums es) rs b ⟨u, tbOf ns cs, []⟩).2.tk) else (if (runB (nums es) rs b ⟨u, tbOf ns cs, []⟩).2.ev (nums es) e ≥ count then 0 else (runB (nums es) rs b ⟨u, tbOf ns cs, []⟩).2.ev (nums es) e, ns.map (runB (nums es) rs b ⟨u, tbOf ns cs, []⟩).2.tb, (runB (nums es) rs b ⟨u, tbOf ns cs, []⟩).2.tk) := rfl
      refine ⟨_, rfl, _, rfl, _, _, _, _, rfl, rfl, SqT.of (K1R _ _ hbr (by simp)), rfl, R, d, sl, rl, tl, ns, nums es, rs, _, bk, b, rfl, C2, I2.bd.bk, I2.bo.bo, by have := I2.bo.d; omega, fun H3 l' A3 hb K3 => ?_⟩
      have tk3 := A2.tk3 K3
      have I3 := I2.tk tk3
      have kx : Keep [tl] H H3 := fun a o h w => K3 _ _ (K1R _ _ h (by simp)) (by
        have h1 := ne_of_none h nR0
        have h2 := ne_of_none h nd
        have h3 : a ≠ tl := by simpa using w
        simp [h1, h2, h3])
      have hbr3 := tk3 _ _ (K1R _ _ hbr (by simp))
      cases hq : (runB (nums es) rs b ⟨u, tbOf ns cs, []⟩).1 with
      | false =>
        rw [if_pos hq] at e0
        rw [e0] at k
        refine ⟨_, rfl, iteT ?_⟩
        refine ⟨_, rfl, _, _, rfl, .inr ⟨SqT.of I3.ca, _, rfl, And.intro (by show 3 ≤ sizeLine; decide) <| fun t nt => ?_⟩⟩
        have kt : Keep [] H3 (upd H3 t (.tup [.int 0, .ref ca, .int (-1)])) := Keep.new nt
        obtain ⟨ws, w1, w2⟩ := A3.tt
        exact k t ca _ _ (kx.free1 w1 nt) upd_same (kt _ _ I3.ca (by simp)) ⟨ws, kt _ _ w1 (by simp), w2.tk kt.tk⟩ (kx.trans (kt.mono (by simp)))
      | true =>
        rw [if_neg (by rw [hq]; decide)] at e0
        rw [e0] at k
        have ok3 := mv.ok
        rw [hb hq] at A3
        generalize (runB (nums es) rs b ⟨u, tbOf ns cs, []⟩).2 = s3 at *
        refine ⟨_, rfl, iteF ?_⟩
        refine ⟨_, rfl, _, _, _, _, rfl, rfl, SqT.of hbr3, rfl, _, rfl, fun od nod2 => ?_⟩
        have k1 : Keep [] H3 (upd H3 od (.dK [])) := Keep.new nod2
        refine ⟨_, rfl, _, _, _, _, rfl, rfl, SqL.of (k1 _ _ A3.r (by simp)), rfl, an, d, od, sl, e, ns, [], _, offs, nums es, rfl, I3.bd.an.tk k1.tk, I3.bo.e.1, I3.bo.e.2, (A3.t.keep k1 (by simp)).dcI, ⟨[], upd_same, fun x hx => by cases hx⟩, k1 _ _ A3.sn (by simp), ok3.t, C2.sk, C2.sl', fun H4 K4' => ?_⟩
        have K4 := k1.trans K4'
        have A4 := A3.keep0 K4
        have I4 := I3.tk K4.tk
        have k4 : Keep [tl] H H4 := kx.trans (K4.mono (by simp))
        have hbr4 := K4 _ _ hbr3 (by simp)
        obtain ⟨ys4, hce4, hR4⟩ := I4.bd.ce
        obtain ⟨ws, w1, w2⟩ := id A4.tt
        have fin : ∀ (z : Int), z = (if s3.ev (nums es) e ≥ count then 0 else s3.ev (nums es) e) → ∀ {L l t : Addr} {zz : Int} {H5 : Hp}, Keep [] H4 H5 → H5 L = some (.lst (ns.map fun y => V.int (s3.tb y))) → H5 l = none → upd H5 l (.tup (ns.map fun y => V.int (s3.tb y))) t = none → Q (.ref t) (upd (upd H5 l (.tup (ns.map fun y => V.int (s3.tb y)))) t (.tup [.int z, .ref l, .int zz])) := by
          intro z hz L l t zz H5 K5 hL5 nl nt
          have k6 : Keep [] H5 (upd H5 l (.tup (ns.map fun y => V.int (s3.tb y)))) := Keep.new nl
          have k7 := k6.then_new (o := .tup [.int z, .ref l, .int zz]) nt
          have k47 := K5.trans k7
          subst hz
          refine k t l zz _ (k4.free1 w1 ((K5.trans k6).free nt)) upd_same ?_ ⟨ws, k47 _ _ w1 (by simp), w2.tk k47.tk⟩ (k4.trans (k47.mono (by simp)))
          have : upd (upd H5 l (.tup (ns.map fun y => V.int (s3.tb y)))) t (.tup [.int (if s3.ev (nums es) e ≥ count then 0 else s3.ev (nums es) e), .ref l, .int zz]) l = some (.tup (ns.map fun y => V.int (s3.tb y))) := Keep.new (W := []) nt _ _ upd_same (by simp)
          rw [this, List.map_map]
          rfl
        refine ⟨_, rfl, _, rfl, _, _, rfl, rfl, _, rfl, iteD (fun h => ?_) (fun h => ?_)⟩
        · have h' : s3.ev (nums es) e ≥ count := h
          refine ⟨_, rfl, _, rfl, _, _, _, _, rfl, rfl, SqT.of hbr4, rfl, ce, rfl, ⟨_, SqT.of hce4⟩, fun L hL => ?_⟩
          refine lc_tup (K := K) (a := ce) (xs := ys4) (fun i H5 => H5 L = some (.lst ((ns.take i).map fun y => V.int (s3.tb y))) ∧ Keep [] H4 H5) ⟨upd_same, Keep.new hL⟩ (fun i H5 _ ⟨_, k5⟩ => SqT.of (k5 _ _ hce4 (by simp))) ?_ ?_
          · rintro i v H5 hv ⟨hL5, K5⟩
            obtain ⟨pp, n, c, rfl, hn, _, hp⟩ := hR4.get hv
            obtain ⟨hlt, hget⟩ := List.getElem?_eq_some_iff.mp hn
            have hmem : n ∈ ns := List.mem_of_getElem? hn
            refine ⟨rfl, yes_then ⟨_, rfl, _, rfl, _, _, _, _, rfl, rfl, SqT.of (K5 _ _ hp (by simp)), rfl, _, _, rfl, (A4.t.keep K5 (by simp)).get hmem, ?_⟩⟩
            refine ⟨_, hL5, by rw [List.length_map, List.length_take]; exact smallL (by have := hI.bo.nl; omega), ?_, K5.then_own hL⟩
            rw [List.take_succ_eq_append_getElem hlt, hget, List.map_append]
            exact upd_same
          · rintro H5 ⟨hL5, K5⟩
            rw [hR4.len.1, List.take_length] at hL5
            refine ⟨_, _, rfl, .inl ⟨SqL.of hL5, fun l nl => ?_⟩⟩
            have k6 : Keep [] H5 (upd H5 l (.tup (ns.map fun y => V.int (s3.tb y)))) := Keep.new nl
            have k46 := K5.trans k6
            refine ⟨_, rfl, _, _, _, _, rfl, rfl, SqT.of (k46 _ _ hbr4 (by simp)), rfl, _, rfl, _, _, _, _, rfl, rfl, SqL.of (k46 _ _ A4.r (by simp)), rfl, _, _, rfl, rfl, And.intro (by show 3 ≤ sizeLine; decide) <| fun t nt => ?_⟩
            exact fin 0 (by rw [if_pos h']) K5 hL5 nl nt
        · have h' : ¬ s3.ev (nums es) e ≥ count := h
          refine ⟨_, rfl, _, rfl, _, _, _, _, rfl, rfl, SqT.of hbr4, rfl, ce, rfl, ⟨_, SqT.of hce4⟩, fun L hL => ?_⟩
          refine lc_tup (K := K) (a := ce) (xs := ys4) (fun i H5 => H5 L = some (.lst ((ns.take i).map fun y => V.int (s3.tb y))) ∧ Keep [] H4 H5) ⟨upd_same, Keep.new hL⟩ (fun i H5 _ ⟨_, k5⟩ => SqT.of (k5 _ _ hce4 (by simp))) ?_ ?_
          · rintro i v H5 hv ⟨hL5, K5⟩
            obtain ⟨pp, n, c, rfl, hn, _, hp⟩ := hR4.get hv
            obtain ⟨hlt, hget⟩ := List.getElem?_eq_some_iff.mp hn
            have hmem : n ∈ ns := List.mem_of_getElem? hn
            refine ⟨rfl, yes_then ⟨_, rfl, _, rfl, _, _, _, _, rfl, rfl, SqT.of (K5 _ _ hp (by simp)), rfl, _, _, rfl, (A4.t.keep K5 (by simp)).get hmem, ?_⟩⟩
            refine ⟨_, hL5, by rw [List.length_map, List.length_take]; exact smallL (by have := hI.bo.nl; omega), ?_, K5.then_own hL⟩
            rw [List.take_succ_eq_append_getElem hlt, hget, List.map_append]
            exact upd_same
          · rintro H5 ⟨hL5, K5⟩
            rw [hR4.len.1, List.take_length] at hL5
            refine ⟨_, _, rfl, .inl ⟨SqL.of hL5, fun l nl => ?_⟩⟩
            have k6 : Keep [] H5 (upd H5 l (.tup (ns.map fun y => V.int (s3.tb y)))) := Keep.new nl
            have k46 := K5.trans k6
            refine ⟨_, rfl, _, _, _, _, rfl, rfl, SqT.of (k46 _ _ hbr4 (by simp)), rfl, _, rfl, _, _, _, _, rfl, rfl, SqL.of (k46 _ _ A4.r (by simp)), rfl, _, _, rfl, rfl, And.intro (by show 3 ≤ sizeLine; decide) <| fun t nt => ?_⟩
            exact fin _ (by rw [if_neg h']; rfl) K5 hL5 nl nt
end

section
variable {P : Program} {w : World} {K : PySem.W.Frag} {mg : Str → Option Value} {base : Heap} {C_Ratio : Addr} {C_Tape : Addr} {C_Thinker : Addr} {C_Brain : Addr} {C_GameError : Addr} {C_TooLarge : Addr} {f_TooLarge___init : Addr} {T_EVENTS : Addr}
theorem same_all {f : Addr} {fd : FuncData} (D : C8.Def K mg "_law_same" s_law_same f fd) (b : Binds K fd ["actual", "due"] []) (T : Txt K mg C_Ratio C_Tape C_Thinker C_Brain C_GameError C_TooLarge T_EVENTS) : ∀ n, C8.Cal P w K mg base n "_law_same" (sp_law_same K n) []
  | 0 => ok_law_same0 D b
  | n + 1 => ok_law_same D b T (same_all D b T n)
end
/-! a tape with more in front -/
def sh (pre : List (Int × Int)) (s : MS) : MS := { s with tk := pre ++ s.tk }
theorem nextR_sh {rp rs : List Int} {pre tk : List (Int × Int)} {c : Int} (h : pre.length = rp.length) : nextR (rp ++ rs) (pre ++ tk) c = nextR rs tk c := by
  unfold nextR
  rw [List.length_append, List.length_append]
  by_cases q : tk.length < rs.length
  · rw [if_pos (by omega), if_pos q, List.getD_eq_getElem?_getD, List.getD_eq_getElem?_getD, List.getElem?_append_right (by omega)]
    rw [show pre.length + tk.length - rp.length = tk.length by omega]
  · rw [if_neg (by omega), if_neg q]
theorem lotS_sh {seen rp rs : List Int} {pre : List (Int × Int)} (h : pre.length = rp.length) (s : MS) (x : Str) (e : Ex) : lotS seen (rp ++ rs) (sh pre s) x e = sh pre (lotS seen rs s x e) := by
  unfold lotS
  have e1 : (sh pre s).ev seen e = s.ev seen e := rfl
  have e2 : (sh pre s).tk = pre ++ s.tk := rfl
  rw [e1, e2, nextR_sh h]
  split
  · show MS.put { s with tk := pre ++ s.tk ++ _ } x _ = MS.put { s with tk := pre ++ (s.tk ++ _) } x _
    rw [List.append_assoc]
  · rfl
theorem loopM_sh {pre : List (Int × Int)} {t1 t2 : MS → Bool} {f1 f2 : MS → Bool × MS} (ht : ∀ s, t1 (sh pre s) = t2 s) (hf : ∀ s, f1 (sh pre s) = ((f2 s).1, sh pre (f2 s).2)) : ∀ n s, loopM t1 f1 n (sh pre s) = ((loopM t2 f2 n s).1, sh pre (loopM t2 f2 n s).2)
  | 0, s => rfl
  | n + 1, s => by
    unfold loopM
    rw [ht, hf]
    by_cases a : t2 s = false
    · rw [if_pos a, if_pos a]
    · rw [if_neg a, if_neg a]
      by_cases b : (f2 s).1 = false
      · rw [if_pos b, if_pos b]
      · rw [if_neg b, if_neg b]
        by_cases c : (f2 s).2.left = 0
        · rw [if_pos c, if_pos (show (sh pre (f2 s).2).left = 0 from c)]
        · rw [if_neg c, if_neg (show ¬ (sh pre (f2 s).2).left = 0 from c)]
          exact loopM_sh ht hf n { (f2 s).2 with left := (f2 s).2.left - 1 }
mutual
theorem runT_sh {seen rp rs : List Int} {pre : List (Int × Int)} (h : pre.length = rp.length) : ∀ (t : Th) (s : MS), runT seen (rp ++ rs) t (sh pre s) = ((runT seen rs t s).1, sh pre (runT seen rs t s).2)
  | .set x e, s => rfl
  | .lot x e, s => by unfold runT; rw [lotS_sh h]
  | .iff t a b, s => by
    unfold runT
    by_cases z : s.ev seen t = 0
    · rw [if_neg (show ¬ (sh pre s).ev seen t ≠ 0 from not_not_intro z), if_neg (not_not_intro z)]; exact runB_sh h b s
    · rw [if_pos (show (sh pre s).ev seen t ≠ 0 from z), if_pos z]; exact runB_sh h a s
  | .whl t b, s => by
    unfold runT
    exact loopM_sh (fun _ => rfl) (fun s => runB_sh h b s) _ s
theorem runB_sh {seen rp rs : List Int} {pre : List (Int × Int)} (h : pre.length = rp.length) : ∀ (b : Bl) (s : MS), runB seen (rp ++ rs) b (sh pre s) = ((runB seen rs b s).1, sh pre (runB seen rs b s).2)
  | .nil, s => by unfold runB; rfl
  | .cons t b, s => by
    unfold runB
    by_cases z : s.left = 0
    · rw [if_pos (show (sh pre s).left = 0 from z), if_pos z]
    · rw [if_neg (show ¬ (sh pre s).left = 0 from z), if_neg z]
      have e1 := runT_sh (seen := seen) (rs := rs) h t { s with left := s.left - 1 }
      have e2 : ({ sh pre s with left := (sh pre s).left - 1 } : MS) = sh pre { s with left := s.left - 1 } := rfl
      rw [e2, e1]
      by_cases q : (runT seen rs t { s with left := s.left - 1 }).1 = false
      · rw [if_pos q, if_pos q]
      · rw [if_neg q, if_neg q]
        exact runB_sh h b _
end
theorem thk_sh {ns : List Str} {cs : List Int} {b : Bl} {e : Ex} {count : Int} {seen rp rs : List Int} {u : Int} {pre : List (Int × Int)} (h : pre.length = rp.length) :
    thk ns cs b e count seen (rp ++ rs) u pre = ((thk ns cs b e count seen rs u []).1, (thk ns cs b e count seen rs u []).2.1, pre ++ (thk ns cs b e count seen rs u []).2.2) := by
  have e1 := runB_sh (seen := seen) (rs := rs) h b ⟨u, tbOf ns cs, []⟩
  have e2 : sh pre ⟨u, tbOf ns cs, []⟩ = ⟨u, tbOf ns cs, pre⟩ := by unfold sh; rw [List.append_nil]
  rw [e2] at e1
  unfold thk
  rw [e1]
  by_cases q : (runB seen rs b ⟨u, tbOf ns cs, []⟩).1 = false
  · rw [if_pos q, if_pos q]; rfl
  · rw [if_neg q, if_neg q]; rfl
theorem thk_len {ns : List Str} {cs : List Int} {b : Bl} {e : Ex} {count : Int} {seen rs : List Int} {u : Int} (hl : cs.length = ns.length) (hs : SeenOk seen) (hb : b.Ok ns) (ho : MOk ns ⟨u, tbOf ns cs, []⟩) (u1 : u ≤ 65535) :
    (thk ns cs b e count seen rs u []).2.1.length = ns.length ∧ (thk ns cs b e count seen rs u []).2.2.length ≤ 65535 := by
  have mv := runB_mv (rs := rs) hs b hb _ ho
  have h1 := mv.k
  have h2 : (runB seen rs b ⟨u, tbOf ns cs, []⟩).2.tk.length ≤ 65535 := by
    change _ ≤ u.toNat + 0 + 0 at h1
    omega
  unfold thk
  split
  · exact ⟨hl, h2⟩
  · exact ⟨by rw [List.length_map], h2⟩
/-! the same -/
theorem same_ints {K : PySem.W.Frag} {H : Hp} {n : Nat} : ∀ l : List Int, Paired (SameV K (n + 1) H) (l.map V.int) (l.map V.int)
  | [] => .nil
  | a :: l => .cons (sameV_atom (.inr (.inl ⟨a, rfl⟩))) (same_ints l)
theorem same_intsT {K : PySem.W.Frag} {H : Hp} {p q : Addr} {n : Nat} {l : List Int} (h1 : H p = some (.tup (l.map V.int))) (h2 : H q = some (.tup (l.map V.int))) (hl : l.length ≤ 1000000) : SameV K (n + 2) H (.ref p) (.ref q) :=
  sameT (.inl h1) (.inl h2) (same_ints l) (by rw [List.length_map]; exact hl)
theorem same_pl {K : PySem.W.Frag} {H : Hp} {n : Nat} : ∀ {tk : List (Int × Int)} {xs ys : List V}, PL H xs tk → PL H ys tk → Paired (SameV K (n + 2) H) xs ys
  | [], _, _, h, g => by cases h; cases g; exact .nil
  | p :: tk, _, _, h, g => by
    cases h with
    | cons h1 h2 =>
      cases g with
      | cons g1 g2 => exact .cons (sameT (.inl h1) (.inl g1) (same_ints [_, _]) (by simp)) (same_pl h2 g2)
theorem sameL {K : PySem.W.Frag} {H : Hp} {n : Nat} {p q : Addr} {xs ys : List V} (h1 : H p = some (.lst xs)) (h2 : H q = some (.lst ys)) (h : Paired (SameV K n H) xs ys) (hl : xs.length ≤ 1000000) : SameV K (n + 1) H (.ref p) (.ref q) :=
  .inr ⟨p, q, _, _, rfl, rfl, .inl ⟨h1, h2⟩, (paired_get h).1, smallM hl, (paired_get h).2⟩
mutual
theorem same_tv {K : PySem.W.Frag} {H : Hp} {ns : List Str} : ∀ (t : Th), t.Ok ns → t.Sm → ∀ {v : V}, TV K H t v → ∀ n, 14 + 2 * t.dep ≤ n → SameV K n H v v
  | .set x e, ok, _, _, ⟨a, u, e1, h1, h2⟩, n, hn => by
    subst e1
    obtain ⟨m, rfl⟩ : ∃ m, n = m + 2 := ⟨n - 2, by have : 14 + 2 * 0 ≤ n := hn; omega⟩
    have hm : 14 + 2 * 0 ≤ m + 2 := hn
    exact sameT h1 h1 (.cons (sameV_atom (.inl ⟨_, rfl⟩)) (.cons (sameV_atom (.inl ⟨_, rfl⟩)) (.cons (same_ev h2 h2 (by have := ok.2.2; omega)) .nil))) (by simp)
  | .lot x e, ok, _, _, ⟨a, u, e1, h1, h2⟩, n, hn => by
    subst e1
    obtain ⟨m, rfl⟩ : ∃ m, n = m + 2 := ⟨n - 2, by have : 14 + 2 * 0 ≤ n := hn; omega⟩
    have hm : 14 + 2 * 0 ≤ m + 2 := hn
    exact sameT h1 h1 (.cons (sameV_atom (.inl ⟨_, rfl⟩)) (.cons (sameV_atom (.inl ⟨_, rfl⟩)) (.cons (same_ev h2 h2 (by have := ok.2.2; omega)) .nil))) (by simp)
  | .iff t a b, ok, sm, _, ⟨p, u, q, r, xs, ys, e1, h1, h2, h3, h4, h5, h6⟩, n, hn => by
    subst e1
    have hn' : 14 + 2 * (max a.dep b.dep + 1) ≤ n := hn
    obtain ⟨m, rfl⟩ : ∃ m, n = m + 3 := ⟨n - 3, by omega⟩
    exact sameT h1 h1 (.cons (sameV_atom (.inl ⟨_, rfl⟩)) (.cons (same_ev h2 h2 (by have := ok.1.2; omega)) (.cons (sameT h3 h3 (same_tvs a ok.2.1 sm.1.2 h4 (m + 1) (by omega)) (by rw [h4.len]; have := sm.1.1; omega)) (.cons (sameT h5 h5 (same_tvs b ok.2.2 sm.2.2 h6 (m + 1) (by omega)) (by rw [h6.len]; have := sm.2.1; omega)) .nil)))) (by simp)
  | .whl t b, ok, sm, _, ⟨p, u, q, xs, e1, h1, h2, h3, h4⟩, n, hn => by
    subst e1
    have hn' : 14 + 2 * (b.dep + 1) ≤ n := hn
    obtain ⟨m, rfl⟩ : ∃ m, n = m + 3 := ⟨n - 3, by omega⟩
    exact sameT h1 h1 (.cons (sameV_atom (.inl ⟨_, rfl⟩)) (.cons (same_ev h2 h2 (by have := ok.1.2; omega)) (.cons (sameT h3 h3 (same_tvs b ok.2 sm.2 h4 (m + 1) (by omega)) (by rw [h4.len]; have := sm.1; omega)) .nil))) (by simp)
theorem same_tvs {K : PySem.W.Frag} {H : Hp} {ns : List Str} : ∀ (b : Bl), b.Ok ns → b.Sm → ∀ {xs : List V}, TVs K H b xs → ∀ n, 14 + 2 * b.dep ≤ n → Paired (SameV K n H) xs xs
  | .nil, _, _, _, h, n, _ => by cases h; exact .nil
  | .cons t b, ok, sm, _, ⟨v, r, e1, h1, h2⟩, n, hn => by
    subst e1
    have hn' : 14 + 2 * max t.dep b.dep ≤ n := hn
    exact .cons (same_tv t ok.1 sm.1 h1 n (by omega)) (same_tvs b ok.2 sm.2 h2 n (by omega))
end

section
variable {P : Program} {w : World} {K : PySem.W.Frag} {mg : Str → Option Value} {base : Heap} {C_Ratio : Addr} {C_Tape : Addr} {C_Thinker : Addr} {C_Brain : Addr} {C_GameError : Addr} {C_TooLarge : Addr} {f_TooLarge___init : Addr} {T_EVENTS : Addr}
theorem ok_rat_init {f : Addr} {fd : FuncData} {ds : List Value} {dvs : List V} (M : Mk K C_Ratio f) (F : C8.Fun K "__init__" "Ratio.__init__" s_Ratio___init f fd) (b : Binds K fd ["self", "num", "den"] ds) (d : Vals dvs ds) (T : Txt K mg C_Ratio C_Tape C_Thinker C_Brain C_GameError C_TooLarge T_EVENTS) :
    C8.Mak P w K mg base 1 "Ratio" C_Ratio (sp_rat C_Ratio) dvs := by
  refine mak0 M T.m_Ratio F b d sc_Ratio___init (fun vs H Q E h => ?_) (fun cdv A outer s H vs Q E hr h => ?_)
  · obtain ⟨x, dx, n, d, rfl, _⟩ := h
    rfl
  · obtain ⟨x, dx, n, d, rfl, hd0, hdb, hx, k⟩ := h
    refine ⟨_, (pss_cons (ps_if (pt_cmpR op_eq (pv 2) pe_int (nomark _))
  (pss_one ps_never)
  pss_nil)
(pss_cons (ps_set (i := 3) sc_Ratio___init.nd rfl (by first | exact Or.inl rfl | exact Or.inr rfl) (pe_callBfun cr_gcd (by rfl) T.f_gcd (pa_cons (pv 1) (pa_cons (pv 2) pa_nil))))
(pss_cut (ps_if (pt_cmpR op_lt (pv 2) pe_int (nomark _))
  (pss_one (ps_set (i := 3) sc_Ratio___init.nd rfl (by first | exact Or.inl rfl | exact Or.inr rfl) (pe_un un_neg (pv 3))))
  pss_nil)
(pss_cons (ps_fld (pv 0) (pe_op op_fdivG (pv 1) (pv 3)) rfl)
(pss_one (ps_fld (pv 0) (pe_op op_fdivG (pv 2) (pv 3)) rfl)))))), ?_⟩
    refine ⟨_, rfl, rfl, _, rfl, iteDF (fun z => hd0 (V.int.inj z)) ?_⟩
    refine ⟨_, rfl, _, rfl, _, _, rfl, ?_⟩
    have hg := gcd_pos_of (n := n) hd0
    have hgb : Nat.gcd n.natAbs d.natAbs < 2 ^ 8000 := Nat.lt_of_le_of_lt (Nat.le_of_dvd (by omega) (Nat.gcd_dvd_right _ _)) hdb
    -- part is the sign's part
    refine ⟨fun σ H' => σ = [some (.ref x), some (.int n), some (.int d), some (.int (sg n d))] ∧ H' = H, ?_, ?_⟩
    · refine ⟨_, rfl, _, _, rfl, rfl, _, rfl, iteD (fun hn => ?_) (fun hn => ?_)⟩
      · refine ⟨_, rfl, _, rfl, ?_, rfl⟩
        unfold sg; rw [if_pos hn]; rfl
      · refine ⟨?_, rfl⟩
        unfold sg; rw [if_neg hn]; rfl
    · rintro σ H' ⟨rfl, rfl⟩
      have hs := sg_ne (n := n) hd0
      have hsb : CDivG n (sg n d) := ⟨hs, by
        refine Nat.lt_trans (log2_lt9 (b := 8000) ?_ (by decide)) (by decide)
        have : (sg n d).natAbs = Nat.gcd n.natAbs d.natAbs := by unfold sg; split <;> omega
        omega⟩
      refine ⟨_, rfl, _, rfl, _, _, rfl, rfl, hsb, _, rfl, x, C_Ratio, dx, [], rfl, hx, T.cl_Ratio, T.a_Ratio_num, by show 0 < 1000; decide, ?_⟩
      refine ⟨_, rfl, _, rfl, _, _, rfl, rfl, hsb, _, rfl, x, C_Ratio, dx, _, rfl, upd_same, T.cl_Ratio, T.a_Ratio_den, by show 1 < 1000; decide, ?_⟩
      exact k _ ((Keep.at_ (List.mem_singleton.mpr rfl)).then_at (List.mem_singleton.mpr rfl)) upd_same
end

/-! what a tape tells behind its taking -/
def prodC : List (Int × Int) → Int
  | [] => 1
  | p :: l => p.2 * prodC l
def CntOk (tk : List (Int × Int)) : Prop := ∀ p ∈ tk, 0 < p.2 ∧ p.2 < 65536
theorem prodC_snoc (l : List (Int × Int)) (r c : Int) : prodC (l ++ [(r, c)]) = prodC l * c := by
  induction l with
  | nil => show c * 1 = 1 * c; omega
  | cons a l ih =>
    show a.2 * prodC (l ++ [(r, c)]) = a.2 * prodC l * c
    rw [ih, Int.mul_assoc]
theorem prodC_pos : ∀ {l : List (Int × Int)}, CntOk l → 0 < prodC l
  | [], _ => by decide
  | p :: l, h => Int.mul_pos (h p (List.mem_cons_self ..)).1 (prodC_pos fun q hq => h q (List.mem_cons_of_mem _ hq))
theorem prodC_le : ∀ {l : List (Int × Int)}, CntOk l → (prodC l).natAbs ≤ 65536 ^ l.length
  | [], _ => by decide
  | p :: l, h => by
    have h1 := h p (List.mem_cons_self ..)
    have h2 := prodC_le (l := l) fun q hq => h q (List.mem_cons_of_mem _ hq)
    show (p.2 * prodC l).natAbs ≤ 65536 ^ (l.length + 1)
    rw [Int.natAbs_mul, Nat.pow_succ, Nat.mul_comm]
    exact Nat.mul_le_mul h2 (by omega)
theorem prodC_big {l : List (Int × Int)} (h : CntOk l) (hl : l.length ≤ 100) : (prodC l).natAbs < 2 ^ 8000 := by
  refine Nat.lt_of_le_of_lt (prodC_le h) ?_
  have e : (65536 : Nat) = 2 ^ 16 := by decide
  rw [e, ← Nat.pow_mul]
  exact Nat.pow_lt_pow_right (by decide) (by omega)
def folR : List (Int × Int) → Option (List Int)
  | [] => none
  | (r, c) :: l => if r + 1 < c then some ((l.reverse.map (·.1)) ++ [r + 1]) else folR l
def foll (tk : List (Int × Int)) : Option (List Int) := folR tk.reverse
theorem foll_snoc (l : List (Int × Int)) (r c : Int) : foll (l ++ [(r, c)]) = if r + 1 < c then some (l.map (·.1) ++ [r + 1]) else foll l := by
  unfold foll
  rw [List.reverse_append]
  show folR ((r, c) :: l.reverse) = _
  rw [folR, List.reverse_reverse]
theorem cut_to {xs : List V} {m : Nat} (h : m ≤ xs.length) : cutV xs none (some (m : Int)) = xs.take m := by
  unfold cutV
  rw [HT.sIx_nat, HT.sIx_none, List.drop_zero, Nat.sub_zero, Nat.min_eq_left h]
def sp_following (C : Addr) : Sp := fun vs H Q _ => ∃ (x rx tx : Addr) (rs : List Int) (tk : List (Int × Int)), vs = [.ref x] ∧ tk.length ≤ 1000 ∧ TapeAt C H x rx tx rs tk ∧
  ((foll tk = none → Q .non H) ∧ ∀ ys l H', foll tk = some ys → H l = none → H' l = some (.lst (ys.map V.int)) → Keep [] H H' → Q (.ref l) H')
def sp_chance (C CR : Addr) : Sp := fun vs H Q _ => ∃ (x rx tx : Addr) (rs : List Int) (tk : List (Int × Int)), vs = [.ref x] ∧ tk.length ≤ 100 ∧ CntOk tk ∧ TapeAt C H x rx tx rs tk ∧
  ∀ r H', Keep [] H H' → RatAt CR H' r (redN 1 (prodC tk)) (redD 1 (prodC tk)) → Q (.ref r) H'
section
variable {P : Program} {w : World} {K : PySem.W.Frag} {mg : Str → Option Value} {base : Heap} {C_Ratio : Addr} {C_Tape : Addr} {C_Thinker : Addr} {C_Brain : Addr} {C_GameError : Addr} {C_TooLarge : Addr} {f_TooLarge___init : Addr} {T_EVENTS : Addr}
theorem ok_tape_chance {f : Addr} {fd : FuncData} (me : Meth K C_Tape "chance" f) (F : C8.Fun K "chance" "Tape.chance" s_Tape_chance f fd) (b : Binds K fd ["self"] []) (T : Txt K mg C_Ratio C_Tape C_Thinker C_Brain C_GameError C_TooLarge T_EVENTS) (c_Ratio : C8.Mak P w K mg base 1 "Ratio" C_Ratio (sp_rat C_Ratio) []) :
    C8.Met P w K mg base 3 C_Tape "chance" (sp_chance C_Tape C_Ratio) [] := by
  refine met0 T.cl_Tape me F b sc_Tape_chance (fun vs H Q E h => ?_) (fun cdv A outer s H vs Q E hr h => ?_)
  · obtain ⟨x, rx, tx, rs, tk, rfl, _⟩ := h
    rfl
  · obtain ⟨x, rx, tx, rs, tk, rfl, hl, hc, ⟨⟨dx, ho⟩, hr1, ⟨xs, ht, pl⟩, hne⟩, k⟩ := h
    refine ⟨_, (pss_cons (ps_set (i := 1) sc_Tape_chance.nd rfl (by first | exact Or.inl rfl | exact Or.inr rfl) pe_int)
(pss_cons (ps_for PassesOwn.never rfl (pi_list (pe_fld (pv 0) rfl)) (pg_tup (by rfl) (pgs_cons (pg_name (i := 2) sc_Tape_chance.nd rfl (by first | exact Or.inl rfl | exact Or.inr rfl)) (pgs_cons (pg_name (i := 3) sc_Tape_chance.nd rfl (by first | exact Or.inl rfl | exact Or.inr rfl)) pgs_nil)))
  (pss_one (ps_set (i := 1) sc_Tape_chance.nd rfl (by first | exact Or.inl rfl | exact Or.inr rfl) (pe_op op_mul (pv 1) (pv 3)))))
(pss_one (ps_ret (pe_mk c_Ratio hr (by first | exact Nat.le_refl _ | decide | omega) rfl (pa_cons pe_int (pa_cons (pv 1) pa_nil))))))), ?_⟩
    refine ⟨_, rfl, x, C_Tape, dx, _, _, rfl, ho, T.cl_Tape, T.a_Tape_taken, rfl, tx, rfl, ⟨_, SqL.of ht⟩, for_list (K := K) (a := tx) (xs := xs) (fun i σ H' => H' = H ∧ ∃ o2 o3 : Option V, σ = [some (.ref x), some (.int (prodC (tk.take i))), o2, o3]) ⟨rfl, none, none, rfl⟩ (fun i σ H' _ ⟨h, _⟩ => by rw [h]; exact SqL.of ht) ?_ ?_⟩
    · rintro i v σ H' hi ⟨rfl, o2, o3, rfl⟩
      obtain ⟨t, r, c, rfl, hg, htt⟩ := pl.get hi
      obtain ⟨hlt, he⟩ := List.getElem?_eq_some_iff.mp hg
      have hcc := hc _ (he ▸ List.getElem_mem hlt)
      refine ⟨t, _, rfl, SqT.of htt, rfl, _, _, rfl, _, _, rfl, rfl, ?_⟩
      refine ⟨_, rfl, _, rfl, _, _, rfl, rfl, .inr ⟨by have := hcc.1; omega, by have := hcc.2; omega⟩, ?_⟩
      refine ⟨rfl, some (.int r), some (.int c), ?_⟩
      rw [List.take_succ_eq_append_getElem hlt, he, prodC_snoc]; rfl
    · rintro σ H' ⟨rfl, o2, o3, rfl⟩
      rw [pl.len, List.take_length]
      have hb := prodC_pos hc
      refine ⟨_, rfl, fun r d nr nd hrd => ⟨r, d, 1, prodC tk, rfl, by omega, prodC_big hc hl, upd_same, fun H2 K2 h2 => ⟨rfl, k r H2 (keep_made nr nd K2) ⟨d, h2⟩⟩⟩⟩
theorem ok_tape_following {f : Addr} {fd : FuncData} (me : Meth K C_Tape "following" f) (F : C8.Fun K "following" "Tape.following" s_Tape_following f fd) (b : Binds K fd ["self"] []) (T : Txt K mg C_Ratio C_Tape C_Thinker C_Brain C_GameError C_TooLarge T_EVENTS) : C8.Met P w K mg base 1 C_Tape "following" (sp_following C_Tape) [] := by
  refine met0 T.cl_Tape me F b sc_Tape_following (fun vs H Q E h => ?_) (fun cdv A outer s H vs Q E hr h => ?_)
  · obtain ⟨x, rx, tx, rs, tk, rfl, _⟩ := h
    rfl
  · obtain ⟨x, rx, tx, rs, tk, rfl, hl, ⟨⟨dx, ho⟩, hr1, ⟨xs, ht, pl⟩, hne⟩, k⟩ := h
    refine ⟨_, (pss_cons (ps_for PassesOwn.never rfl (pi_range3 (by rfl) T.n_range (pa_cons (pe_op op_sub (pe_callB call_len_seq (by rfl) T.n_len bo_len (pa_cons (pe_fld (pv 0) rfl) pa_nil)) pe_int) (pa_cons (pe_un un_neg pe_int) (pa_cons (pe_un un_neg pe_int) pa_nil)))) (pg_name (i := 1) sc_Tape_following.nd rfl (by first | exact Or.inl rfl | exact Or.inr rfl))
  (pss_cons (ps_asg (pe_ix ix_list (pe_fld (pv 0) rfl) (pv 1) (fun _ _ => rfl)) (pg_tup (by rfl) (pgs_cons (pg_name (i := 2) sc_Tape_following.nd rfl (by first | exact Or.inl rfl | exact Or.inr rfl)) (pgs_cons (pg_name (i := 3) sc_Tape_following.nd rfl (by first | exact Or.inl rfl | exact Or.inr rfl)) pgs_nil))))
  (pss_one (ps_if (pt_cmpR op_lt (pe_op op_add (pv 2) pe_int) (pv 3) (nomark _))
    (pss_one (ps_ret (pe_op op_cat (pe_lc (own := [("row", 4)]) (g := gName 4) (tt := tYes) rfl sc_Tape_following.nd (pi_list (pe_slice sl_list (pe_fld (pv 0) rfl) po_none (po_some (pv 1)))) (blkOk_by (N := ["self", "at", "result", "count", "row"]) (sc := fnScope s_Tape_following) (by decide +kernel)) (fun _ _ _ _ _ => pg_name (i := 4) sc_Tape_following.nd rfl (Or.inl rfl)) (fun _ _ _ _ _ => pts_nil) (fun _ _ _ _ _ => (pe_ix (ix_tupK (K := K)) (pv 4) pe_int (fun _ _ => rfl)))) (pe_lst (pa_cons (pe_op op_add (pv 2) pe_int) pa_nil)))))
    pss_nil))))
(pss_one (ps_ret pe_non))), ?_⟩
    have hlen := pl.len
    refine ⟨_, rfl, x, C_Tape, dx, _, _, rfl, ho, T.cl_Tape, T.a_Tape_taken, rfl, _, _, rfl, .inl (SqL.of ht), _, _, rfl, rfl, _, rfl, _, rfl, _, _, _, _, rfl, RgC.neg (by omega) (by omega) (by decide) (by decide), ?_⟩
    have en : ((xs.length : Int) - 1 - -1).toNat = tk.length := by omega
    refine for_rangeC (lo := (xs.length : Int) - 1) (c := -1) (n := ((xs.length : Int) - 1 - -1).toNat) (fun i σ H' => H' = H ∧ (∃ o1 o2 o3 : Option V, σ = [some (.ref x), o1, o2, o3, none]) ∧ foll tk = foll (tk.take (tk.length - i))) ⟨rfl, ⟨none, none, none, rfl⟩, by rw [Nat.sub_zero, List.take_length]⟩ ?_ ?_
    · rintro i σ H' hi ⟨rfl, ⟨o1, o2, o3, rfl⟩, hf⟩
      rw [en] at hi
      obtain ⟨m, hm⟩ : ∃ m : Nat, m + 1 + i = tk.length := ⟨tk.length - 1 - i, by omega⟩
      have hmi : m < tk.length := by omega
      obtain ⟨v, hv⟩ : ∃ v, xs[m]? = some v := ⟨xs[m]'(by omega), List.getElem?_eq_getElem (by omega)⟩
      obtain ⟨t, r, c, rfl, hg, htt⟩ := pl.get hv
      have eat : (xs.length : Int) - 1 + ((i : Nat) : Int) * -1 = (m : Int) := by omega
      rw [eat]
      have et : tk.length - i = m + 1 := by omega
      have et2 : tk.length - (i + 1) = m := by omega
      have hsn : tk.take (m + 1) = tk.take m ++ [(r, c)] := by rw [List.take_succ_eq_append_getElem hmi, (List.getElem?_eq_some_iff.mp hg).2]
      rw [et, hsn, foll_snoc] at hf
      refine ⟨_, rfl, x, C_Tape, dx, _, _, rfl, ho, T.cl_Tape, T.a_Tape_taken, rfl, _, rfl, _, _, _, _, rfl, rfl, SqL.of ht, atI_nat hv, t, _, rfl, SqT.of htt, rfl, _, _, rfl, _, _, rfl, rfl, ?_⟩
      refine ⟨_, rfl, _, _, rfl, rfl, _, rfl, _, _, rfl, rfl, _, rfl, iteD (fun h => ?_) (fun h => ⟨rfl, ⟨_, _, _, rfl⟩, ?_⟩)⟩
      · rw [if_pos h] at hf
        refine ⟨_, rfl, x, C_Tape, dx, _, _, rfl, ho, T.cl_Tape, T.a_Tape_taken, rfl, _, rfl, _, rfl, tx, _, rfl, SqL.of ht, fun sl nsl => ?_⟩
        rw [cut_to (show m ≤ xs.length by omega)]
        have k1 : Keep [] H' (upd H' sl (.lst (xs.take m))) := Keep.new nsl
        refine ⟨sl, rfl, ⟨_, SqL.of upd_same⟩, fun L hL => ?_⟩
        refine lc_list (K := K) (a := sl) (xs := xs.take m) (fun i H2 => H2 L = some (.lst ((tk.take i).map fun p => V.int p.1)) ∧ Keep [] (upd H' sl (.lst (xs.take m))) H2)
          ⟨upd_same, Keep.new hL⟩ (fun i H2 _ ⟨_, kk⟩ => SqL.of (kk _ _ upd_same (by simp))) ?_ ?_
        · rintro i v H2 hi2 ⟨hD, kk⟩
          have him : i < m := by
            have := (List.getElem?_eq_some_iff.mp hi2).1
            rw [List.length_take] at this
            omega
          rw [List.getElem?_take_of_lt him] at hi2
          obtain ⟨t2, r2, c2, rfl, hg2, ht2⟩ := pl.get hi2
          obtain ⟨hlt2, he2⟩ := List.getElem?_eq_some_iff.mp hg2
          refine ⟨rfl, yes_then ⟨_, rfl, _, _, _, _, rfl, rfl, SqT.of ((k1.trans kk) _ _ ht2 (by simp)), rfl, _, hD, by rw [List.length_map, List.length_take]; exact smallL (by omega), ?_, kk.then_own hL⟩⟩
          rw [List.take_succ_eq_append_getElem hlt2, he2, List.map_append]; exact upd_same
        · rintro H2 ⟨hD, kk⟩
          rw [List.length_take, Nat.min_eq_left (by omega)] at hD
          refine ⟨_, rfl, _, _, rfl, rfl, by show 1 ≤ sizeLine; decide, fun l2 nl2 => ⟨_, _, _, _, rfl, rfl, Keep.new (W := []) nl2 _ _ hD (by simp), upd_same, ?_, fun M hM => ?_⟩⟩
          · rw [List.length_map, List.length_take]; exact smallM (by simp; omega)
          · have kA := ((k1.trans kk).then_new (o := .lst [.int (r + 1)]) nl2)
            refine k.2 _ M _ hf (kA.free hM) ?_ (kA.then_new hM)
            rw [List.map_append, List.map_map]; exact upd_same
      · rw [if_neg h] at hf
        rw [et2]; exact hf
    · rintro σ H' ⟨rfl, ⟨o1, o2, o3, rfl⟩, hf⟩
      rw [en, Nat.sub_self, List.take_zero] at hf
      have := k.1 hf
      exact this
end

/-! what a run takes from its tape -/
theorem nextR_getD (rs : List Int) (tk : List (Int × Int)) (c : Int) : nextR rs tk c = rs.getD tk.length 0 % c := by
  unfold nextR
  split
  · rfl
  · rw [List.getD_eq_getElem?_getD, List.getElem?_eq_none (by omega)]
    simp
theorem loopM_inv {ns : List Str} {Pr : List (Int × Int) → Prop} {test : MS → Bool} {f : MS → Bool × MS} (hm : ∀ s, MOk ns s → Mv ns 0 s (f s).2) (hf : ∀ s, MOk ns s → Pr s.tk → Pr (f s).2.tk) : ∀ (n : Nat) (s : MS), MOk ns s → Pr s.tk → Pr (loopM test f n s).2.tk
  | 0, _, _, p => p
  | n + 1, s, h, p => by
    have h1 := hm s h
    have p1 := hf s h p
    unfold loopM
    split
    · exact p
    · split
      · exact p1
      · split
        · exact p1
        · rename_i z
          exact loopM_inv hm hf n _ (h1.ok.dec z) p1
section
variable {ns : List Str} {seen rs : List Int} {Pr : List (Int × Int) → Prop}
theorem lotS_inv (hp : ∀ tk c, Pr tk → 0 < c → c < 65536 → Pr (tk ++ [(nextR rs tk c, c)])) (hs : SeenOk seen) {s : MS} (h : MOk ns s) {x : Str} {e : Ex} (he : ExOk ns e) (p : Pr s.tk) : Pr (lotS seen rs s x e).tk := by
  have hv := h.ev hs he
  unfold lotS
  split
  · rename_i q
    exact hp _ _ p q hv.2
  · exact p
mutual
theorem runT_inv (hp : ∀ tk c, Pr tk → 0 < c → c < 65536 → Pr (tk ++ [(nextR rs tk c, c)])) (hs : SeenOk seen) : ∀ (t : Th), t.Ok ns → ∀ s, MOk ns s → Pr s.tk → Pr (runT seen rs t s).2.tk
  | .set x e, ok, s, h, p => p
  | .lot x e, ok, s, h, p => by unfold runT; exact lotS_inv hp hs h ok.2 p
  | .iff t a b, ok, s, h, p => by
    unfold runT
    split
    · exact runB_inv hp hs a ok.2.1 s h p
    · exact runB_inv hp hs b ok.2.2 s h p
  | .whl t b, ok, s, h, p => by
    unfold runT
    exact loopM_inv (fun s h => runB_mv hs b ok.2 s h) (fun s h p => runB_inv hp hs b ok.2 s h p) _ s h p
theorem runB_inv (hp : ∀ tk c, Pr tk → 0 < c → c < 65536 → Pr (tk ++ [(nextR rs tk c, c)])) (hs : SeenOk seen) : ∀ (b : Bl), b.Ok ns → ∀ s, MOk ns s → Pr s.tk → Pr (runB seen rs b s).2.tk
  | .nil, _, s, h, p => by unfold runB; exact p
  | .cons t b, ok, s, h, p => by
    unfold runB
    split
    · exact p
    · rename_i z
      have h1 := h.dec z
      have p2 := runT_inv hp hs t ok.1 { s with left := s.left - 1 } h1 p
      have h2 := runT_mv (rs := rs) hs t ok.1 _ h1
      split
      · exact p2
      · exact runB_inv hp hs b ok.2 _ h2.ok p2
end
end
/-- the runs parted at the m-th lot -/
def Dv (m : Nat) (T U : List (Int × Int)) : Prop := ∃ p r q c z y, T = p ++ (r, c) :: z ∧ U = p ++ (q, c) :: y ∧ p.length = m
def Sim (m : Nat) (a b : Bool × MS) : Prop := (a = b ∧ a.2.tk.length ≤ m) ∨ Dv m a.2.tk b.2.tk
def Agr (rs us : List Int) (m : Nat) : Prop := ∀ j, j < m → rs.getD j 0 = us.getD j 0
theorem dv_inv {m : Nat} {T : List (Int × Int)} {rs : List Int} : ∀ tk c, Dv m T tk → 0 < c → c < 65536 → Dv m T (tk ++ [(nextR rs tk c, c)]) := by
  rintro tk c ⟨p, r, q, d, z, y, h1, h2, h3⟩ _ _
  exact ⟨p, r, q, d, z, y ++ [_], h1, by rw [h2, List.append_assoc]; rfl, h3⟩
theorem dv_inv2 {m : Nat} {U : List (Int × Int)} {rs : List Int} : ∀ tk c, Dv m tk U → 0 < c → c < 65536 → Dv m (tk ++ [(nextR rs tk c, c)]) U := by
  rintro tk c ⟨p, r, q, d, z, y, h1, h2, h3⟩ _ _
  exact ⟨p, r, q, d, z ++ [_], y, by rw [h1, List.append_assoc]; rfl, h2, h3⟩
theorem loopM_sim {ns : List Str} {m : Nat} {test : MS → Bool} {f g : MS → Bool × MS} (mf : ∀ s, MOk ns s → Mv ns 0 s (f s).2) (mg : ∀ s, MOk ns s → Mv ns 0 s (g s).2) (hf : ∀ U s, MOk ns s → Dv m s.tk U → Dv m (f s).2.tk U) (hg : ∀ T s, MOk ns s → Dv m T s.tk → Dv m T (g s).2.tk)
    (hs : ∀ s, MOk ns s → s.tk.length ≤ m → Sim m (f s) (g s)) : ∀ (n : Nat) (s : MS), MOk ns s → s.tk.length ≤ m → Sim m (loopM test f n s) (loopM test g n s)
  | 0, s, _, hl => .inl ⟨rfl, hl⟩
  | n + 1, s, h, hl => by
    have m1 := mf s h
    have m2 := mg s h
    rcases hs s h hl with ⟨e, l⟩ | d
    · unfold loopM
      rw [← e]
      split
      · exact .inl ⟨rfl, hl⟩
      · split
        · exact .inl ⟨rfl, l⟩
        · split
          · exact .inl ⟨rfl, l⟩
          · rename_i z
            exact loopM_sim mf mg hf hg hs n _ (m1.ok.dec z) l
    · by_cases ht : test s = false
      · unfold loopM
        rw [if_pos ht, if_pos ht]
        exact .inl ⟨rfl, hl⟩
      · have d1 : ∀ U, Dv m (f s).2.tk U → Dv m (loopM test f (n + 1) s).2.tk U := fun U du => by
          unfold loopM
          rw [if_neg ht]
          split
          · exact du
          · split
            · exact du
            · rename_i z
              exact loopM_inv (Pr := fun x => Dv m x U) mf (fun s h p => hf U s h p) n _ (m1.ok.dec z) du
        have d2 : ∀ T, Dv m T (g s).2.tk → Dv m T (loopM test g (n + 1) s).2.tk := fun T du => by
          unfold loopM
          rw [if_neg ht]
          split
          · exact du
          · split
            · exact du
            · rename_i z
              exact loopM_inv (Pr := fun x => Dv m T x) mg (fun s h p => hg T s h p) n _ (m2.ok.dec z) du
        exact .inr (d2 _ (d1 _ d))
section
variable {ns : List Str} {seen rs us : List Int} {m : Nat}
theorem lotS_sim (ha : Agr rs us m) (s : MS) (x : Str) (e : Ex) (hl : s.tk.length ≤ m) : Sim m (true, lotS seen rs s x e) (true, lotS seen us s x e) := by
  unfold lotS
  split
  · by_cases q : s.tk.length < m
    · have e1 : nextR rs s.tk (s.ev seen e) = nextR us s.tk (s.ev seen e) := by rw [nextR_getD, nextR_getD, ha _ q]
      rw [e1]
      refine .inl ⟨rfl, ?_⟩
      show (s.tk ++ [_]).length ≤ m
      rw [List.length_append]
      exact q
    · exact .inr ⟨s.tk, _, _, _, [], [], rfl, rfl, by omega⟩
  · exact .inl ⟨rfl, hl⟩
mutual
theorem runT_sim (ha : Agr rs us m) (hs : SeenOk seen) : ∀ (t : Th), t.Ok ns → ∀ s, MOk ns s → s.tk.length ≤ m → Sim m (runT seen rs t s) (runT seen us t s)
  | .set x e, ok, s, h, hl => .inl ⟨rfl, hl⟩
  | .lot x e, ok, s, h, hl => by unfold runT; exact lotS_sim ha s x e hl
  | .iff t a b, ok, s, h, hl => by
    unfold runT
    split
    · exact runB_sim ha hs a ok.2.1 s h hl
    · exact runB_sim ha hs b ok.2.2 s h hl
  | .whl t b, ok, s, h, hl => by
    unfold runT
    exact loopM_sim (fun s h => runB_mv hs b ok.2 s h) (fun s h => runB_mv hs b ok.2 s h) (fun U s h d => runB_inv (Pr := fun x => Dv m x U) dv_inv2 hs b ok.2 s h d) (fun T s h d => runB_inv (Pr := fun x => Dv m T x) dv_inv hs b ok.2 s h d) (fun s h hl => runB_sim ha hs b ok.2 s h hl) _ s h hl
theorem runB_sim (ha : Agr rs us m) (hs : SeenOk seen) : ∀ (b : Bl), b.Ok ns → ∀ s, MOk ns s → s.tk.length ≤ m → Sim m (runB seen rs b s) (runB seen us b s)
  | .nil, _, s, h, hl => by unfold runB; exact .inl ⟨rfl, hl⟩
  | .cons t b, ok, s, h, hl => by
    by_cases z : s.left = 0
    · unfold runB
      rw [if_pos z, if_pos z]
      exact .inl ⟨rfl, hl⟩
    · have h1 := h.dec z
      have m1 := runT_mv (rs := rs) hs t ok.1 _ h1
      have m2 := runT_mv (rs := us) hs t ok.1 _ h1
      have e1 : runB seen rs (.cons t b) s = if (runT seen rs t { s with left := s.left - 1 }).1 = false then runT seen rs t { s with left := s.left - 1 } else runB seen rs b (runT seen rs t { s with left := s.left - 1 }).2 := by
        conv => lhs; unfold runB
        rw [if_neg z]
      have e2 : runB seen us (.cons t b) s = if (runT seen us t { s with left := s.left - 1 }).1 = false then runT seen us t { s with left := s.left - 1 } else runB seen us b (runT seen us t { s with left := s.left - 1 }).2 := by
        conv => lhs; unfold runB
        rw [if_neg z]
      rcases runT_sim ha hs t ok.1 { s with left := s.left - 1 } h1 hl with ⟨e, l⟩ | d
      · rw [e1, e2, ← e]
        split
        · exact .inl ⟨rfl, l⟩
        · exact runB_sim ha hs b ok.2 _ m1.ok l
      · have d1 : ∀ U, Dv m (runT seen rs t { s with left := s.left - 1 }).2.tk U → Dv m (runB seen rs (.cons t b) s).2.tk U := fun U du => by
          rw [e1]
          split
          · exact du
          · exact runB_inv (Pr := fun x => Dv m x U) dv_inv2 hs b ok.2 _ m1.ok du
        have d2 : ∀ T, Dv m T (runT seen us t { s with left := s.left - 1 }).2.tk → Dv m T (runB seen us (.cons t b) s).2.tk := fun T du => by
          rw [e2]
          split
          · exact du
          · exact runB_inv (Pr := fun x => Dv m T x) dv_inv hs b ok.2 _ m2.ok du
        exact .inr (d2 _ (d1 _ d))
end
end
/-- every result is the supply's, cut to its lot -/
def Ent (rs : List Int) (tk : List (Int × Int)) : Prop := ∀ i r c, tk[i]? = some (r, c) → r = rs.getD i 0 % c ∧ 0 < c ∧ c < 65536
theorem ent_inv {rs : List Int} : ∀ tk c, Ent rs tk → 0 < c → c < 65536 → Ent rs (tk ++ [(nextR rs tk c, c)]) := by
  intro tk c h c0 c1 i r d hi
  by_cases q : i < tk.length
  · rw [List.getElem?_append_left q] at hi
    exact h i r d hi
  · rw [List.getElem?_append_right (by omega)] at hi
    have e : i - tk.length = 0 := by
      have := (List.getElem?_eq_some_iff.mp hi).1
      simp at this
      omega
    rw [e] at hi
    simp at hi
    obtain ⟨rfl, rfl⟩ := hi
    rw [nextR_getD, show tk.length = i by omega]
    exact ⟨rfl, c0, c1⟩

/-! the ways in ascending order, and what their chances add up to -/
def numT : List (Int × Int) → Int
  | [] => 0
  | p :: l => p.1 * prodC l + numT l
def Rng (tk : List (Int × Int)) : Prop := ∀ p ∈ tk, 0 ≤ p.1 ∧ p.1 < p.2
theorem prodC_app : ∀ x y : List (Int × Int), prodC (x ++ y) = prodC x * prodC y
  | [], y => by show prodC y = 1 * prodC y; rw [Int.one_mul]
  | p :: x, y => by show p.2 * prodC (x ++ y) = p.2 * prodC x * prodC y; rw [prodC_app x y, Int.mul_assoc]
theorem numT_app : ∀ x y : List (Int × Int), numT (x ++ y) = numT x * prodC y + numT y
  | [], y => by show numT y = 0 * prodC y + numT y; rw [Int.zero_mul, Int.zero_add]
  | p :: x, y => by
    show p.1 * prodC (x ++ y) + numT (x ++ y) = (p.1 * prodC x + numT x) * prodC y + numT y
    rw [prodC_app x y, numT_app x y, Int.add_mul, Int.mul_assoc, Int.add_assoc]
theorem numT_full : ∀ {q : List (Int × Int)}, (∀ p ∈ q, p.1 + 1 = p.2) → numT q + 1 = prodC q
  | [], _ => rfl
  | p :: q, h => by
    have h1 := h p (List.mem_cons_self ..)
    have h2 := numT_full (q := q) fun x hx => h x (List.mem_cons_of_mem _ hx)
    show p.1 * prodC q + numT q + 1 = p.2 * prodC q
    rw [← h1, Int.add_mul, Int.one_mul]
    omega
theorem numT_zero : ∀ {q : List (Int × Int)}, (∀ p ∈ q, p.1 = 0) → numT q = 0
  | [], _ => rfl
  | p :: q, h => by
    have h1 := h p (List.mem_cons_self ..)
    have h2 := numT_zero (q := q) fun x hx => h x (List.mem_cons_of_mem _ hx)
    show p.1 * prodC q + numT q = 0
    rw [h1, h2, Int.zero_mul]; rfl
theorem numT_lt : ∀ {q : List (Int × Int)}, Rng q → 0 < prodC q ∧ 0 ≤ numT q ∧ numT q + 1 ≤ prodC q
  | [], _ => by decide
  | p :: q, h => by
    have h1 := h p (List.mem_cons_self ..)
    have ⟨h2, h3, h4⟩ := numT_lt (q := q) fun x hx => h x (List.mem_cons_of_mem _ hx)
    have e1 : prodC (p :: q) = p.2 * prodC q := rfl
    have e2 : numT (p :: q) = p.1 * prodC q + numT q := rfl
    rw [e1, e2]
    refine ⟨Int.mul_pos (by omega) h2, ?_, ?_⟩
    · have := Int.mul_nonneg h1.1 (Int.le_of_lt h2); omega
    · have : (p.1 + 1) * prodC q ≤ p.2 * prodC q := Int.mul_le_mul_of_nonneg_right (by omega) (Int.le_of_lt h2)
      rw [Int.add_mul, Int.one_mul] at this
      omega
theorem folR_none : ∀ {l : List (Int × Int)}, Rng l → folR l = none → ∀ p ∈ l, p.1 + 1 = p.2
  | [], _, _, p, hp => by cases hp
  | (r, c) :: l, hR, h, p, hp => by
    unfold folR at h
    split at h
    · cases h
    · rename_i q
      have h1 := hR (r, c) (List.mem_cons_self ..)
      rcases List.mem_cons.mp hp with rfl | hp
      · show r + 1 = c
        have : r < c := h1.2
        omega
      · exact folR_none (fun x hx => hR x (List.mem_cons_of_mem _ hx)) h p hp
theorem folR_some : ∀ {l : List (Int × Int)} {ys : List Int}, Rng l → folR l = some ys → ∃ q r c p, l = q ++ (r, c) :: p ∧ r + 1 < c ∧ (∀ x ∈ q, x.1 + 1 = x.2) ∧ ys = p.reverse.map (·.1) ++ [r + 1]
  | [], _, _, h => by cases h
  | (r, c) :: l, ys, hR, h => by
    unfold folR at h
    split at h
    · rename_i q
      cases h
      exact ⟨[], r, c, l, rfl, q, (fun x hx => by cases hx), rfl⟩
    · rename_i q
      have h1 := hR (r, c) (List.mem_cons_self ..)
      have h2 : r < c := h1.2
      obtain ⟨q', r', c', p', e1, e2, e3, e4⟩ := folR_some (fun x hx => hR x (List.mem_cons_of_mem _ hx)) h
      refine ⟨(r, c) :: q', r', c', p', by rw [e1]; rfl, e2, fun x hx => ?_, e4⟩
      rcases List.mem_cons.mp hx with rfl | hx
      · show r + 1 = c; omega
      · exact e3 x hx
theorem foll_none {tk : List (Int × Int)} (hR : Rng tk) (h : foll tk = none) : ∀ p ∈ tk, p.1 + 1 = p.2 := fun p hp =>
  folR_none (fun x hx => hR x (List.mem_reverse.mp hx)) h p (List.mem_reverse.mpr hp)
theorem foll_some {tk : List (Int × Int)} {ys : List Int} (hR : Rng tk) (h : foll tk = some ys) : ∃ p r c q, tk = p ++ (r, c) :: q ∧ r + 1 < c ∧ (∀ x ∈ q, x.1 + 1 = x.2) ∧ ys = p.map (·.1) ++ [r + 1] := by
  obtain ⟨q, r, c, p, e1, e2, e3, e4⟩ := folR_some (fun x hx => hR x (List.mem_reverse.mp hx)) h
  refine ⟨p.reverse, r, c, q.reverse, ?_, e2, fun x hx => e3 x (List.mem_reverse.mp hx), e4⟩
  rw [← List.reverse_reverse tk, e1]
  simp
theorem Ent.rng {rs : List Int} {tk : List (Int × Int)} (h : Ent rs tk) : Rng tk := fun p hp => by
  obtain ⟨i, hi, e⟩ := List.getElem_of_mem hp
  have h1 := h i p.1 p.2 (by rw [List.getElem?_eq_getElem hi, e])
  rw [h1.1]
  exact ⟨Int.emod_nonneg _ (by omega), Int.emod_lt_of_pos _ h1.2.1⟩
theorem Ent.cnt {rs : List Int} {tk : List (Int × Int)} (h : Ent rs tk) : CntOk tk := fun p hp => by
  obtain ⟨i, hi, e⟩ := List.getElem_of_mem hp
  exact (h i p.1 p.2 (by rw [List.getElem?_eq_getElem hi, e])).2
/-- the supply is what was taken -/
def Can (rs : List Int) (tk : List (Int × Int)) : Prop := ∀ i r c, tk[i]? = some (r, c) → r = rs.getD i 0
theorem can_nil {tk : List (Int × Int)} (h : Ent [] tk) : Can [] tk := fun i r c hi => by
  have := (h i r c hi).1
  simpa using this
theorem can_step {rs us : List Int} {T U : List (Int × Int)} {p q : List (Int × Int)} {r c : Int} (hR : Ent rs T) (hC : Can rs T) (eT : T = p ++ (r, c) :: q) (hr : r + 1 < c) (hq : ∀ x ∈ q, x.1 + 1 = x.2) (eu : us = p.map (·.1) ++ [r + 1]) (hU : Ent us U)
    (hS : Agr rs us p.length → Dv p.length T U) : numT U * prodC T = (numT T + 1) * prodC U ∧ Can us U := by
  have gp : ∀ j, j < p.length → us.getD j 0 = (p.map (·.1)).getD j 0 := fun j hj => by
    rw [eu, List.getD_eq_getElem?_getD, List.getElem?_append_left (by rw [List.length_map]; exact hj), ← List.getD_eq_getElem?_getD]
  have ha : Agr rs us p.length := fun j hj => by
    have h1 : T[j]? = some p[j] := by rw [eT, List.getElem?_append_left hj, List.getElem?_eq_getElem hj]
    have h2 := hC j p[j].1 p[j].2 h1
    rw [gp j hj, ← h2, List.getD_eq_getElem?_getD, List.getElem?_map, List.getElem?_eq_getElem hj]; rfl
  obtain ⟨p', r', s, c', z, y, e1, e2, e3⟩ := hS ha
  rw [eT] at e1
  have ei := List.append_inj e1 e3.symm
  obtain ⟨rfl, e4⟩ := ei
  cases e4
  have hr0 : 0 ≤ r ∧ r < c := hR.rng (r, c) (by rw [eT]; simp)
  have hum : us.getD p.length 0 = r + 1 := by
    rw [eu, List.getD_eq_getElem?_getD, List.getElem?_append_right (by rw [List.length_map]; exact Nat.le_refl _), List.length_map, Nat.sub_self]; rfl
  have hub : ∀ j, p.length < j → us.getD j 0 = 0 := fun j hj => by
    rw [eu, List.getD_eq_getElem?_getD, List.getElem?_eq_none (by rw [List.length_append, List.length_map]; exact hj)]; rfl
  have hs : s = r + 1 := by
    have := (hU p.length s c (by rw [e2, List.getElem?_append_right (Nat.le_refl _), Nat.sub_self]; rfl)).1
    rw [this, hum]
    exact Int.emod_eq_of_lt (by omega) hr
  have hy : ∀ x ∈ y, x.1 = 0 := fun x hx => by
    obtain ⟨i, hi, e⟩ := List.getElem_of_mem hx
    have := (hU (p.length + (i + 1)) x.1 x.2 (by rw [e2, List.getElem?_append_right (by omega), show p.length + (i + 1) - p.length = i + 1 by omega, List.getElem?_cons_succ, List.getElem?_eq_getElem hi, e])).1
    rw [this, hub _ (by omega), Int.zero_emod]
  refine ⟨?_, fun i a b hi => ?_⟩
  · have f1 : numT U = (numT p * c + (r + 1)) * prodC y := by
      rw [e2, numT_app]
      show numT p * (c * prodC y) + (s * prodC y + numT y) = _
      rw [numT_zero hy, hs, Int.add_zero, Int.add_mul (numT p * c), Int.mul_assoc]
    have f2 : numT T + 1 = (numT p * c + (r + 1)) * prodC q := by
      rw [eT, numT_app]
      show numT p * (c * prodC q) + (r * prodC q + numT q) + 1 = _
      have := numT_full hq
      rw [Int.add_mul (numT p * c), Int.add_mul r, Int.one_mul, Int.mul_assoc]
      omega
    have f3 : prodC U = prodC p * (c * prodC y) := by rw [e2, prodC_app]; rfl
    have f4 : prodC T = prodC p * (c * prodC q) := by rw [eT, prodC_app]; rfl
    rw [f1, f2, f3, f4]
    ac_rfl
  · rcases Nat.lt_trichotomy i p.length with h | h | h
    · rw [e2, List.getElem?_append_left h, List.getElem?_eq_getElem h] at hi
      rw [gp i h, List.getD_eq_getElem?_getD, List.getElem?_map, List.getElem?_eq_getElem h, Option.some.inj hi]; rfl
    · subst h
      rw [e2, List.getElem?_append_right (Nat.le_refl _), Nat.sub_self] at hi
      cases hi
      rw [hum, hs]
    · rw [e2, List.getElem?_append_right (by omega)] at hi
      obtain ⟨k, hk⟩ : ∃ k, i = p.length + (k + 1) := ⟨i - p.length - 1, by omega⟩
      rw [hk, show p.length + (k + 1) - p.length = k + 1 by omega, List.getElem?_cons_succ] at hi
      have e : a = 0 := hy (a, b) (List.mem_of_getElem? hi)
      rw [hub i h, e]
abbrev Row := Int × List Int × List (Int × Int)
def enumR (F : List Int → Row) : Nat → List Int → Option (List Row)
  | 0, _ => none
  | k + 1, rs => match foll (F rs).2.2 with
    | none => some [F rs]
    | some us => (enumR F k us).map (F rs :: ·)
def Chn : List Row → Prop
  | [] => False
  | [a] => numT a.2.2 + 1 = prodC a.2.2
  | a :: b :: l => numT b.2.2 * prodC a.2.2 = (numT a.2.2 + 1) * prodC b.2.2 ∧ Chn (b :: l)
structure Run (F : List Int → Row) (n m : Nat) : Prop where
  e : ∀ rs, Ent rs (F rs).2.2
  s : ∀ rs us k, Agr rs us k → k < (F rs).2.2.length → Dv k (F rs).2.2 (F us).2.2
  l : ∀ rs, (F rs).2.2.length ≤ n
  c : ∀ rs, (F rs).2.1.length = m
def RowsOk (n m : Nat) (R : List Row) : Prop := ∀ a ∈ R, Rng a.2.2 ∧ CntOk a.2.2 ∧ a.2.2.length ≤ n ∧ a.2.1.length = m
theorem enum_chn {F : List Int → Row} {n m : Nat} (h : Run F n m) : ∀ (k : Nat) (rs : List Int) (R : List Row), Can rs (F rs).2.2 → enumR F k rs = some R → (∃ l, R = F rs :: l) ∧ Chn R ∧ RowsOk n m R ∧ R.length ≤ k
  | 0, _, _, _, e => by cases e
  | k + 1, rs, R, hc, e => by
    have r0 : Rng (F rs).2.2 ∧ CntOk (F rs).2.2 ∧ (F rs).2.2.length ≤ n ∧ (F rs).2.1.length = m := ⟨(h.e rs).rng, (h.e rs).cnt, h.l rs, h.c rs⟩
    unfold enumR at e
    cases hf : foll (F rs).2.2 with
    | none =>
      rw [hf] at e
      cases e
      exact ⟨⟨[], rfl⟩, numT_full (foll_none r0.1 hf), (fun a ha => by rw [List.mem_singleton] at ha; subst ha; exact r0), Nat.succ_le_succ (Nat.zero_le _)⟩
    | some us =>
      rw [hf] at e
      obtain ⟨R', e1, e2⟩ := Option.map_eq_some_iff.mp e
      obtain ⟨p, r, c, q, g1, g2, g3, g4⟩ := foll_some r0.1 hf
      have st := can_step (U := (F us).2.2) (h.e rs) hc g1 g2 g3 g4 (h.e us) (fun ha => h.s rs us _ ha (by rw [g1]; simp))
      obtain ⟨⟨l, e3⟩, e4, e5, e6⟩ := enum_chn h k us R' st.2 e1
      subst e2
      refine ⟨⟨R', rfl⟩, ?_, fun a ha => ?_, by rw [List.length_cons]; omega⟩
      · rw [e3] at e4 ⊢
        exact ⟨st.1, e4⟩
      · rcases List.mem_cons.mp ha with rfl | ha
        · exact r0
        · exact e5 a ha
/-- the sum of the chances ahead of the rows l -/
structure Frac (l : List Row) (n d : Int) : Prop where
  d0 : 0 < d
  n0 : 0 ≤ n
  g : Nat.gcd n.natAbs d.natAbs = 1
  e : l = [] → n = 1 ∧ d = 1
  c : ∀ a r, l = a :: r → Chn l ∧ n * prodC a.2.2 = d * numT a.2.2
theorem frac0 {F : List Int → Row} {l : List Row} (h : Ent [] (F []).2.2) (hc : Chn (F [] :: l)) : Frac (F [] :: l) 0 1 := by
  refine ⟨by decide, by decide, by decide, (fun h => by cases h), fun a r e => ?_⟩
  cases e
  refine ⟨hc, ?_⟩
  rw [numT_zero, Int.zero_mul, Int.mul_zero]
  intro p hp
  obtain ⟨i, hi, e⟩ := List.getElem_of_mem hp
  have := (h i p.1 p.2 (by rw [List.getElem?_eq_getElem hi, e])).1
  simpa using this
theorem Frac.step {a : Row} {l : List Row} {n d : Int} (h : Frac (a :: l) n d) (hr : Rng a.2.2) (hl : ∀ b r, l = b :: r → 0 < prodC b.2.2) : Frac l (redN (n * prodC a.2.2 + d) (d * prodC a.2.2)) (redD (n * prodC a.2.2 + d) (d * prodC a.2.2)) := by
  obtain ⟨hc, hn⟩ := h.c a l rfl
  obtain ⟨w0, t0, t1⟩ := numT_lt hr
  have hd := h.d0
  have hn0 := h.n0
  have hc1 : l = [] → numT a.2.2 + 1 = prodC a.2.2 := fun e => by subst e; exact hc
  have hc2 : ∀ b r, l = b :: r → numT b.2.2 * prodC a.2.2 = (numT a.2.2 + 1) * prodC b.2.2 ∧ Chn (b :: r) := fun b r e => by subst e; exact hc
  clear h hc
  generalize prodC a.2.2 = w at *
  generalize numT a.2.2 = t at *
  have hdw : 0 < d * w := Int.mul_pos hd w0
  have ne : d * w ≠ 0 := by omega
  have num : n * w + d = d * (t + 1) := by rw [hn, Int.mul_add, Int.mul_one]
  have cr := red_cross (n := n * w + d) ne
  have dp := redD_pos (n := n * w + d) ne
  have gg := red_gcd (n := n * w + d) ne
  generalize redN (n * w + d) (d * w) = N at *
  generalize redD (n * w + d) (d * w) = D at *
  have key : N * w = D * (t + 1) := by
    rw [num] at cr
    have : d * (N * w) = d * (D * (t + 1)) := by
      calc d * (N * w) = N * (d * w) := by ac_rfl
        _ = d * (t + 1) * D := cr
        _ = d * (D * (t + 1)) := by ac_rfl
    exact Int.eq_of_mul_eq_mul_left (by omega) this
  have N0 : 0 ≤ N := by
    have h1 : 0 ≤ D * (t + 1) := Int.mul_nonneg (by omega) (by omega)
    rw [← key] at h1
    rcases Int.lt_or_le N 0 with q | q
    · have := Int.mul_neg_of_neg_of_pos q w0
      omega
    · exact q
  refine ⟨dp, N0, gg, fun e => ?_, fun b r e => ?_⟩
  · have e1 : t + 1 = w := hc1 e
    rw [e1] at key
    have e2 : N = D := Int.eq_of_mul_eq_mul_right (by omega) key
    subst e2
    rw [Nat.gcd_self] at gg
    omega
  · have wb := hl b r e
    obtain ⟨e1, e2⟩ := hc2 b r e
    subst e
    refine ⟨e2, ?_⟩
    have : w * (N * prodC b.2.2) = w * (D * numT b.2.2) := by
      calc w * (N * prodC b.2.2) = N * w * prodC b.2.2 := by ac_rfl
        _ = D * (t + 1) * prodC b.2.2 := by rw [key]
        _ = D * ((t + 1) * prodC b.2.2) := by ac_rfl
        _ = D * (numT b.2.2 * w) := by rw [← e1]
        _ = w * (D * numT b.2.2) := by ac_rfl
    exact Int.eq_of_mul_eq_mul_left (by omega) this
theorem Frac.bd {a : Row} {l : List Row} {n d : Int} (h : Frac (a :: l) n d) (hr : Rng a.2.2) : d ≤ prodC a.2.2 ∧ n ≤ d := by
  obtain ⟨hc, hn⟩ := h.c a l rfl
  obtain ⟨w0, t0, t1⟩ := numT_lt hr
  have hd := h.d0
  have hn0 := h.n0
  have hg := h.g
  generalize prodC a.2.2 = w at *
  generalize numT a.2.2 = t at *
  constructor
  · have h1 : d.natAbs ∣ n.natAbs * w.natAbs := by
      rw [← Int.natAbs_mul, hn, Int.natAbs_mul]
      exact Nat.dvd_mul_right _ _
    have h2 : d.natAbs ∣ w.natAbs := Nat.Coprime.dvd_of_dvd_mul_left (by rw [Nat.coprime_comm]; exact hg) h1
    have := Nat.le_of_dvd (by omega) h2
    omega
  · have h1 : d * t ≤ d * w := Int.mul_le_mul_of_nonneg_left (by omega) (by omega)
    rw [← hn] at h1
    exact Int.le_of_mul_le_mul_right h1 w0
/-! Euclid's way takes few steps -/
theorem euc_step {N D a b i : Nat} (h : b < a) (hb : 0 < b) (hp : a * b * 2 ^ i ≤ N * D) : a % b < b ∧ b * (a % b) * 2 ^ (i + 1) ≤ N * D := by
  refine ⟨Nat.mod_lt _ hb, Nat.le_trans ?_ hp⟩
  have h1 : a % b < b := Nat.mod_lt _ hb
  have h2 : b * (a / b) + a % b = a := Nat.div_add_mod a b
  have h3 : 0 < a / b := Nat.div_pos (by omega) hb
  have h4 : b * 1 ≤ b * (a / b) := Nat.mul_le_mul_left b h3
  have h5 : a % b * 2 ≤ a := by omega
  calc b * (a % b) * 2 ^ (i + 1) = a % b * 2 * (b * 2 ^ i) := by rw [Nat.pow_succ]; ac_rfl
    _ ≤ a * (b * 2 ^ i) := Nat.mul_le_mul_right _ h5
    _ = a * b * 2 ^ i := by ac_rfl
theorem euc_end {N D a b i : Nat} (h : b < a) (hp : a * b * 2 ^ i ≤ N * D) (hN : N * D < 2 ^ i) : b = 0 := by
  rcases Nat.eq_zero_or_pos b with e | e
  · exact e
  · exfalso
    have h1 : 1 ≤ a * b := Nat.mul_pos (by omega) e
    have h2 : 1 * 2 ^ i ≤ a * b * 2 ^ i := Nat.mul_le_mul_right _ h1
    omega

section
variable {P : Program} {w : World} {K : PySem.W.Frag} {mg : Str → Option Value} {base : Heap} {C_Ratio : Addr} {C_Tape : Addr} {C_Thinker : Addr} {C_Brain : Addr} {C_GameError : Addr} {C_TooLarge : Addr} {f_TooLarge___init : Addr} {T_EVENTS : Addr}
theorem ok_view {f : Addr} {fd : FuncData} (D : C8.Def K mg "_law_view" s_law_view f fd) (b : Binds K fd ["pool"] []) (T : Txt K mg C_Ratio C_Tape C_Thinker C_Brain C_GameError C_TooLarge T_EVENTS) (c_law_draw : C8.Cal P w K mg base 1 "_law_draw" sp_law_draw []) (c_law_few : C8.Cal P w K mg base 2 "_law_few" sp_law_few []) (c_law_number : C8.Cal P w K mg base 2 "_law_number" sp_law_number []) : C8.Cal P w K mg base 3 "_law_view" sp_view [] := by
  refine cal0 D b .nil sc_law_view (fun vs H Q E h => ?_) (fun cdv A outer s H vs Q E hr h => ?_)
  · obtain ⟨p, q, ns, rfl, _⟩ := h
    rfl
  · obtain ⟨p, q, ns, rfl, hP, k⟩ := h
    refine ⟨_, (pss_cons (ps_set (i := 1) sc_law_view.nd rfl (by first | exact Or.inl rfl | exact Or.inr rfl) (pe_lst (pa_cons (pe_tup (pa_cons pe_str (pa_cons pe_int pa_nil))) pa_nil)))
(pss_cons (ps_for PassesOwn.never rfl (pi_range1 (by rfl) T.n_range (pa_cons (pe_c c_law_few hr (by first | exact Nat.le_refl _ | decide | omega) rfl (pa_cons (pv 0) (pa_cons pe_int pa_nil))) pa_nil)) (pg_name (i := 2) sc_law_view.nd rfl (by first | exact Or.inl rfl | exact Or.inr rfl))
  (pss_cons (ps_set (i := 3) sc_law_view.nd rfl (by first | exact Or.inl rfl | exact Or.inr rfl) (pe_c c_law_draw hr (by first | exact Nat.le_refl _ | decide | omega) rfl (pa_cons (pv 0) (pa_cons pe_int pa_nil))))
  (pss_one (ps_if (pt_cmpR op_eq (pv 3) pe_int (nomark _))
    (pss_one (ps_expr (pe_bm PySem.F.plainAttrs_list PySem.F.slot_list_append PySem.F.type_list_append mt_append (pv 1) (pa_cons (pe_tup (pa_cons pe_str (pa_cons (pe_c c_law_draw hr (by first | exact Nat.le_refl _ | decide | omega) rfl (pa_cons (pv 0) (pa_cons pe_int pa_nil))) pa_nil))) pa_nil))))
    (pss_one (ps_if (pt_cmpR op_eq (pv 3) pe_int (nomark _))
      (pss_one (ps_expr (pe_bm PySem.F.plainAttrs_list PySem.F.slot_list_append PySem.F.type_list_append mt_append (pv 1) (pa_cons (pe_tup (pa_cons pe_str (pa_cons (pe_c c_law_number hr (by first | exact Nat.le_refl _ | decide | omega) rfl (pa_cons (pv 0) pa_nil)) pa_nil))) pa_nil))))
      (pss_cons (ps_set (i := 4) sc_law_view.nd rfl (by first | exact Or.inl rfl | exact Or.inr rfl) (pe_op op_add pe_int (pe_c c_law_draw hr (by first | exact Nat.le_refl _ | decide | omega) rfl (pa_cons (pv 0) (pa_cons pe_int pa_nil)))))
      (pss_one (ps_set (i := 1) sc_law_view.nd rfl (by first | exact Or.inl rfl | exact Or.inr rfl) (pe_op op_cat (pv 1) (pe_lst (pa_cons (pe_tup (pa_cons pe_str (pa_cons (pe_c c_law_draw hr (by first | exact Nat.le_refl _ | decide | omega) rfl (pa_cons (pv 0) (pa_cons pe_int pa_nil))) (pa_cons (pv 4) pa_nil)))) (pa_cons (pe_tup (pa_cons pe_str (pa_cons (pe_c c_law_draw hr (by first | exact Nat.le_refl _ | decide | omega) rfl (pa_cons (pv 0) (pa_cons (pv 4) pa_nil))) pa_nil))) pa_nil)))))))))))))
(pss_cut (ps_if (pt_cmpR op_eq (pe_c c_law_draw hr (by first | exact Nat.le_refl _ | decide | omega) rfl (pa_cons (pv 0) (pa_cons pe_int pa_nil))) pe_int (nomark _))
  (pss_one (ps_expr (pe_bm PySem.F.plainAttrs_list PySem.F.slot_list_append PySem.F.type_list_append mt_append (pv 1) (pa_cons (pe_tup (pa_cons pe_str (pa_cons (pe_c c_law_draw hr (by first | exact Nat.le_refl _ | decide | omega) rfl (pa_cons (pv 0) (pa_cons pe_int pa_nil))) (pa_cons (pe_op op_add pe_int (pe_c c_law_draw hr (by first | exact Nat.le_refl _ | decide | omega) rfl (pa_cons (pv 0) (pa_cons pe_int pa_nil)))) pa_nil)))) pa_nil))))
  pss_nil)
(pss_one (ps_ret (pe_callTy call_tuple_of (by rfl) T.n_tuple bo_tuple (pa_cons (pv 1) pa_nil))))))), ?_⟩
    refine And.intro (by show 2 ≤ sizeLine; decide) <| fun t0 nt0 => And.intro (by show 1 ≤ sizeLine; decide) <| fun l0 nl0 => ?_
    have k0 : Keep [] H (upd (upd H t0 (.tup [.str "round", .int 0])) l0 (.lst [.ref t0])) := (Keep.new nt0).then_new nl0
    have V0 : VL (upd (upd H t0 (.tup [.str "round", .int 0])) l0 (.lst [.ref t0])) l0 [⟨"round", 0, none⟩] := ⟨_, upd_same, .cons (Keep.new (W := []) nl0 _ _ upd_same (by simp)) .nil⟩
    have O0 : EvsOk [⟨"round", 0, none⟩] := evok2 (by decide +kernel) (by decide +kernel) (by decide) (by decide)
    have nl00 : H l0 = none := (Keep.new (W := []) nt0).free nl0
    generalize upd (upd H t0 (.tup [.str "round", .int 0])) l0 (.lst [.ref t0]) = H0 at *
    refine ⟨_, rfl, p, q, ns, 12, rfl, by decide, by decide, hP.keep0 k0, fun m H1 a0 a1 P1 K1 => ?_⟩
    have K01 : Keep [p] H H1 := (k0.mono (by simp)).trans K1
    have nep : ∀ {a : Addr}, H a = none → a ≠ p := fun h => hP.nep h
    have neq : ∀ {a : Addr}, H a = none → a ≠ q := fun h => hP.neq h
    have V1 : VL H1 l0 [⟨"round", 0, none⟩] := V0.keep K1 ((hP.keep0 k0).tk K1) (by simpa using nep nl00)
    have P2 := P1
    have V2 := V1
    have K2 := K01
    refine ⟨m, rfl, by omega, by omega, for_range (lo := 0) (n := m.toNat) (fun i σ H' => ∃ (l : Addr) (es : List Ev) (o3 o4 o5 : Option V), σ = [some (.ref p), some (.ref l), o3, o4, o5] ∧ H l = none ∧ VL H' l es ∧ EvsOk es ∧ es ≠ [] ∧ es.length ≤ 1 + 2 * i ∧ Pool H' p q ns ∧ Keep [p] H H')
      ⟨l0, _, _, _, _, rfl, nl00, V2, O0, by simp, by simp, P2, K2⟩ ?_ ?_⟩
    · rintro i σ H3 hi ⟨l, es, o3, o4, o5, rfl, nl, V3, O3, ne3, len3, P3, K3⟩
      have lp := nep nl
      have lq := neq nl
      refine ⟨_, rfl, p, q, ns, 4, rfl, by decide, by decide, P3, fun kd H4 _ _ P4 K4 => ?_⟩
      have V4 := V3.keep K4 (P3.tk K4) (by simpa using lp)
      have K04 := K3.trans K4
      have push : ∀ {H5 : Hp} {e : Ev}, VL H5 l es → EvsOk [e] → Pool H5 p q ns → Keep [p] H H5 → ∀ t, H5 t = none → ∀ {p3 p4 p5 : Option V}, ∃ l1 ys y, V.ref l = .ref l1 ∧ [V.ref t] = [y] ∧ upd H5 t (.tup (evD e)) l1 = some (.lst ys) ∧ ys.length < sizeLine ∧
          ∃ (l : Addr) (es : List Ev) (o3 o4 o5 : Option V), ([some (.ref p), some (.ref l1), p3, p4, p5] : List (Option V)) = [some (.ref p), some (.ref l), o3, o4, o5] ∧ H l = none ∧ VL (upd (upd H5 t (.tup (evD e))) l1 (.lst (ys ++ [y]))) l es ∧ EvsOk es ∧ es ≠ [] ∧ es.length ≤ 1 + 2 * (i + 1) ∧ Pool (upd (upd H5 t (.tup (evD e))) l1 (.lst (ys ++ [y]))) p q ns ∧ Keep [p] H (upd (upd H5 t (.tup (evD e))) l1 (.lst (ys ++ [y]))) := by
        intro H5 e V5 Oe P5 K5 t nt p3 p4 p5
        obtain ⟨vs, h1, h2, h3⟩ := V5.push e nt
        exact ⟨l, vs, _, rfl, rfl, h1, smallL (by omega), l, _, _, _, _, rfl, nl, h3, O3.app Oe, by simp, by rw [List.length_append]; simp; omega, (P5.new nt).own lp lq, (K5.then_new nt).then_own nl⟩
      have ty : ∀ {H5 : Hp}, VL H5 l es → ∃ vs, SqL K H5 l vs := fun ⟨vs, h, _⟩ => ⟨vs, SqL.of h⟩
      refine ⟨_, rfl, rfl, _, rfl, iteD (fun _ => ?_) (fun _ => ⟨_, rfl, rfl, _, rfl, iteD (fun _ => ?_) (fun _ => ?_)⟩)⟩
      · refine ⟨_, rfl, .inl ⟨rfl, ty V4⟩, _, rfl, p, q, ns, 8, rfl, by decide, by decide, P4, fun r H5 r0 r1 P5 K5 => And.intro (by show 2 ≤ sizeLine; decide) <| fun t nt => ?_⟩
        obtain ⟨l1, ys, y, z1, z2, z3, z4, z5⟩ := push (e := ⟨"round", r, none⟩) (V4.keep K5 (P4.tk K5) (by simpa using lp)) (evok2 (by decide +kernel) (by decide +kernel) r0 (by omega)) P5 (K04.trans K5) t nt
        cases z1
        exact ⟨l, ys, y, rfl, z2, z3, z4, z5⟩
      · refine ⟨_, rfl, .inl ⟨rfl, ty V4⟩, _, rfl, p, q, ns, rfl, P4, fun r H5 r0 r1 P5 K5 => And.intro (by show 2 ≤ sizeLine; decide) <| fun t nt => ?_⟩
        obtain ⟨l1, ys, y, z1, z2, z3, z4, z5⟩ := push (e := ⟨"told", r, none⟩) (V4.keep K5 (P4.tk K5) (by simpa using lp)) (evok2 (by decide +kernel) (by decide +kernel) r0 (by omega)) P5 (K04.trans K5) t nt
        cases z1
        exact ⟨l, ys, y, rfl, z2, z3, z4, z5⟩
      · refine ⟨_, rfl, p, q, ns, 8, rfl, by decide, by decide, P4, fun c H5 c0 c1 P5 K5 => ⟨_, _, rfl, rfl, ?_⟩⟩
        have V5 := V4.keep K5 (P4.tk K5) (by simpa using lp)
        refine ⟨_, rfl, _, rfl, p, q, ns, 24, rfl, by decide, by decide, P5, fun r H6 r0 r1 P6 K6 => ⟨_, rfl, And.intro (by show 3 ≤ sizeLine; decide) <| fun t1 n1 => ?_⟩⟩
        have V6 := V5.keep K6 (P5.tk K6) (by simpa using lp)
        have k7 : Keep [] H6 (upd H6 t1 (.tup [.str "move", .int r, .int (1 + c)])) := Keep.new n1
        refine ⟨_, rfl, _, rfl, p, q, ns, 1 + c, rfl, by omega, by omega, P6.new n1, fun r2 H8 s0 s1 P8 K8 => And.intro (by show 2 ≤ sizeLine; decide) <| fun t2 n2 => And.intro (by show 2 ≤ sizeLine; decide) <| fun u nu => ?_⟩
        have h1 : H8 t1 = some (.tup [.str "move", .int r, .int (1 + c)]) := K8 _ _ upd_same (by have := P6.nep n1; simpa using this)
        have V8 := (V6.keep k7 k7.tk (by simp)).keep K8 ((P6.new n1).tk K8) (by simpa using lp)
        have k9 : Keep [] H8 (upd (upd H8 t2 (.tup [.str "did", .int r2])) u (.lst [.ref t1, .ref t2])) := (Keep.new n2).then_new nu
        obtain ⟨vs, g1, g2⟩ := V8.keep k9 k9.tk (by simp)
        have gl := g2.len
        have K08 := (((K04.trans K5).trans K6).trans (k7.mono (by simp))).trans K8
        refine ⟨l, u, _, _, rfl, rfl, g1, upd_same, smallM (by simp; omega), fun z nz => ?_⟩
        have E2 : Evs (upd (upd H8 t2 (.tup [.str "did", .int r2])) u (.lst [.ref t1, .ref t2])) [.ref t1, .ref t2] ([⟨"move", r, some (1 + c)⟩] ++ [⟨"did", r2, none⟩]) := .cons (k9 _ _ h1 (by simp)) (.cons (Keep.new (W := []) nu _ _ upd_same (by simp)) .nil)
        have kk := K08.trans ((k9.then_new (o := .lst (vs ++ [.ref t1, .ref t2])) nz).mono (by simp))
        refine ⟨z, _, _, _, _, rfl, P8.free K08 (k9.free nz), ⟨_, upd_same, (g2.app E2).tk (TK.new nz)⟩, O3.app ((evok3 (by decide +kernel) r0 (by omega) (by omega) (by omega)).app (evok2 (by decide +kernel) (by decide +kernel) s0 (by omega))), by simp, by rw [List.length_append]; simp; omega, (P8.keep0 k9).new nz, kk⟩
    · rintro σ H3 ⟨l, es, o3, o4, o5, rfl, nl, V3, O3, ne3, len3, P3, K3⟩
      have lp := nep nl
      have lq := neq nl
      refine ⟨fun σ H' => ∃ (es : List Ev), σ = [some (.ref p), some (.ref l), o3, o4, o5] ∧ VL H' l es ∧ EvsOk es ∧ es ≠ [] ∧ es.length ≤ 200 ∧ Pool H' p q ns ∧ Keep [p] H H', ?_, ?_⟩
      · refine ⟨_, rfl, p, q, ns, 2, rfl, by decide, by decide, P3, fun r H4 _ _ P4 K4 => ⟨rfl, _, rfl, iteD (fun _ => ?_) (fun _ => ⟨es, rfl, V3.keep K4 (P3.tk K4) (by simpa using lp), O3, ne3, by omega, P4, K3.trans K4⟩)⟩⟩
        have V4 := V3.keep K4 (P3.tk K4) (by simpa using lp)
        obtain ⟨vs4, hv4, _⟩ := id V4
        refine ⟨_, rfl, .inl ⟨rfl, _, SqL.of hv4⟩, _, rfl, p, q, ns, 24, rfl, by decide, by decide, P4, fun r1 H5 r0 r1' P5 K5 => ?_⟩
        have V5 := V4.keep K5 (P4.tk K5) (by simpa using lp)
        refine ⟨_, rfl, p, q, ns, 8, rfl, by decide, by decide, P5, fun c H6 c0 c1 P6 K6 => ⟨_, _, rfl, rfl, And.intro (by show 3 ≤ sizeLine; decide) <| fun t nt => ?_⟩⟩
        have V6 := V5.keep K6 (P5.tk K6) (by simpa using lp)
        obtain ⟨e, he⟩ : ∃ e : Ev, e = ⟨"move", r1, some (1 + c)⟩ := ⟨_, rfl⟩
        obtain ⟨vs, h1, h2, h3⟩ := V6.push e nt
        have hev : evD e = [V.str "move", V.int r1, V.int (1 + c)] := by rw [he]; rfl
        rw [hev] at h1 h3
        refine ⟨l, vs, _, rfl, rfl, h1, smallL (by omega), es ++ [e], rfl, h3, ?_⟩
        rw [he]
        exact ⟨ O3.app (evok3 (by decide +kernel) r0 (by omega) (by omega) (by omega)), by simp, by rw [List.length_append]; simp; omega, (P6.new nt).own lp lq, ((((K3.trans K4).trans K5).trans K6).then_new nt).then_own nl⟩
      rintro σ H4 ⟨es4, rfl, ⟨vs, g1, g2⟩, O4, ne4, len4, P4, K4⟩
      exact ⟨_, rfl, _, _, rfl, .inl ⟨SqL.of g1, fun t nt => k t _ es4 _ (P4.free K4 nt) upd_same (g2.tk (TK.new nt)) O4 ne4 len4 (P4.new nt) (K4.then_new nt)⟩⟩
end
theorem TVs.get {K : PySem.W.Frag} {H : Hp} {ns : List Str} : ∀ {b : Bl} {xs : List V} {i : Nat} {v : V}, TVs K H b xs → b.Ok ns → b.Sm → xs[i]? = some v → ∃ t : Th, TV K H t v ∧ t.Ok ns ∧ t.Sm ∧ t.dep ≤ b.dep
  | .nil, _, i, v, h, _, _, hv => by cases h; simp at hv
  | .cons t b, _, i, v, ⟨u, r, e, h1, h2⟩, ok, sm, hv => by
    subst e
    cases i with
    | zero =>
      simp at hv
      subst hv
      exact ⟨t, h1, ok.1, sm.1, Nat.le_max_left _ _⟩
    | succ i =>
      obtain ⟨t', g1, g2, g3, g4⟩ := TVs.get h2 ok.2 sm.2 (by simpa using hv)
      exact ⟨t', g1, g2, g3, Nat.le_trans g4 (Nat.le_max_right _ _)⟩
/-- the lots made small -/
def sp_small (K : PySem.W.Frag) (n : Nat) : Sp := fun vs H Q _ => ∃ (p q bk : Addr) (is : List Int) (ns : List Str) (b : Bl), vs = [.ref p, .ref bk] ∧ Pool H p q is ∧ BV K H b bk ∧ b.Ok ns ∧ b.Sm ∧ b.dep < n ∧ b.len ≤ 5 ∧
  ∀ r c H', BV K H' c r → c.Ok ns → c.Sm → c.dep ≤ b.dep → c.len ≤ b.len → Pool H' p q is → Keep [p] H H' → Q (.ref r) H'
/-- one statement behind those that stand -/
theorem small_push {K : PySem.W.Frag} {H H' : Hp} {ns : List Str} {l : Addr} {ws : List V} {c : Bl} {t : Th} {v : V} {d i : Nat} (hl : H l = some (.lst ws)) (hT : TVs K H c ws) (ok : c.Ok ns) (sm : c.Sm) (dp : c.dep ≤ d) (ln : c.len = i) (ht : TV K H t v) (tok : t.Ok ns) (tsm : t.Sm) (tdp : t.dep ≤ d) (e : H' = upd H l (.lst (ws ++ [v]))) :
    ∃ (ws' : List V) (c' : Bl), H' l = some (.lst ws') ∧ TVs K H' c' ws' ∧ c'.Ok ns ∧ c'.Sm ∧ c'.dep ≤ d ∧ c'.len = i + 1 := by
  subst e
  have tk : TK H (upd H l (.lst (ws ++ [v]))) := TK.lst hl
  refine ⟨_, c.app (.cons t .nil), upd_same, TVs.app (TVs.tk tk c hT) ⟨v, [], rfl, TV.tk tk t ht, rfl⟩, Bl.app_ok ok ⟨tok, trivial⟩, Bl.app_sm sm ⟨tsm, trivial⟩, ?_, ?_⟩
  · rw [Bl.app_dep]
    show max c.dep (max t.dep 0) ≤ d
    omega
  · rw [Bl.app_len, ln]; rfl
section
variable {P : Program} {w : World} {K : PySem.W.Frag} {mg : Str → Option Value} {base : Heap} {C_Ratio : Addr} {C_Tape : Addr} {C_Thinker : Addr} {C_Brain : Addr} {C_GameError : Addr} {C_TooLarge : Addr} {f_TooLarge___init : Addr} {T_EVENTS : Addr}
theorem ok_small0 {f : Addr} {fd : FuncData} (D : C8.Def K mg "_law_small_lots" s_law_small_lots f fd) (b : Binds K fd ["pool", "block"] []) {k : Nat} : C8.Cal P w K mg base k "_law_small_lots" (sp_small K 0) [] :=
  ⟨f, fd, ["pool", "block"], [], ⟨fun vs H Q E h => (by obtain ⟨p, q, bk, is, ns, b, rfl, _⟩ := h; rfl), fun A outer s H args us vs Q E _ _ _ _ h => (by obtain ⟨p, q, bk, is, ns, b, _, _, _, _, _, h2, _⟩ := h; exact absurd h2 (Nat.not_lt_zero _))⟩, D.mgf, D.kp, b, .nil⟩
theorem ok_small {f : Addr} {fd : FuncData} (D : C8.Def K mg "_law_small_lots" s_law_small_lots f fd) (b : Binds K fd ["pool", "block"] []) (T : Txt K mg C_Ratio C_Tape C_Thinker C_Brain C_GameError C_TooLarge T_EVENTS) {n k : Nat} (c_law_small_lots : C8.Cal P w K mg base k "_law_small_lots" (sp_small K n) []) (c_law_draw : C8.Cal P w K mg base k "_law_draw" sp_law_draw []) : C8.Cal P w K mg base (k + 1) "_law_small_lots" (sp_small K (n + 1)) [] := by
  refine cal0 D b .nil sc_law_small_lots (fun vs H Q E h => ?_) (fun cdv A outer s H vs Q E hr h => ?_)
  · obtain ⟨p, q, bk, is, ns, b, rfl, _⟩ := h
    rfl
  · obtain ⟨p, q, bk, is, ns, b0, rfl, hP, ⟨xs, hbk, hT⟩, ok, sm, dp, ln, k⟩ := h
    refine ⟨_, (pss_cons (ps_set (i := 2) sc_law_small_lots.nd rfl (by first | exact Or.inl rfl | exact Or.inr rfl) (pe_lst pa_nil))
(pss_cons (ps_for PassesOwn.never rfl (pi_tup (pv 1)) (pg_name (i := 3) sc_law_small_lots.nd rfl (by first | exact Or.inl rfl | exact Or.inr rfl))
  (pss_one (ps_if (PW.pt (pw_and (pt_cmpR op_eq (pe_ix ix_tup (pv 3) pe_int (fun _ _ => rfl)) pe_str (nomark _)) (pw_and1 (pt_cmpR op_gt (pe_c c_law_draw hr (by first | exact Nat.le_refl _ | decide | omega) rfl (pa_cons (pv 0) (pa_cons pe_int pa_nil))) pe_int (nomark _)))))
    (pss_one (ps_expr (pe_bm PySem.F.plainAttrs_list PySem.F.slot_list_append PySem.F.type_list_append mt_append (pv 2) (pa_cons (pe_tup (pa_cons pe_str (pa_cons (pe_ix ix_tup (pv 3) pe_int (fun _ _ => rfl)) (pa_cons (pe_tup (pa_cons pe_str (pa_cons (pe_op op_add pe_int (pe_c c_law_draw hr (by first | exact Nat.le_refl _ | decide | omega) rfl (pa_cons (pv 0) (pa_cons pe_int pa_nil)))) pa_nil))) pa_nil)))) pa_nil))))
    (pss_one (ps_if (pt_cmpR op_eq (pe_ix ix_tup (pv 3) pe_int (fun _ _ => rfl)) pe_str (nomark _))
      (pss_cons (ps_set (i := 4) sc_law_small_lots.nd rfl (by first | exact Or.inl rfl | exact Or.inr rfl) (pe_c c_law_small_lots hr (by first | exact Nat.le_refl _ | decide | omega) rfl (pa_cons (pv 0) (pa_cons (pe_ix ix_tup (pv 3) pe_int (fun _ _ => rfl)) pa_nil))))
      (pss_one (ps_expr (pe_bm PySem.F.plainAttrs_list PySem.F.slot_list_append PySem.F.type_list_append mt_append (pv 2) (pa_cons (pe_tup (pa_cons pe_str (pa_cons (pe_ix ix_tup (pv 3) pe_int (fun _ _ => rfl)) (pa_cons (pv 4) (pa_cons (pe_c c_law_small_lots hr (by first | exact Nat.le_refl _ | decide | omega) rfl (pa_cons (pv 0) (pa_cons (pe_ix ix_tup (pv 3) pe_int (fun _ _ => rfl)) pa_nil))) pa_nil))))) pa_nil)))))
      (pss_one (ps_if (pt_cmpR op_eq (pe_ix ix_tup (pv 3) pe_int (fun _ _ => rfl)) pe_str (nomark _))
        (pss_one (ps_expr (pe_bm PySem.F.plainAttrs_list PySem.F.slot_list_append PySem.F.type_list_append mt_append (pv 2) (pa_cons (pe_tup (pa_cons pe_str (pa_cons (pe_ix ix_tup (pv 3) pe_int (fun _ _ => rfl)) (pa_cons (pe_c c_law_small_lots hr (by first | exact Nat.le_refl _ | decide | omega) rfl (pa_cons (pv 0) (pa_cons (pe_ix ix_tup (pv 3) pe_int (fun _ _ => rfl)) pa_nil))) pa_nil)))) pa_nil))))
        (pss_one (ps_expr (pe_bm PySem.F.plainAttrs_list PySem.F.slot_list_append PySem.F.type_list_append mt_append (pv 2) (pa_cons (pv 3) pa_nil)))))))))))
(pss_one (ps_ret (pe_callTy call_tuple_of (by rfl) T.n_tuple bo_tuple (pa_cons (pv 2) pa_nil)))))), ?_⟩
    refine And.intro (by show 0 ≤ sizeLine; decide) <| fun l nl => ?_
    have k0 : Keep [] H (upd H l (.lst [])) := Keep.new nl
    have lp := hP.nep nl
    have lq := hP.neq nl
    have P0 := hP.new (o := .lst []) nl
    have tkOf : ∀ {H' : Hp}, Keep [p] H H' → TK H H' := fun K' => hP.tk K'
    refine ⟨_, rfl, bk, rfl, ⟨_, (hbk.tk k0.tk).sq⟩, for_tup (K := K) (a := bk) (xs := xs) (fun i σ H' => (∃ o3 o4 : Option V, σ = [some (.ref p), some (.ref bk), some (.ref l), o3, o4]) ∧ (∃ (ws : List V) (c : Bl), H' l = some (.lst ws) ∧ TVs K H' c ws ∧ c.Ok ns ∧ c.Sm ∧ c.dep ≤ b0.dep ∧ c.len = i) ∧ Pool H' p q is ∧ Keep [p] H H')
      ⟨⟨none, none, rfl⟩, ⟨[], .nil, upd_same, rfl, trivial, trivial, Nat.zero_le _, rfl⟩, P0, k0.mono (by simp)⟩ (fun i σ H' _ ⟨_, _, _, K'⟩ => (hbk.tk (tkOf K')).sq) ?_ ?_⟩
    · rintro i v σ H1 hv ⟨⟨o3, o4, rfl⟩, ⟨ws, c, hl, hc, cok, csm, cdp, cln⟩, P1, K1⟩
      obtain ⟨t, ht, tok, tsm, tdp⟩ := hT.get ok sm hv
      have ht1 := TV.tk (tkOf K1) t ht
      have hlt := (List.getElem?_eq_some_iff.mp hv).1
      rw [hT.len] at hlt
      have wl : ws.length < sizeLine := smallL (by rw [hc.len]; omega)
      have fin : ∀ {H2 : Hp} {t' : Th} {v' : V}, H2 l = some (.lst ws) → TVs K H2 c ws → TV K H2 t' v' → t'.Ok ns → t'.Sm → t'.dep ≤ b0.dep → Pool H2 p q is → Keep [p] H H2 → ∀ {o : Option V}, ∃ l1 ys y, V.ref l = .ref l1 ∧ [v'] = [y] ∧ H2 l1 = some (.lst ys) ∧ ys.length < sizeLine ∧
          (∃ o3 o4 : Option V, ([some (.ref p), some (.ref bk), some (.ref l), some v, o] : List (Option V)) = [some (.ref p), some (.ref bk), some (.ref l), o3, o4]) ∧ (∃ (ws : List V) (c : Bl), upd H2 l1 (.lst (ys ++ [y])) l = some (.lst ws) ∧ TVs K (upd H2 l1 (.lst (ys ++ [y]))) c ws ∧ c.Ok ns ∧ c.Sm ∧ c.dep ≤ b0.dep ∧ c.len = i + 1) ∧ Pool (upd H2 l1 (.lst (ys ++ [y]))) p q is ∧ Keep [p] H (upd H2 l1 (.lst (ys ++ [y]))) :=
        fun h2 c2 t2 ok2 sm2 dp2 P2 K2 o => ⟨l, ws, _, rfl, rfl, h2, wl, ⟨_, _, rfl⟩, small_push h2 c2 cok csm cdp cln t2 ok2 sm2 dp2 rfl, P2.own lp lq, K2.then_own nl⟩
      have ty : ∀ {H2 : Hp}, H2 l = some (.lst ws) → ∃ vs, SqL K H2 l vs := fun h => ⟨_, SqL.of h⟩
      cases t with
      | set x e =>
        obtain ⟨a, u, rfl, h1, h2⟩ := id ht1
        refine ⟨_, rfl, _, _, _, _, rfl, rfl, h1.sq, rfl, rfl, _, rfl, iteDF (nes (by decide +kernel)) ?_⟩
        refine ⟨_, rfl, _, _, _, _, rfl, rfl, h1.sq, rfl, rfl, _, rfl, iteDF (nes (by decide +kernel)) ?_⟩
        refine ⟨_, rfl, _, _, _, _, rfl, rfl, h1.sq, rfl, rfl, _, rfl, iteDF (nes (by decide +kernel)) ?_⟩
        refine ⟨_, rfl, .inl ⟨rfl, ty hl⟩, _, rfl, ?_⟩
        exact fin hl hc ht1 tok tsm tdp P1 K1
      | lot x e =>
        obtain ⟨a, u, rfl, h1, h2⟩ := id ht1
        refine ⟨_, rfl, _, _, _, _, rfl, rfl, h1.sq, rfl, rfl, _, rfl, iteDT rfl ?_⟩
        refine ⟨_, rfl, p, q, is, 8, rfl, by decide, by decide, P1, fun r H2 r0 r1 P2 K2 => ?_⟩
        have K12 := K1.trans K2
        have hl2 := K2 _ _ hl (by simpa using lp)
        have h12 := h1.tk (P1.tk K2)
        have hc2 := TVs.tk (P1.tk K2) c hc
        refine ⟨_, _, rfl, rfl, _, rfl, iteD (fun _ => ?_) (fun _ => ?_)⟩
        · refine ⟨_, rfl, .inl ⟨rfl, ty hl2⟩, _, rfl, _, _, _, _, rfl, rfl, h12.sq, rfl, _, rfl, p, q, is, 4, rfl, by decide, by decide, P2, fun r3 H3 z0 z1 P3 K3 => ⟨_, _, rfl, rfl, And.intro (by show 2 ≤ sizeLine; decide) <| fun t1 n1 => And.intro (by show 3 ≤ sizeLine; decide) <| fun t2 n2 => ?_⟩⟩
          have k2 := (Keep.new (W := []) (o := .tup [.str "number", .int (1 + r3)]) n1).then_new (o := .tup [.str "lot", .str x, .ref t1]) n2
          have hl3 := K3 _ _ hl2 (by simpa using lp)
          exact fin (k2 _ _ hl3 (by simp)) (TVs.tk ((P2.tk K3).trans k2.tk) c hc2) (t' := .lot x (.num (1 + r3))) ⟨t2, .ref t1, rfl, .inl upd_same, .num (.inl (Keep.new (W := []) n2 _ _ upd_same (by simp)))⟩ ⟨tok.1, ⟨by omega, by omega⟩, by show 1 ≤ 12; decide⟩ trivial (Nat.zero_le _) (P3.keep0 k2) ((K12.trans K3).trans (k2.mono (by simp)))
        · refine ⟨_, rfl, _, _, _, _, rfl, rfl, h12.sq, rfl, rfl, _, rfl, iteDF (nes (by decide +kernel)) ?_⟩
          refine ⟨_, rfl, _, _, _, _, rfl, rfl, h12.sq, rfl, rfl, _, rfl, iteDF (nes (by decide +kernel)) ?_⟩
          refine ⟨_, rfl, .inl ⟨rfl, ty hl2⟩, _, rfl, ?_⟩
          exact fin hl2 hc2 (TV.tk (P1.tk K2) (.lot x e) ht1) tok tsm tdp P2 K12
      | iff t a b =>
        obtain ⟨pp, u, qa, ra, xs, ys, rfl, h1, h2, h3, h4, h5, h6⟩ := id ht1
        refine ⟨_, rfl, _, _, _, _, rfl, rfl, h1.sq, rfl, rfl, _, rfl, iteDF (nes (by decide +kernel)) ?_⟩
        refine ⟨_, rfl, _, _, _, _, rfl, rfl, h1.sq, rfl, rfl, _, rfl, iteDT rfl ?_⟩
        have tdp' : max a.dep b.dep + 1 ≤ b0.dep := tdp
        refine ⟨_, rfl, _, rfl, _, _, _, _, rfl, rfl, h1.sq, rfl, p, q, qa, is, ns, a, rfl, P1, ⟨xs, h3, h4⟩, tok.2.1, tsm.1.2, by omega, tsm.1.1, fun ra2 a2 H2 B2 ok2 sm2 dp2 ln2 P2 K2 => ?_⟩
        have K12 := K1.trans K2
        have hl2 := K2 _ _ hl (by simpa using lp)
        have h12 := h1.tk (P1.tk K2)
        have hc2 := TVs.tk (P1.tk K2) c hc
        refine ⟨_, rfl, .inl ⟨rfl, ty hl2⟩, _, rfl, _, _, _, _, rfl, rfl, h12.sq, rfl, _, rfl, _, rfl, _, rfl, _, _, _, _, rfl, rfl, h12.sq, rfl, p, q, ra, is, ns, b, rfl, P2, ⟨ys, h5.tk (P1.tk K2), TVs.tk (P1.tk K2) b h6⟩, tok.2.2, tsm.2.2, by omega, tsm.2.1, fun rb2 b2 H3 B3 ok3 sm3 dp3 ln3 P3 K3 => And.intro (by show 4 ≤ sizeLine; decide) <| fun t2 n2 => ?_⟩
        have k2 := Keep.new (W := []) (o := .tup [.str "if", u, .ref ra2, .ref rb2]) n2
        have K13 := K12.trans K3
        obtain ⟨zs, hz, tz⟩ := B2.tk (P2.tk K3)
        obtain ⟨zs3, hz3, tz3⟩ := id B3
        have hl3 := K3 _ _ hl2 (by simpa using lp)
        refine fin (k2 _ _ hl3 (by simp)) (TVs.tk ((P2.tk K3).trans k2.tk) c hc2) (t' := .iff t a2 b2) ⟨t2, u, ra2, rb2, zs, zs3, rfl, .inl upd_same, ((h2.tk (P1.tk K2)).tk (P2.tk K3)).tk k2.tk, hz.tk k2.tk, TVs.tk k2.tk a2 tz, hz3.tk k2.tk, TVs.tk k2.tk b2 tz3⟩ ⟨tok.1, ok2, ok3⟩ ⟨⟨by have := tsm.1.1; omega, sm2⟩, by have := tsm.2.1; omega, sm3⟩ (by show max a2.dep b2.dep + 1 ≤ _; omega) (P3.keep0 k2) (K13.then_new n2)
      | whl t b =>
        obtain ⟨pp, u, qa, xs, rfl, h1, h2, h3, h4⟩ := id ht1
        refine ⟨_, rfl, _, _, _, _, rfl, rfl, h1.sq, rfl, rfl, _, rfl, iteDF (nes (by decide +kernel)) ?_⟩
        refine ⟨_, rfl, _, _, _, _, rfl, rfl, h1.sq, rfl, rfl, _, rfl, iteDF (nes (by decide +kernel)) ?_⟩
        refine ⟨_, rfl, _, _, _, _, rfl, rfl, h1.sq, rfl, rfl, _, rfl, iteDT rfl ?_⟩
        have tdp' : b.dep + 1 ≤ b0.dep := tdp
        refine ⟨_, rfl, .inl ⟨rfl, ty hl⟩, _, rfl, ?_⟩
        refine ⟨_, _, _, _, rfl, rfl, h1.sq, rfl, _, rfl, _, rfl, _, _, _, _, rfl, rfl, h1.sq, rfl, p, q, qa, is, ns, b, rfl, P1, ⟨xs, h3, h4⟩, tok.2, tsm.2, by omega, tsm.1, fun rb2 b2 H3 B3 ok3 sm3 dp3 ln3 P3 K3 => And.intro (by show 3 ≤ sizeLine; decide) <| fun t2 n2 => ?_⟩
        have k2 := Keep.new (W := []) (o := .tup [.str "while", u, .ref rb2]) n2
        have K13 := K1.trans K3
        obtain ⟨zs3, hz3, tz3⟩ := id B3
        have hl3 := K3 _ _ hl (by simpa using lp)
        exact fin (k2 _ _ hl3 (by simp)) (TVs.tk ((P1.tk K3).trans k2.tk) c hc) (t' := .whl t b2) ⟨t2, u, rb2, zs3, rfl, .inl upd_same, (h2.tk (P1.tk K3)).tk k2.tk, hz3.tk k2.tk, TVs.tk k2.tk b2 tz3⟩ ⟨tok.1, ok3⟩ ⟨by have := tsm.1; omega, sm3⟩ (by show b2.dep + 1 ≤ _; omega) (P3.keep0 k2) (K13.then_new n2)
    · rintro σ H1 ⟨⟨o3, o4, rfl⟩, ⟨ws, c, hl, hc, cok, csm, cdp, cln⟩, P1, K1⟩
      refine ⟨_, rfl, _, _, rfl, .inl ⟨SqL.of hl, fun r nr => ?_⟩⟩
      exact k r c _ ⟨ws, .inl upd_same, TVs.tk (TK.new nr) c hc⟩ cok csm cdp (by rw [cln, hT.len]; exact Nat.le_refl _) (P1.new nr) (K1.then_new nr)
theorem small_all {f : Addr} {fd : FuncData} (D : C8.Def K mg "_law_small_lots" s_law_small_lots f fd) (b : Binds K fd ["pool", "block"] []) (T : Txt K mg C_Ratio C_Tape C_Thinker C_Brain C_GameError C_TooLarge T_EVENTS) (c : C8.Cal P w K mg base 1 "_law_draw" sp_law_draw []) : ∀ n, C8.Cal P w K mg base (n + 1) "_law_small_lots" (sp_small K n) []
  | 0 => ok_small0 D b
  | n + 1 => ok_small D b T (small_all D b T c n) (calUp c (by omega))
end

/-! a fraction in lowest terms, by Euclid's way -/
def sp_law_lowest : Sp := fun vs H Q _ => ∃ n d : Nat, vs = [.int (n : Int), .int (d : Int)] ∧ 0 < d ∧ n * d < 2 ^ 3000 ∧ d < 2 ^ 8000 ∧ ∀ t H', H t = none → H' t = some (.tup [.int (redN n d), .int (redD n d)]) → Keep [] H H' → Q (.ref t) H'
section
variable {P : Program} {w : World} {K : PySem.W.Frag} {mg : Str → Option Value} {base : Heap} {C_Ratio : Addr} {C_Tape : Addr} {C_Thinker : Addr} {C_Brain : Addr} {C_GameError : Addr} {C_TooLarge : Addr} {f_TooLarge___init : Addr} {T_EVENTS : Addr}
theorem ok_law_lowest {f : Addr} {fd : FuncData} (D : C8.Def K mg "_law_lowest" s_law_lowest f fd) (b : Binds K fd ["num", "den"] []) (T : Txt K mg C_Ratio C_Tape C_Thinker C_Brain C_GameError C_TooLarge T_EVENTS) : C8.Cal P w K mg base 1 "_law_lowest" sp_law_lowest [] := by
  refine cal0 D b .nil sc_law_lowest (fun vs H Q E h => ?_) (fun cdv A outer s H vs Q E hr h => ?_)
  · obtain ⟨n, d, rfl, _⟩ := h
    rfl
  · obtain ⟨n, d, rfl, d0, db, d8, k⟩ := h
    refine ⟨_, (pss_cons (ps_set (i := 2) sc_law_lowest.nd rfl (by first | exact Or.inl rfl | exact Or.inr rfl) (pe_callB call_abs (by rfl) T.n_abs bo_abs (pa_cons (pv 0) pa_nil)))
(pss_cons (ps_set (i := 3) sc_law_lowest.nd rfl (by first | exact Or.inl rfl | exact Or.inr rfl) (pv 1))
(pss_cut (ps_for PassesOwn.never rfl (pi_range1 (by rfl) T.n_range (pa_cons pe_int pa_nil)) (pg_name (i := 4) sc_law_lowest.nd rfl (by first | exact Or.inl rfl | exact Or.inr rfl))
  (pss_cons (ps_if (pt_cmpR op_eq (pv 3) pe_int (nomark _))
    (pss_one ps_break)
    pss_nil)
  (pss_cons (ps_set (i := 5) sc_law_lowest.nd rfl (by first | exact Or.inl rfl | exact Or.inr rfl) (pe_op op_mod (pe_callTy call_int1 (by rfl) T.n_int bo_int (pa_cons (pv 2) pa_nil)) (pv 3)))
  (pss_cons (ps_set (i := 2) sc_law_lowest.nd rfl (by first | exact Or.inl rfl | exact Or.inr rfl) (pv 3))
  (pss_one (ps_set (i := 3) sc_law_lowest.nd rfl (by first | exact Or.inl rfl | exact Or.inr rfl) (pv 5)))))))
(pss_one (ps_ret (pe_tup (pa_cons (pe_op op_fdivG (pv 0) (pv 2)) (pa_cons (pe_op op_fdivG (pv 1) (pv 2)) pa_nil)))))))), ?_⟩
    refine ⟨_, rfl, _, rfl, _, rfl, ?_⟩
    have en : ((Int.natAbs (n : Int) : Nat) : Int) = (n : Int) := by rw [Int.natAbs_natCast]
    refine ⟨fun σ H' => H' = H ∧ ∃ o3 o4 o5 : Option V, σ = [some (.int (n : Int)), some (.int (d : Int)), some (.int ((Nat.gcd n d : Nat) : Int)), o3, o4, o5], ?_, ?_⟩
    · refine ⟨4000, rfl, by decide, by decide, for_range (lo := 0) (n := 4000) (fun i σ H' => H' = H ∧ ∃ (a b : Nat) (o4 o5 : Option V), σ = [some (.int (n : Int)), some (.int (d : Int)), some (.int (a : Int)), some (.int (b : Int)), o4, o5] ∧ Nat.gcd a b = Nat.gcd n d ∧ ((i = 0 ∧ a = n ∧ b = d) ∨ (∃ j, i = j + 1 ∧ b < a ∧ a * b * 2 ^ j ≤ n * d)))
        ⟨rfl, n, d, none, none, rfl, rfl, .inl ⟨rfl, rfl, rfl⟩⟩ ?_ ?_⟩
      · rintro i σ H' hi ⟨rfl, a, b, o4, o5, rfl, hg, hs⟩
        refine ⟨_, rfl, rfl, _, rfl, iteD (fun e => ?_) (fun e => ?_)⟩
        · have hb : b = 0 := by have := V.int.inj e; omega
          subst hb
          rw [Nat.gcd_zero_right] at hg
          rw [hg]
          exact ⟨rfl, _, _, _, rfl⟩
        · have hb : 0 < b := by
            rcases Nat.eq_zero_or_pos b with z | z
            · subst z; exact absurd rfl e
            · exact z
          refine ⟨_, rfl, .inl ⟨_, rfl, _, rfl, _, _, rfl, rfl, by omega, ?_⟩⟩
          refine ⟨_, rfl, _, rfl, rfl, b, a % b, _, _, rfl, ?_, .inr ⟨i, rfl, Nat.mod_lt _ hb, ?_⟩⟩
          · rw [← hg, Nat.gcd_comm, ← Nat.gcd_rec, Nat.gcd_comm]
          · rcases hs with ⟨h0, h1, h2⟩ | ⟨j, h0, h1, h2⟩
            · subst h0 h1 h2
              rw [Nat.pow_zero, Nat.mul_one, Nat.mul_comm]
              exact Nat.mul_le_mul_right _ (Nat.mod_le _ _)
            · subst h0
              exact (euc_step h1 hb h2).2
      · rintro σ H' ⟨rfl, a, b, o4, o5, rfl, hg, hs⟩
        rcases hs with ⟨h0, _, _⟩ | ⟨j, h0, h1, h2⟩
        · omega
        · have hb := euc_end h1 h2 (Nat.lt_of_lt_of_le db (Nat.pow_le_pow_right (by decide) (by omega)))
          subst hb
          rw [Nat.gcd_zero_right] at hg
          rw [hg]
          exact ⟨rfl, _, _, _, rfl⟩
    rintro σ H' ⟨rfl, o3, o4, o5, rfl⟩
    have g0 : 0 < Nat.gcd n d := Nat.gcd_pos_of_pos_right _ d0
    have hsg : sg n d = ((Nat.gcd n d : Nat) : Int) := by
      unfold sg
      rw [if_neg (by omega), Int.natAbs_natCast, Int.natAbs_natCast]
    have hgb : Nat.gcd n d < 2 ^ 8000 := Nat.lt_of_le_of_lt (Nat.le_of_dvd d0 (Nat.gcd_dvd_right _ _)) d8
    have cd : ∀ x : Int, CDivG x ((Nat.gcd n d : Nat) : Int) := fun x => ⟨by omega, Nat.lt_trans (log2_lt9 (b := 8000) (by rw [Int.natAbs_natCast]; exact hgb) (by decide)) (by decide)⟩
    refine ⟨_, rfl, _, rfl, _, _, rfl, rfl, cd _, _, rfl, _, rfl, _, _, rfl, rfl, cd _, by show 2 ≤ sizeLine; decide, fun t nt => ?_⟩
    refine k t _ nt ?_ (Keep.new nt)
    show upd H' t (.tup [V.int ((n : Int).fdiv ((Nat.gcd n d : Nat) : Int)), V.int ((d : Int).fdiv ((Nat.gcd n d : Nat) : Int))]) t = _
    rw [← hsg]; exact upd_same
theorem red1 {d : Int} (h : 0 < d) : redN 1 d = 1 ∧ redD 1 d = d := by
  have hs : sg 1 d = 1 := by
    unfold sg
    rw [if_neg (by omega)]
    simp
  unfold redN redD
  rw [hs]
  exact ⟨by decide, Int.fdiv_one d⟩
def sp_isr (CR : Addr) : Sp := fun vs H Q _ => ∃ (r : Addr) (d : Int), vs = [.ref r, .int 1, .int d] ∧ RatAt CR H r (redN 1 d) (redD 1 d) ∧ 0 < d ∧ d < 2 ^ 2900 ∧ ∀ H', Keep [] H H' → Q (.bl true) H'
theorem ok_law_is_ratio {f : Addr} {fd : FuncData} (D : C8.Def K mg "_law_is_ratio" s_law_is_ratio f fd) (b : Binds K fd ["actual", "num", "den"] []) (T : Txt K mg C_Ratio C_Tape C_Thinker C_Brain C_GameError C_TooLarge T_EVENTS) (c_law_lowest : C8.Cal P w K mg base 1 "_law_lowest" sp_law_lowest []) (c_law_same : C8.Cal P w K mg base 33 "_law_same" (sp_law_same K 33) []) :
    C8.Cal P w K mg base 34 "_law_is_ratio" (sp_isr C_Ratio) [] := by
  refine cal0 D b .nil sc_law_is_ratio (fun vs H Q E h => ?_) (fun cdv A outer s H vs Q E hr h => ?_)
  · obtain ⟨r, d, rfl, _⟩ := h
    rfl
  · obtain ⟨r, d, rfl, hra, d0, db, k⟩ := h
    refine ⟨_, (pss_cons (ps_set (i := 3) sc_law_is_ratio.nd rfl (by first | exact Or.inl rfl | exact Or.inr rfl) (pe_c c_law_lowest hr (by first | exact Nat.le_refl _ | decide | omega) rfl (pa_cons (pv 1) (pa_cons (pv 2) pa_nil))))
(pss_one (ps_ret (pe_and (pe_callB (call_isC T.i_Ratio) (by rfl) T.n_isinstance bo_isinstance (pa_cons (pv 0) (pa_cons (pe_glob (v := .ref _) rfl T.m_Ratio rfl) pa_nil))) (pe_one (pe_c c_law_same hr (by first | exact Nat.le_refl _ | decide | omega) rfl (pa_cons (pe_lst (pa_cons (pe_fld (pv 0) rfl) (pa_cons (pe_fld (pv 0) rfl) pa_nil))) (pa_cons (pe_callTy call_list_of (by rfl) T.n_list bo_list (pa_cons (pv 3) pa_nil)) pa_nil)))))))), ?_⟩
    obtain ⟨m, rfl⟩ : ∃ m : Nat, d = (m : Int) := ⟨d.toNat, by omega⟩
    have mb : m < 2 ^ 2900 := by exact_mod_cast db
    refine ⟨_, rfl, _, rfl, 1, m, rfl, by omega, by rw [Nat.one_mul]; exact Nat.lt_trans mb (Nat.pow_lt_pow_right (by decide) (by decide)), Nat.lt_trans mb (Nat.pow_lt_pow_right (by decide) (by decide)), fun t H1 nt ht K1 => ?_⟩
    obtain ⟨dx, hp⟩ := hra.keep0 K1
    have r1 : redN ((1 : Nat) : Int) (m : Int) = 1 ∧ redD ((1 : Nat) : Int) (m : Int) = m := red1 d0
    rw [r1.1, r1.2] at ht
    rw [(red1 d0).1, (red1 d0).2] at hp
    refine ⟨_, rfl, r, dx, _, rfl, hp, _, rfl, iteT ?_⟩
    refine ⟨_, rfl, r, C_Ratio, dx, _, _, rfl, hp, T.cl_Ratio, T.a_Ratio_num, rf_num _ _, _, rfl, r, C_Ratio, dx, _, _, rfl, hp, T.cl_Ratio, T.a_Ratio_den, rf_den _ _, by show 2 ≤ sizeLine; decide, fun l1 n1 => ?_⟩
    have k1 : Keep [] H1 (upd H1 l1 (.lst [.int 1, .int (m : Int)])) := Keep.new n1
    refine ⟨_, rfl, _, _, rfl, .inr (SqT.of (k1 _ _ ht (by simp))), fun l2 n2 => ?_⟩
    have k2 : Keep [] (upd H1 l1 (.lst [.int 1, .int (m : Int)])) (upd (upd H1 l1 (.lst [.int 1, .int (m : Int)])) l2 (.lst [.int 1, .int (m : Int)])) := Keep.new n2
    exact ⟨_, _, rfl, sameL (n := 32) (k2 _ _ upd_same (by simp)) upd_same (same_ints [1, (m : Int)]) (by simp), k _ ((K1.trans k1).trans k2)⟩
end

theorem thk_tk {ns : List Str} {cs : List Int} {b : Bl} {e : Ex} {count : Int} {seen rs : List Int} {u : Int} {tk : List (Int × Int)} : (thk ns cs b e count seen rs u tk).2.2 = (runB seen rs b ⟨u, tbOf ns cs, tk⟩).2.tk := by
  unfold thk
  split <;> rfl
theorem thk_run {ns : List Str} {cs : List Int} {b : Bl} {e : Ex} {count : Int} {seen : List Int} {u : Int} (hl : cs.length = ns.length) (hs : SeenOk seen) (hb : b.Ok ns) (ho : MOk ns ⟨u, tbOf ns cs, []⟩) (u1 : u ≤ 25) : Run (fun rs => thk ns cs b e count seen rs u []) 25 ns.length := by
  refine ⟨fun rs => ?_, fun rs us k ha hk => ?_, fun rs => ?_, fun rs => (thk_len (rs := rs) hl hs hb ho (by omega)).1⟩
  · rw [thk_tk]
    exact runB_inv (Pr := Ent rs) ent_inv hs b hb _ ho (fun i r c h => by simp at h)
  · rw [thk_tk] at hk ⊢
    rw [thk_tk]
    rcases runB_sim ha hs b hb _ ho (Nat.zero_le k) with ⟨e, l⟩ | d
    · omega
    · exact d
  · rw [thk_tk]
    have h := (runB_mv (rs := rs) hs b hb _ ho).k
    change _ ≤ u.toNat + 0 + 0 at h
    omega
/-- the rows that are told -/
inductive OutL (C : Addr) (H : Hp) : List V → List Row → Prop
  | nil : OutL C H [] []
  | cons {t r ca : Addr} {a : Row} {vs : List V} {R : List Row} : H t = some (.tup [.ref r, .int a.1, .ref ca]) → RatAt C H r (redN 1 (prodC a.2.2)) (redD 1 (prodC a.2.2)) → H ca = some (.tup (a.2.1.map V.int)) → OutL C H vs R → OutL C H (.ref t :: vs) (a :: R)
theorem OutL.keep {C : Addr} {H H' : Hp} {vs : List V} {R : List Row} (h : OutL C H vs R) (k : Keep [] H H') : OutL C H' vs R := by
  induction h with
  | nil => exact .nil
  | cons h1 h2 h3 _ ih => exact .cons (k _ _ h1 (by simp)) (h2.keep0 k) (k _ _ h3 (by simp)) ih
theorem OutL.keepL {C x : Addr} {H H' : Hp} {xs : List V} {vs : List V} {R : List Row} (h : OutL C H vs R) (hx : H x = some (.lst xs)) (k : Keep [x] H H') : OutL C H' vs R := by
  have ne : ∀ {a : Addr} {o : HO}, H a = some o → (∀ ys, o ≠ .lst ys) → H' a = some o := fun h1 h2 => k _ _ h1 (by rw [List.mem_singleton]; intro z; rw [z, hx] at h1; exact h2 _ (Option.some.inj h1).symm)
  induction h with
  | nil => exact .nil
  | cons h1 h2 h3 _ ih =>
    obtain ⟨dx, h2⟩ := h2
    exact .cons (ne h1 (by intro ys z; cases z)) ⟨dx, ne h2 (by intro ys z; cases z)⟩ (ne h3 (by intro ys z; cases z)) ih
theorem OutL.snoc {C : Addr} {H : Hp} {vs : List V} {R : List Row} {t r ca : Addr} {a : Row} (h : OutL C H vs R) (h1 : H t = some (.tup [.ref r, .int a.1, .ref ca])) (h2 : RatAt C H r (redN 1 (prodC a.2.2)) (redD 1 (prodC a.2.2))) (h3 : H ca = some (.tup (a.2.1.map V.int))) : OutL C H (vs ++ [.ref t]) (R ++ [a]) := by
  induction h with
  | nil => exact .cons h1 h2 h3 .nil
  | cons g1 g2 g3 _ ih => exact .cons g1 g2 g3 ih
theorem OutL.len {C : Addr} {H : Hp} {vs : List V} {R : List Row} (h : OutL C H vs R) : vs.length = R.length := by
  induction h with
  | nil => rfl
  | cons _ _ _ _ ih => rw [List.length_cons, List.length_cons, ih]
theorem OutL.get {C : Addr} {H : Hp} {vs : List V} {R : List Row} (h : OutL C H vs R) : ∀ {i : Nat} {v : V}, vs[i]? = some v → ∃ t r ca a, v = .ref t ∧ R[i]? = some a ∧ H t = some (.tup [.ref r, .int a.1, .ref ca]) ∧ RatAt C H r (redN 1 (prodC a.2.2)) (redD 1 (prodC a.2.2)) ∧ H ca = some (.tup (a.2.1.map V.int)) := by
  induction h with
  | nil => intro i v h; simp at h
  | cons h1 h2 h3 _ ih =>
    intro i v hv
    cases i with
    | zero => simp at hv; subst hv; exact ⟨_, _, _, _, rfl, rfl, h1, h2, h3⟩
    | succ i => simpa using ih (by simpa using hv)
/-- the rows that are due -/
inductive DueL (H : Hp) : List V → List Row → Prop
  | nil : DueL H [] []
  | cons {t ca : Addr} {a : Row} {vs : List V} {R : List Row} : H t = some (.tup [.int (prodC a.2.2), .int a.1, .ref ca]) → H ca = some (.tup (a.2.1.map V.int)) → DueL H vs R → DueL H (.ref t :: vs) (a :: R)
theorem DueL.tk {H H' : Hp} (k : TK H H') {vs : List V} {R : List Row} (h : DueL H vs R) : DueL H' vs R := by
  induction h with
  | nil => exact .nil
  | cons h1 h3 _ ih => exact .cons (k _ _ h1) (k _ _ h3) ih
theorem DueL.snoc {H : Hp} {vs : List V} {R : List Row} {t ca : Addr} {a : Row} (h : DueL H vs R) (h1 : H t = some (.tup [.int (prodC a.2.2), .int a.1, .ref ca])) (h3 : H ca = some (.tup (a.2.1.map V.int))) : DueL H (vs ++ [.ref t]) (R ++ [a]) := by
  induction h with
  | nil => exact .cons h1 h3 .nil
  | cons g1 g3 _ ih => exact .cons g1 g3 ih
theorem DueL.len {H : Hp} {vs : List V} {R : List Row} (h : DueL H vs R) : vs.length = R.length := by
  induction h with
  | nil => rfl
  | cons _ _ _ ih => rw [List.length_cons, List.length_cons, ih]
theorem DueL.get {H : Hp} {vs : List V} {R : List Row} (h : DueL H vs R) : ∀ {i : Nat} {v : V}, vs[i]? = some v → ∃ t ca a, v = .ref t ∧ R[i]? = some a ∧ H t = some (.tup [.int (prodC a.2.2), .int a.1, .ref ca]) ∧ H ca = some (.tup (a.2.1.map V.int)) := by
  induction h with
  | nil => intro i v h; simp at h
  | cons h1 h3 _ ih =>
    intro i v hv
    cases i with
    | zero => simp at hv; subst hv; exact ⟨_, _, _, rfl, rfl, h1, h3⟩
    | succ i => simpa using ih (by simpa using hv)
abbrev thG (ns : List Str) (cs : List Int) (b : Bl) (e : Ex) (count : Int) (es : List Ev) (u : Int) : List Int → Row := fun rs => thk ns cs b e count (nums es) rs u []
theorem ThIn.run {K : PySem.W.Frag} {H : Hp} {ce bk ca vw : Addr} {an : V} {ns : List Str} {ks cs : List Int} {b : Bl} {e : Ex} {xs : List V} {es : List Ev} {u : Int} (h : ThIn K H ce bk ca vw an ns ks cs b e xs es u) (u1 : u ≤ 25) (count : Int) : Run (thG ns cs b e count es u) 25 ns.length :=
  thk_run h.cl (nums_ok h.eo) h.bo.bo (h.mok []) u1
theorem enum_step0 {F : List Int → Row} {R : List Row} {rs : List Int} {E0 : Option (List Row)} {n : Nat} (h : E0 = (enumR F n rs).map (R ++ ·)) (n0 : 0 < n) (hf : foll (F rs).2.2 = none) : E0 = some (R ++ [F rs]) := by
  obtain ⟨k, rfl⟩ : ∃ k, n = k + 1 := ⟨n - 1, by omega⟩
  rw [h]
  unfold enumR
  rw [hf]; rfl
theorem enum_step1 {F : List Int → Row} {R : List Row} {rs us : List Int} {E0 : Option (List Row)} {n m : Nat} (h : E0 = (enumR F n rs).map (R ++ ·)) (n0 : n = m + 1) (hf : foll (F rs).2.2 = some us) : E0 = (enumR F m us).map ((R ++ [F rs]) ++ ·) := by
  subst n0
  rw [h]
  conv => lhs; unfold enumR
  rw [hf]
  show ((enumR F m us).map (F rs :: ·)).map (R ++ ·) = _
  rw [Option.map_map]
  congr 1
  funext x
  simp
def sp_out (K : PySem.W.Frag) (CB CR CL : Addr) : Sp := fun vs H Q E => ∃ B ce bk ca vw an ns ks cs b e xs es u count, vs = [.ref B, .ref ca, .ref vw, .int count] ∧ BrA CB H B u ce bk an ∧ ThIn K H ce bk ca vw an ns ks cs b e xs es u ∧ u ≤ 25 ∧
  (∀ R l ws H', enumR (thG ns cs b e count es u) 200 [] = some R → H l = none → H' l = some (.lst ws) → OutL CR H' ws R → Keep [] H H' → Q (.ref l) H') ∧
  (∀ d H', enumR (thG ns cs b e count es u) 200 [] = none → H d = none → H' d = some (.xd [("what", .str "lots")]) → Keep [] H H' → E (.ref CL) (some d) H')
def sp_lout (K : PySem.W.Frag) : Sp := fun vs H Q _ => ∃ br ce bk ca vw an ns ks cs b e xs es u count, vs = [.ref br, .ref ca, .ref vw, .int count] ∧ H br = some (.tup [.int u, .ref ce, .ref bk, an]) ∧ ThIn K H ce bk ca vw an ns ks cs b e xs es u ∧ u ≤ 25 ∧
  (∀ R l ws H', enumR (thG ns cs b e count es u) 200 [] = some R → H l = none → H' l = some (.lst ws) → DueL H' ws R → Keep [] H H' → Q (.ref l) H') ∧
  (∀ H', enumR (thG ns cs b e count es u) 200 [] = none → Keep [] H H' → Q .non H')
section
variable {P : Program} {w : World} {K : PySem.W.Frag} {mg : Str → Option Value} {base : Heap} {C_Ratio : Addr} {C_Tape : Addr} {C_Thinker : Addr} {C_Brain : Addr} {C_GameError : Addr} {C_TooLarge : Addr} {f_TooLarge___init : Addr} {T_EVENTS : Addr}
theorem ok_out {f : Addr} {fd : FuncData} (D : C8.Def K mg "outcomes" s_outcomes f fd) (b : Binds K fd ["brain", "cells", "view", "count"] []) (T : Txt K mg C_Ratio C_Tape C_Thinker C_Brain C_GameError C_TooLarge T_EVENTS) (X_TooLarge : SupX_TooLarge.Txt P K mg "TooLarge" C_TooLarge f_TooLarge___init) (c_Tape : C8.Mak P w K mg base 1 "Tape" C_Tape (sp_tape K C_Tape) []) (c_think : C8.Cal P w K mg base 42 "think" (sp_think K C_Brain C_Tape) [])
    (c_Tape_chance : C8.Met P w K mg base 3 C_Tape "chance" (sp_chance C_Tape C_Ratio) []) (c_Tape_following : C8.Met P w K mg base 1 C_Tape "following" (sp_following C_Tape) []) : CalX P w K mg base 43 "outcomes" (sp_out K C_Brain C_Ratio C_TooLarge) [] := by
  refine CalX.of D (fnx D.fn sc_outcomes (fun vs H Q E h => ?_) (fun cdv A outer s H vs Q E hr h => ?_)) b .nil
  · obtain ⟨B, ce, bk, ca, vw, an, ns, ks, cs, b, e, xs, es, u, count, rfl, _⟩ := h
    rfl
  · obtain ⟨B, ce, bk, ca, vw, an, ns, ks, cs, b, e, xs, es, u, count, rfl, ⟨dB, oB⟩, hI, u25, k1, k2⟩ := h
    have hR := hI.run u25 count
    refine ⟨_, (pss_cons (ps_set (i := 4) sc_outcomes.nd rfl (by first | exact Or.inl rfl | exact Or.inr rfl) (pe_lst pa_nil))
(pss_cons (ps_set (i := 5) sc_outcomes.nd rfl (by first | exact Or.inl rfl | exact Or.inr rfl) (pe_lst pa_nil))
(pss_cons (ps_while (passes_of rfl) (pt_cmpR op_notN (pv 5) pe_non (nomark _))
  (pss_cons (ps_if (pt_cmpR op_eq (pe_callB call_len_seq (by rfl) T.n_len bo_len (pa_cons (pv 4) pa_nil)) (pe_gc rfl T.v_MOST_OUTCOMES) (nomark _))
    (pss_one (SupX_TooLarge.ps_raiseE rfl X_TooLarge hr (takes_of rfl rfl rfl rfl) (pa_cons pe_str pa_nil)))
    pss_nil)
  (pss_cons (ps_set (i := 6) sc_outcomes.nd rfl (by first | exact Or.inl rfl | exact Or.inr rfl) (pe_mk c_Tape hr (by first | exact Nat.le_refl _ | decide | omega) rfl (pa_cons (pv 5) pa_nil)))
  (pss_cons (ps_asg (pe_c c_think hr (by first | exact Nat.le_refl _ | decide | omega) rfl (pa_cons (pv 0) (pa_cons (pv 1) (pa_cons (pv 2) (pa_cons (pv 3) (pa_cons (pv 6) pa_nil)))))) (pg_tup (by rfl) (pgs_cons (pg_name (i := 7) sc_outcomes.nd rfl (by first | exact Or.inl rfl | exact Or.inr rfl)) (pgs_cons (pg_name (i := 8) sc_outcomes.nd rfl (by first | exact Or.inl rfl | exact Or.inr rfl)) pgs_nil))))
  (pss_cons (ps_expr (pe_bm PySem.F.plainAttrs_list PySem.F.slot_list_append PySem.F.type_list_append mt_append (pv 4) (pa_cons (pe_tup (pa_cons (pe_mt0 c_Tape_chance hr (by first | exact Nat.le_refl _ | decide | omega) (pv 6)) (pa_cons (pv 7) (pa_cons (pv 8) pa_nil)))) pa_nil)))
  (pss_one (ps_set (i := 5) sc_outcomes.nd rfl (by first | exact Or.inl rfl | exact Or.inr rfl) (pe_mt0 c_Tape_following hr (by first | exact Nat.le_refl _ | decide | omega) (pv 6)))))))))
(pss_one (ps_ret (pv 4)))))), ?_⟩
    refine And.intro (by show 0 ≤ sizeLine; decide) <| fun l nl => And.intro (by show 0 ≤ sizeLine; decide) <| fun r0 nr0 => ?_
    have K0 : Keep [] H (upd (upd H l (.lst [])) r0 (.lst [])) := (Keep.new nl).then_new nr0
    have er0 : r0 ≠ l := (ne_of_none upd_same nr0).symm
    generalize hF : thG ns cs b e count es u = F at *
    refine ⟨fun m σ H' => ∃ (ws : List V) (R : List Row) (v : V) (o6 o7 o8 : Option V), σ = [some (.ref B), some (.ref ca), some (.ref vw), some (.int count), some (.ref l), some v, o6, o7, o8] ∧ H' l = some (.lst ws) ∧ OutL C_Ratio H' ws R ∧ Keep [] H H' ∧ R.length ≤ 200 ∧
        ((v = .non ∧ enumR F 200 [] = some R) ∨ (∃ rl rs, v = .ref rl ∧ H' rl = some (.lst (rs.map V.int)) ∧ rl ≠ l ∧ m = 201 - R.length ∧ enumR F 200 [] = (enumR F (200 - R.length) rs).map (R ++ ·))),
      ⟨201, [], [], _, none, none, none, rfl, by rw [upd_ne er0.symm]; exact upd_same, .nil, K0, Nat.zero_le _, .inr ⟨r0, [], rfl, upd_same, er0, rfl, by simp⟩⟩, ?_⟩
    rintro m σ H1 ⟨ws, R, v, o6, o7, o8, rfl, hl1, hO1, K1, len1, hv | ⟨rl, rs, rfl, hrl, nrl, rfl, hE⟩⟩
    · obtain ⟨rfl, hE⟩ := hv
      exact ⟨_, rfl, rfl, _, rfl, iteNF rfl ⟨_, rfl, k1 R l ws H1 hE nl hl1 hO1 K1⟩⟩
    refine ⟨_, rfl, rfl, _, rfl, iteNT (fun z => by cases z) ⟨_, fun _ _ z => z, ?_⟩⟩
    refine ⟨_, rfl, _, _, rfl, .inl (SqL.of hl1), rfl, _, rfl, iteD (fun h => ?_) (fun h => ?_)⟩
    · have e : R.length = 200 := by
        rw [hO1.len] at h
        have := V.int.inj h
        omega
      rw [e] at hE
      refine ⟨_, rfl, fun d nd => ?_⟩
      exact k2 d _ (by rw [hE]; rfl) (K1.free nd) upd_same (K1.then_new nd)
    have len : R.length < 200 := by
      rw [hO1.len] at h
      have : ¬ (R.length : Int) = 200 := fun z => h (by rw [z])
      omega
    refine ⟨_, rfl, fun tp dt ntp ndt nedt => ?_⟩
    have km : Keep [] H1 (upd (upd H1 dt (.own tp)) tp (.ins C_Tape dt [])) := Keep.made ntp ndt
    refine ⟨tp, dt, rl, rs, rfl, SqL.of (km _ _ hrl (by simp)), upd_same, fun rx tx H2 nrx ntx K2 TA2 => ⟨rfl, ?_⟩⟩
    have k12 : Keep [] H1 H2 := keep_made ntp ndt K2
    have nrx1 := km.free nrx
    have ntx1 := km.free ntx
    have K02 := K1.trans k12
    refine ⟨_, rfl, _, rfl, _, rfl, _, rfl, _, rfl, B, ce, bk, ca, vw, tp, rx, tx, an, ns, ks, cs, b, e, xs, es, u, count, rs, [], rfl, ⟨dB, K02 _ _ oB (by simp)⟩, hI.tk K02.tk, TA2, Nat.zero_le _, fun t ct H3 nt ht hct TA3 K3 => ?_⟩
    have eF : thk ns cs b e count (nums es) rs u [] = F rs := by rw [← hF]
    rw [eF] at ht hct TA3
    have k13 : Keep [] H1 H3 := fun a o h _ => K3 _ _ (k12 _ _ h (by simp)) (by have := ne_of_none h ntx1; simpa using this)
    refine ⟨t, _, rfl, SqT.of ht, rfl, _, _, rfl, _, _, rfl, rfl, ?_⟩
    have hl3 := k13 _ _ hl1 (by simp)
    obtain ⟨dt3, ot3⟩ := TA3.o
    have hen := hR.e rs
    have hlen := hR.l rs
    refine ⟨_, rfl, .inl ⟨rfl, _, SqL.of hl3⟩, _, rfl, tp, dt3, _, rfl, ot3, rfl, tp, rx, tx, rs, (F rs).2.2, rfl, by omega, hen.cnt, TA3, fun r H4 K4 hr4 => ?_⟩
    have TA4 := TA3.keep K4 K4.tk (by simp) (by simp) (by simp)
    have hl4 := K4 _ _ hl3 (by simp)
    have k14 := k13.trans K4
    refine ⟨_, rfl, _, rfl, And.intro (by show 3 ≤ sizeLine; decide) <| fun tt ntt => ?_⟩
    have k5 : Keep [] H4 (upd H4 tt (.tup [.ref r, .int (F rs).1, .ref ct])) := Keep.new ntt
    have TA5 := TA4.keep k5 k5.tk (by simp) (by simp) (by simp)
    have hl5 := k5 _ _ hl4 (by simp)
    have hO5 := ((hO1.keep (k14.trans k5)).snoc (a := F rs) upd_same (hr4.keep0 k5) (k5 _ _ (K4 _ _ hct (by simp)) (by simp)))
    refine ⟨l, ws, _, rfl, rfl, hl5, smallL (by rw [hO1.len]; omega), ?_⟩
    have K05 := (K1.trans k14).trans k5
    generalize upd H4 tt (.tup [.ref r, .int (F rs).1, .ref ct]) = H5 at *
    have k6 : Keep [l] H5 (upd H5 l (.lst (ws ++ [.ref tt]))) := Keep.at_ (List.mem_singleton.mpr rfl)
    have nlx : rx ≠ l := (ne_of_none hl1 nrx1).symm
    have nlt : tx ≠ l := (ne_of_none hl1 ntx1).symm
    have nlp : tp ≠ l := (ne_of_none hl1 ntp).symm
    have TA6 := TA5.keep k6 (TK.lst hl5) (by simpa using nlp) (by simpa using nlx) (by simpa using nlt)
    have hO6 := hO5.keepL hl5 k6
    have K06 : Keep [] H (upd H5 l (.lst (ws ++ [.ref tt]))) := K05.then_own nl
    have hl6 : upd H5 l (.lst (ws ++ [.ref tt])) l = some (.lst (ws ++ [.ref tt])) := upd_same
    generalize upd H5 l (.lst (ws ++ [.ref tt])) = H6 at *
    obtain ⟨dt6, ot6⟩ := TA6.o
    refine ⟨_, rfl, tp, dt6, _, rfl, ot6, rfl, tp, rx, tx, rs, (F rs).2.2, rfl, by omega, TA6, fun hn => ?_, fun ys l2 H7 hf nl2 hl2 K7 => ?_⟩
    · exact ⟨0, by omega, _, R ++ [F rs], _, _, _, _, rfl, hl6, hO6, K06, by rw [List.length_append]; exact len, .inl ⟨rfl, enum_step0 hE (by omega) hn⟩⟩
    · refine ⟨201 - (R ++ [F rs]).length, ?_, _, R ++ [F rs], _, _, _, _, rfl, K7 _ _ hl6 (by simp), hO6.keep K7, K06.trans K7, by rw [List.length_append]; exact len, .inr ⟨l2, ys, rfl, hl2, ?_, rfl, enum_step1 hE ?_ hf⟩⟩
      · rw [List.length_append]; simp; omega
      · exact (ne_of_none hl6 nl2).symm
      · rw [List.length_append]; simp; omega
end

/-- the last lot that has a result more, among the first j -/
def LastOk (tk : List (Int × Int)) (j : Nat) (z : Int) : Prop := (z = -1 ∧ foll (tk.take j) = none) ∨ ∃ (m : Nat) (r c : Int), z = (m : Int) ∧ m < j ∧ tk[m]? = some (r, c) ∧ foll (tk.take j) = some ((tk.take m).map (·.1) ++ [r + 1])
theorem LastOk.yes {tk : List (Int × Int)} {j : Nat} {z r c : Int} (_ : LastOk tk j z) (hg : tk[j]? = some (r, c)) (h : r + 1 < c) : LastOk tk (j + 1) (j : Int) := by
  obtain ⟨hlt, he⟩ := List.getElem?_eq_some_iff.mp hg
  refine .inr ⟨j, r, c, rfl, Nat.lt_succ_self _, hg, ?_⟩
  rw [List.take_succ_eq_append_getElem hlt, he, foll_snoc, if_pos h]
theorem LastOk.no {tk : List (Int × Int)} {j : Nat} {z r c : Int} (a : LastOk tk j z) (hg : tk[j]? = some (r, c)) (h : ¬ r + 1 < c) : LastOk tk (j + 1) z := by
  obtain ⟨hlt, he⟩ := List.getElem?_eq_some_iff.mp hg
  have e : foll (tk.take (j + 1)) = foll (tk.take j) := by rw [List.take_succ_eq_append_getElem hlt, he, foll_snoc, if_neg h]
  rcases a with ⟨h1, h2⟩ | ⟨m, r', c', h1, h2, h3, h4⟩
  · exact .inl ⟨h1, e ▸ h2⟩
  · exact .inr ⟨m, r', c', h1, by omega, h3, e ▸ h4⟩
section
variable {P : Program} {w : World} {K : PySem.W.Frag} {mg : Str → Option Value} {base : Heap} {C_Ratio : Addr} {C_Tape : Addr} {C_Thinker : Addr} {C_Brain : Addr} {C_GameError : Addr} {C_TooLarge : Addr} {f_TooLarge___init : Addr} {T_EVENTS : Addr}
theorem ok_lout {f : Addr} {fd : FuncData} (D : C8.Def K mg "_law_outcomes" s_law_outcomes f fd) (b : Binds K fd ["brain", "cells", "view", "count"] []) (T : Txt K mg C_Ratio C_Tape C_Thinker C_Brain C_GameError C_TooLarge T_EVENTS) (c_law_think : C8.Cal P w K mg base 23 "_law_think" (sp_lthink K) []) : C8.Cal P w K mg base 24 "_law_outcomes" (sp_lout K) [] := by
  refine cal0 D b .nil sc_law_outcomes (fun vs H Q E h => ?_) (fun cdv A outer s H vs Q E hr h => ?_)
  · obtain ⟨br, ce, bk, ca, vw, an, ns, ks, cs, b, e, xs, es, u, count, rfl, _⟩ := h
    rfl
  · obtain ⟨br, ce, bk, ca, vw, an, ns, ks, cs, b, e, xs, es, u, count, rfl, hbr, hI, u25, k1, k2⟩ := h
    have hR := hI.run u25 count
    refine ⟨_, (pss_cons (ps_set (i := 4) sc_law_outcomes.nd rfl (by first | exact Or.inl rfl | exact Or.inr rfl) (pe_lst pa_nil))
(pss_cons (ps_set (i := 5) sc_law_outcomes.nd rfl (by first | exact Or.inl rfl | exact Or.inr rfl) (pe_lst pa_nil))
(pss_cons (ps_for PassesOwn.never rfl (pi_range1 (by rfl) T.n_range (pa_cons pe_int pa_nil)) (pg_name (i := 6) sc_law_outcomes.nd rfl (by first | exact Or.inl rfl | exact Or.inr rfl))
  (pss_cons (ps_set (i := 7) sc_law_outcomes.nd rfl (by first | exact Or.inl rfl | exact Or.inr rfl) (pe_lst pa_nil))
  (pss_cons (ps_set (i := 8) sc_law_outcomes.nd rfl (by first | exact Or.inl rfl | exact Or.inr rfl) (pe_c c_law_think hr (by first | exact Nat.le_refl _ | decide | omega) rfl (pa_cons (pv 0) (pa_cons (pv 1) (pa_cons (pv 2) (pa_cons (pv 3) (pa_cons (pv 5) (pa_cons (pv 7) pa_nil))))))))
  (pss_cons (ps_set (i := 9) sc_law_outcomes.nd rfl (by first | exact Or.inl rfl | exact Or.inr rfl) pe_int)
  (pss_cons (ps_for PassesOwn.never rfl (pi_list (pv 7)) (pg_name (i := 10) sc_law_outcomes.nd rfl (by first | exact Or.inl rfl | exact Or.inr rfl))
    (pss_one (ps_set (i := 9) sc_law_outcomes.nd rfl (by first | exact Or.inl rfl | exact Or.inr rfl) (pe_op op_mul (pv 9) (pe_ix ix_tup (pv 10) pe_int (fun _ _ => rfl))))))
  (pss_cons (ps_expr (pe_bm PySem.F.plainAttrs_list PySem.F.slot_list_append PySem.F.type_list_append mt_append (pv 4) (pa_cons (pe_tup (pa_cons (pv 9) (pa_cons (pe_ix ix_tup (pv 8) pe_int (fun _ _ => rfl)) (pa_cons (pe_ix ix_tup (pv 8) pe_int (fun _ _ => rfl)) pa_nil)))) pa_nil)))
  (pss_cons (ps_set (i := 11) sc_law_outcomes.nd rfl (by first | exact Or.inl rfl | exact Or.inr rfl) (pe_un un_neg pe_int))
  (pss_cons (ps_for PassesOwn.never rfl (pi_range1 (by rfl) T.n_range (pa_cons (pe_callB call_len_seq (by rfl) T.n_len bo_len (pa_cons (pv 7) pa_nil)) pa_nil)) (pg_name (i := 12) sc_law_outcomes.nd rfl (by first | exact Or.inl rfl | exact Or.inr rfl))
    (pss_one (ps_if (pt_cmpR op_lt (pe_op op_add (pe_ix ix_tup (pe_ix ix_list (pv 7) (pv 12) (fun _ _ => rfl)) pe_int (fun _ _ => rfl)) pe_int) (pe_ix ix_tup (pe_ix ix_list (pv 7) (pv 12) (fun _ _ => rfl)) pe_int (fun _ _ => rfl)) (nomark _))
      (pss_one (ps_set (i := 11) sc_law_outcomes.nd rfl (by first | exact Or.inl rfl | exact Or.inr rfl) (pv 12)))
      pss_nil)))
  (pss_cons (ps_if (pt_cmpR op_lt (pv 11) pe_int (nomark _))
    (pss_one (ps_ret (pv 4)))
    pss_nil)
  (pss_one (ps_set (i := 5) sc_law_outcomes.nd rfl (by first | exact Or.inl rfl | exact Or.inr rfl) (pe_op op_cat (pe_lc (own := [("at", 12)]) (g := gName 12) (tt := tYes) rfl sc_law_outcomes.nd (pi_range1 (by rfl) T.n_range (pa_cons (pv 11) pa_nil)) (blkOk_by (N := ["brain", "cells", "view", "count", "rows", "results", "k", "taken", "told", "ways", "row", "last", "at"]) (sc := fnScope s_law_outcomes) (by decide +kernel)) (fun _ _ _ _ _ => pg_name (i := 12) sc_law_outcomes.nd rfl (Or.inl rfl)) (fun _ _ _ _ _ => pts_nil) (fun _ _ _ _ _ => (pe_ix (ix_tupK (K := K)) (pe_ix (ix_listK (K := K)) (pv 7) (pv 12) (fun _ _ => rfl)) pe_int (fun _ _ => rfl)))) (pe_lst (pa_cons (pe_op op_add (pe_ix ix_tup (pe_ix ix_list (pv 7) (pv 11) (fun _ _ => rfl)) pe_int (fun _ _ => rfl)) pe_int) pa_nil))))))))))))))
(pss_one (ps_ret pe_non))))), ?_⟩
    refine And.intro (by show 0 ≤ sizeLine; decide) <| fun l nl => And.intro (by show 0 ≤ sizeLine; decide) <| fun r0 nr0 => ?_
    have K0 : Keep [] H (upd (upd H l (.lst [])) r0 (.lst [])) := (Keep.new nl).then_new nr0
    have er0 : r0 ≠ l := (ne_of_none upd_same nr0).symm
    generalize hF : thG ns cs b e count es u = F at *
    refine ⟨200, rfl, by decide, by decide, for_range (lo := 0) (n := 200) (fun i σ H' => ∃ (ws : List V) (R : List Row) (rl : Addr) (rs : List Int) (o6 o7 o8 o9 o10 o11 o12 : Option V), σ = [some (.ref br), some (.ref ca), some (.ref vw), some (.int count), some (.ref l), some (.ref rl), o6, o7, o8, o9, o10, o11, o12] ∧ H' l = some (.lst ws) ∧ DueL H' ws R ∧ Keep [] H H' ∧ R.length = i ∧ H' rl = some (.lst (rs.map V.int)) ∧ rl ≠ l ∧ enumR F 200 [] = (enumR F (200 - i) rs).map (R ++ ·))
      ⟨[], [], r0, [], none, none, none, none, none, none, none, rfl, by rw [upd_ne er0.symm]; exact upd_same, .nil, K0, rfl, upd_same, er0, by simp⟩ ?_ ?_⟩
    · rintro i σ H1 hi ⟨ws, R, rl, rs, o6, o7, o8, o9, o10, o11, o12, rfl, hl1, hD1, K1, len1, hrl, nrl, hE⟩
      refine And.intro (by show 0 ≤ sizeLine; decide) <| fun tl ntl => ?_
      have k2 : Keep [] H1 (upd H1 tl (.lst [])) := Keep.new ntl
      have K02 := K1.trans k2
      have ntr : tl ≠ rl := (ne_of_none hrl ntl).symm
      have ntl' : tl ≠ l := (ne_of_none hl1 ntl).symm
      refine ⟨_, rfl, _, rfl, _, rfl, _, rfl, _, rfl, _, rfl, br, ce, bk, ca, vw, rl, tl, an, ns, ks, cs, b, e, xs, es, u, count, rs, rfl, K02 _ _ hbr (by simp), hI.tk K02.tk, k2 _ _ hrl (by simp), upd_same, ntr, fun t ct z H3 nt ht hct htl K3 => ?_⟩
      have eF : thk ns cs b e count (nums es) rs u [] = F rs := by rw [← hF]
      rw [eF] at ht hct htl
      have hen := hR.e rs
      have hlen := hR.l rs
      generalize ha : F rs = a at *
      obtain ⟨ys, hys, pl⟩ := htl
      have k13 : Keep [] H1 H3 := fun x o h _ => K3 _ _ (k2 _ _ h (by simp)) (by have := ne_of_none h ntl; simpa using this)
      have hl3 := k13 _ _ hl1 (by simp)
      have ylen := pl.len
      have hct0 : CntOk a.2.2 := hen.cnt
      refine ⟨_, rfl, tl, rfl, ⟨_, SqL.of hys⟩, for_list (K := K) (a := tl) (xs := ys) (fun j σ H' => H' = H3 ∧ ∃ o10 : Option V, σ = [some (.ref br), some (.ref ca), some (.ref vw), some (.int count), some (.ref l), some (.ref rl), some (.int (0 + (i : Nat))), some (.ref tl), some (.ref t), some (.int (prodC (a.2.2.take j))), o10, o11, o12])
        ⟨rfl, _, rfl⟩ (fun j σ H' _ ⟨h, _⟩ => by rw [h]; exact SqL.of hys) ?_ ?_⟩
      · rintro j v σ H' hv ⟨rfl, o10, rfl⟩
        obtain ⟨tt, r, c, rfl, hg, htt⟩ := pl.get hv
        obtain ⟨hlt, he⟩ := List.getElem?_eq_some_iff.mp hg
        have hcc := hct0 _ (he ▸ List.getElem_mem hlt)
        refine ⟨_, rfl, _, rfl, _, _, _, _, rfl, rfl, SqT.of htt, rfl, _, _, rfl, rfl, .inr ⟨by have := hcc.1; omega, by have := hcc.2; omega⟩, ?_⟩
        refine ⟨rfl, some (.ref tt), ?_⟩
        rw [List.take_succ_eq_append_getElem hlt, he, prodC_snoc]; rfl
      rintro σ H' ⟨rfl, o10, rfl⟩
      rw [ylen, List.take_length]
      refine ⟨_, rfl, .inl ⟨rfl, _, SqL.of hl3⟩, _, rfl, _, rfl, _, _, _, _, rfl, rfl, SqT.of ht, rfl, _, rfl, _, _, _, _, rfl, rfl, SqT.of ht, rfl, And.intro (by show 3 ≤ sizeLine; decide) <| fun tt ntt => ?_⟩
      have k4 : Keep [] H' (upd H' tt (.tup [.int (prodC a.2.2), .int a.1, .ref ct])) := Keep.new ntt
      have hl4 := k4 _ _ hl3 (by simp)
      refine ⟨l, ws, _, rfl, rfl, hl4, smallL (by rw [hD1.len]; omega), ?_⟩
      have tk13 := k13.tk
      have hD4 := (hD1.tk (tk13.trans k4.tk)).snoc (a := a) (t := tt) upd_same (k4 _ _ hct (by simp))
      have hys4 := k4 _ _ hys (by simp)
      have pl4 := pl.tk k4.tk
      have hrl4 := k4 _ _ (k13 _ _ hrl (by simp)) (by simp)
      have K04 := (K1.trans k13).trans k4
      generalize upd H' tt (.tup [.int (prodC a.2.2), .int a.1, .ref ct]) = H4 at *
      have tk5 : TK H4 (upd H4 l (.lst (ws ++ [.ref tt]))) := TK.lst hl4
      have k5 : Keep [l] H4 (upd H4 l (.lst (ws ++ [.ref tt]))) := Keep.at_ (List.mem_singleton.mpr rfl)
      have hD5 := hD4.tk tk5
      have hys5 := k5 _ _ hys4 (by simpa using ntl')
      have pl5 := pl4.tk tk5
      have K05 : Keep [] H (upd H4 l (.lst (ws ++ [.ref tt]))) := K04.then_own nl
      have hl5 : upd H4 l (.lst (ws ++ [.ref tt])) l = some (.lst (ws ++ [.ref tt])) := upd_same
      generalize upd H4 l (.lst (ws ++ [.ref tt])) = H5 at *
      refine ⟨_, rfl, _, rfl, _, _, rfl, .inl (SqL.of hys5), _, rfl, by omega, by omega, ?_⟩
      refine for_range (lo := 0) (n := ys.length) (fun j σ H' => H' = H5 ∧ ∃ (z : Int) (o12 : Option V), σ = [some (.ref br), some (.ref ca), some (.ref vw), some (.int count), some (.ref l), some (.ref rl), some (.int (0 + (i : Nat))), some (.ref tl), some (.ref t), some (.int (prodC a.2.2)), o10, some (.int z), o12] ∧ LastOk a.2.2 j z)
        ⟨rfl, _, _, rfl, .inl ⟨rfl, rfl⟩⟩ ?_ ?_
      · rintro j σ H' hj ⟨rfl, z2, o12, rfl, hz⟩
        have e0 : (0 : Int) + (j : Int) = (j : Int) := by omega
        rw [e0]
        obtain ⟨v, hv⟩ : ∃ v, ys[j]? = some v := ⟨ys[j]'hj, List.getElem?_eq_getElem hj⟩
        obtain ⟨tt2, r, c, rfl, hg, htt⟩ := pl5.get hv
        refine ⟨_, rfl, _, rfl, _, _, _, _, rfl, rfl, SqL.of hys5, atI_nat hv, _, _, _, _, rfl, rfl, SqT.of htt, rfl, _, _, rfl, rfl, _, rfl, _, rfl, _, _, _, _, rfl, rfl, SqL.of hys5, atI_nat hv, _, _, _, _, rfl, rfl, SqT.of htt, rfl, _, _, rfl, rfl, _, rfl, iteD (fun h => ?_) (fun h => ?_)⟩
        · exact ⟨_, rfl, rfl, _, _, rfl, hz.yes hg h⟩
        · exact ⟨rfl, _, _, rfl, hz.no hg h⟩
      rintro σ H' ⟨rfl, z2, o12, rfl, hz⟩
      rw [ylen] at hz
      refine ⟨_, rfl, _, _, rfl, rfl, _, rfl, iteD (fun h => ?_) (fun h => ?_)⟩
      · have hn : foll a.2.2 = none := by
          have h' : z2 < 0 := h
          rcases hz with ⟨_, e⟩ | ⟨m, r, c, e, _⟩
          · rw [List.take_length] at e; exact e
          · omega
        refine ⟨_, rfl, k1 (R ++ [a]) l _ H' ?_ nl hl5 hD5 K05⟩
        have := enum_step0 hE (by omega) (by rw [ha]; exact hn)
        rw [ha] at this; exact this
      · have h' : ¬ z2 < 0 := h
        obtain ⟨m, r, c, rfl, hm, hg, hf⟩ : ∃ (m : Nat) (r c : Int), z2 = (m : Int) ∧ m < a.2.2.length ∧ a.2.2[m]? = some (r, c) ∧ foll a.2.2 = some ((a.2.2.take m).map (·.1) ++ [r + 1]) := by
          rcases hz with ⟨e, _⟩ | ⟨m, r, c, e, hm, hg, hf⟩
          · omega
          · rw [List.take_length] at hf
            exact ⟨m, r, c, e, hm, hg, hf⟩
        obtain ⟨v, hv⟩ : ∃ v, ys[m]? = some v := ⟨ys[m]'(by omega), List.getElem?_eq_getElem (by omega)⟩
        obtain ⟨tt2, r', c', rfl, hg', htt⟩ := pl5.get hv
        rw [hg] at hg'
        cases hg'
        refine ⟨_, rfl, _, rfl, by omega, by omega, fun L hL => ?_⟩
        refine lc_range (n := m) (fun i H2 => H2 L = some (.lst ((a.2.2.take i).map fun p => V.int p.1)) ∧ Keep [] H' H2) ⟨upd_same, Keep.new hL⟩ ?_ ?_
        · rintro i H2 hi2 ⟨hD, kk⟩
          have hi3 : i < a.2.2.length := by omega
          obtain ⟨v2, hv2⟩ : ∃ v, ys[i]? = some v := ⟨ys[i]'(by omega), List.getElem?_eq_getElem (by omega)⟩
          obtain ⟨t2, r2, c2, rfl, hg2, ht2⟩ := pl5.get hv2
          refine ⟨rfl, yes_then ⟨_, rfl, _, rfl, _, _, _, _, rfl, rfl, SqL.of (kk _ _ hys5 (by simp)), ?_, _, _, _, _, rfl, rfl, SqT.of (kk _ _ ht2 (by simp)), rfl, _, hD, by rw [List.length_map, List.length_take]; exact smallL (by omega), ?_, kk.then_own hL⟩⟩
          · have e0 : (0 : Int) + (i : Int) = (i : Int) := by omega
            rw [e0]; exact atI_nat hv2
          · rw [List.take_succ_eq_append_getElem hi3, (List.getElem?_eq_some_iff.mp hg2).2, List.map_append]; exact upd_same
        · rintro H2 ⟨hD, kk⟩
          refine ⟨_, rfl, _, rfl, _, _, _, _, rfl, rfl, SqL.of (kk _ _ hys5 (by simp)), atI_nat hv, _, _, _, _, rfl, rfl, SqT.of (kk _ _ htt (by simp)), rfl, _, _, rfl, rfl, by show 1 ≤ sizeLine; decide, fun l2 nl2 => ⟨_, _, _, _, rfl, rfl, Keep.new (W := []) nl2 _ _ hD (by simp), upd_same, ?_, fun M hM => ?_⟩⟩
          · rw [List.length_map, List.length_take]; exact smallM (by simp; omega)
          · have kA := kk.then_new (o := .lst [.int (r + 1)]) nl2
            have kB := kA.then_new (o := .lst ((a.2.2.take m).map (fun p => V.int p.1) ++ [.int (r + 1)])) hM
            refine ⟨_, R ++ [a], M, (a.2.2.take m).map (·.1) ++ [r + 1], _, _, _, _, _, _, _, rfl, kB _ _ hl5 (by simp), hD5.tk kB.tk, K05.trans kB, by rw [List.length_append, len1]; rfl, ?_, ?_, ?_⟩
            · rw [List.map_append, List.map_map]; exact upd_same
            · exact (ne_of_none hl5 (kA.free hM)).symm
            · have := enum_step1 hE (m := 200 - (i + 1)) (by omega) (by rw [ha]; exact hf)
              rw [ha] at this; exact this
    · rintro σ H1 ⟨ws, R, rl, rs, o6, o7, o8, o9, o10, o11, o12, rfl, hl1, hD1, K1, len1, hrl, nrl, hE⟩
      exact k2 H1 (by rw [hE]; rfl) K1
end

set_option exponentiation.threshold 10000
theorem pow_i {a b : Nat} (h : a < b) : ((2 : Int) ^ a) < 2 ^ b := by
  have := Nat.pow_lt_pow_right (a := 2) (by decide) h
  exact_mod_cast this
theorem prodC_401 {l : List (Int × Int)} (h : CntOk l) (hl : l.length ≤ 25) : prodC l < 2 ^ 401 := by
  have h1 := prodC_le h
  have h2 : (65536 : Nat) ^ l.length ≤ 65536 ^ 25 := Nat.pow_le_pow_right (by decide) hl
  have h3 : (65536 : Nat) ^ 25 < 2 ^ 401 := by
    have e : (65536 : Nat) = 2 ^ 16 := by decide
    rw [e, ← Nat.pow_mul]
    exact Nat.pow_lt_pow_right (by decide) (by decide)
  have h4 : (prodC l).natAbs < 2 ^ 401 := by omega
  have h5 : ((prodC l).natAbs : Int) < ((2 ^ 401 : Nat) : Int) := Int.ofNat_lt.mpr h4
  have h6 : ((2 ^ 401 : Nat) : Int) = (2 : Int) ^ 401 := by exact_mod_cast rfl
  have h7 : prodC l ≤ ((prodC l).natAbs : Int) := Int.le_natAbs
  rw [← h6]
  exact Int.lt_of_le_of_lt h7 h5
theorem low_bd {n d w : Nat} (hn : n ≤ d) (hd : d ≤ w) (hw : w ≤ 2 ^ 401) : (n * w + d) * (d * w) < 2 ^ 3000 ∧ d * w < 2 ^ 8000 := by
  obtain ⟨p, hp⟩ : ∃ p : Nat, p = 2 ^ 401 := ⟨_, rfl⟩
  have p1 : 1 ≤ p := by rw [hp]; exact Nat.one_le_two_pow
  rw [← hp] at hw
  have h1 : n * w ≤ p * p := Nat.mul_le_mul (by omega) hw
  have h2 : d * w ≤ p * p := Nat.mul_le_mul (by omega) hw
  have h3 : d ≤ p * p := Nat.le_trans (by omega : d ≤ p * 1) (Nat.mul_le_mul_left p p1)
  have e1 : p * p = 2 ^ 802 := by rw [hp, ← Nat.pow_add]
  rw [e1] at h1 h2 h3
  have e2 : (2 : Nat) ^ 802 + 2 ^ 802 = 2 ^ 803 := by rw [Nat.pow_succ 2 802]
  have h4 : n * w + d ≤ 2 ^ 803 := by rw [← e2]; exact Nat.add_le_add h1 h3
  constructor
  · refine Nat.lt_of_le_of_lt (Nat.mul_le_mul h4 h2) ?_
    rw [← Nat.pow_add]
    exact Nat.pow_lt_pow_right (by decide) (by decide)
  · exact Nat.lt_of_le_of_lt h2 (Nat.pow_lt_pow_right (by decide) (by decide))
theorem bits_402 {x : Nat} (h : x ≤ 2 ^ 401) : Builtin.Int.intBits (x : Int) ≤ 402 := PySem.intBits_le_iff.mpr (by
  rw [Int.natAbs_natCast]
  exact Nat.lt_of_le_of_lt h (Nat.pow_lt_pow_right (by decide) (by decide)))
def sp_told (K : PySem.W.Frag) (CB CR : Addr) : Sp := fun vs H Q _ => ∃ B ce bk ca vw an ns ks cs b e xs es u count, vs = [.ref B, .ref ca, .ref vw, .int count] ∧ BrA CB H B u ce bk an ∧ ThIn K H ce bk ca vw an ns ks cs b e xs es u ∧ u ≤ 25 ∧
  (∀ R t l ws H', enumR (thG ns cs b e count es u) 200 [] = some R → H' t = some (.tup [.str "told", .ref l]) → H l = none → H' l = some (.lst ws) → OutL CR H' ws R → Keep [] H H' → Q (.ref t) H') ∧
  (∀ t H', enumR (thG ns cs b e count es u) 200 [] = none → H' t = some (.tup [.str "refused", .str "lots", .bl true]) → Keep [] H H' → Q (.ref t) H')
def sp_right (K : PySem.W.Frag) (CB : Addr) : Sp := fun vs H Q _ => ∃ B br ce bk ca vw an ns ks cs b e xs es u count, vs = [.ref B, .ref br, .ref ca, .ref vw, .int count] ∧ BrA CB H B u ce bk an ∧ H br = some (.tup [.int u, .ref ce, .ref bk, an]) ∧ ThIn K H ce bk ca vw an ns ks cs b e xs es u ∧ u ≤ 25 ∧
  ∀ H', Keep [] H H' → Q (.bl true) H'
section
variable {P : Program} {w : World} {K : PySem.W.Frag} {mg : Str → Option Value} {base : Heap} {C_Ratio : Addr} {C_Tape : Addr} {C_Thinker : Addr} {C_Brain : Addr} {C_GameError : Addr} {C_TooLarge : Addr} {f_TooLarge___init : Addr} {T_EVENTS : Addr}
theorem ok_told {f : Addr} {fd : FuncData} (D : C8.Def K mg "_law_told" s_law_told f fd) (b : Binds K fd ["brain", "cells", "view", "count"] []) (T : Txt K mg C_Ratio C_Tape C_Thinker C_Brain C_GameError C_TooLarge T_EVENTS) (c_outcomes : CalX P w K mg base 43 "outcomes" (sp_out K C_Brain C_Ratio C_TooLarge) []) : C8.Cal P w K mg base 44 "_law_told" (sp_told K C_Brain C_Ratio) [] := by
  refine cal0 D b .nil sc_law_told (fun vs H Q E h => ?_) (fun cdv A outer s H vs Q E hr h => ?_)
  · obtain ⟨B, ce, bk, ca, vw, an, ns, ks, cs, b, e, xs, es, u, count, rfl, _⟩ := h
    rfl
  · obtain ⟨B, ce, bk, ca, vw, an, ns, ks, cs, b, e, xs, es, u, count, rfl, hB, hI, u25, k1, k2⟩ := h
    refine ⟨_, (pss_one (ps_try_as (i := 4) rfl rfl sc_law_told.nd rfl rfl ⟨rfl, by decide, .inl T.m_TooLarge⟩ takes0 (fun W pn xe tk ps =>
  (pss_one (ps_ret (pe_tup (pa_cons pe_str (pa_cons (pe_cS c_outcomes hr (by first | exact Nat.le_refl _ | decide | omega) rfl tk (pa_cons (pv 0) (pa_cons (pv 1) (pa_cons (pv 2) (pa_cons (pv 3) pa_nil))))) pa_nil))))))
  (fun a oe cls d pn hz hf =>
  (pss_one (ps_ret (pe_tup (pa_cons pe_str (pa_cons (pe_xf T.f_TooLarge T.no_TooLarge hz hf (pv 4)) (pa_cons (pe_callB (call_isX hz hf) (by rfl) T.n_isinstance bo_isinstance (pa_cons (pv 4) (pa_cons (pe_glob (v := .ref _) rfl T.m_GameError rfl) pa_nil))) pa_nil))))))))), ?_⟩
    refine ⟨_, rfl, _, rfl, _, rfl, _, rfl, B, ce, bk, ca, vw, an, ns, ks, cs, b, e, xs, es, u, count, rfl, hB, hI, u25, fun R l ws H1 hE nl hl hO K1 => ?_, fun d H1 hE nd hd K1 => ?_⟩
    · refine And.intro (by show 2 ≤ sizeLine; decide) <| fun t nt => ?_
      have k := Keep.new (W := []) (o := .tup [.str "told", .ref l]) nt
      exact k1 R t l ws _ hE upd_same nl (k _ _ hl (by simp)) (hO.keep k) (K1.trans k)
    · refine ⟨true, T.x_TooLarge, fun _ a' ha => ?_, fun q => nomatch q⟩
      refine ⟨_, rfl, rfl, rfl, d, _, _, rfl, hd, rfl, ?_⟩
      refine ⟨_, rfl, _, _, d, _, true, rfl, rfl, rfl, T.e_TooLarge, hd, T.kit1, ?_⟩
      refine And.intro (by show 3 ≤ sizeLine; decide) <| fun t nt => ?_
      exact k2 t _ hE upd_same (K1.then_new nt)
theorem ok_right {f : Addr} {fd : FuncData} (D : C8.Def K mg "_law_right" s_law_right f fd) (b : Binds K fd ["made", "brain", "cells", "view", "count"] []) (T : Txt K mg C_Ratio C_Tape C_Thinker C_Brain C_GameError C_TooLarge T_EVENTS) (c_law_outcomes : C8.Cal P w K mg base 24 "_law_outcomes" (sp_lout K) []) (c_law_told : C8.Cal P w K mg base 44 "_law_told" (sp_told K C_Brain C_Ratio) [])
    (c_law_same : C8.Cal P w K mg base 33 "_law_same" (sp_law_same K 33) []) (c_law_is_ratio : C8.Cal P w K mg base 34 "_law_is_ratio" (sp_isr C_Ratio) []) (c_law_lowest : C8.Cal P w K mg base 1 "_law_lowest" sp_law_lowest []) : C8.Cal P w K mg base 45 "_law_right" (sp_right K C_Brain) [] := by
  refine cal0 D b .nil sc_law_right (fun vs H Q E h => ?_) (fun cdv A outer s H vs Q E hr h => ?_)
  · obtain ⟨B, br, ce, bk, ca, vw, an, ns, ks, cs, b, e, xs, es, u, count, rfl, _⟩ := h
    rfl
  · obtain ⟨B, br, ce, bk, ca, vw, an, ns, ks, cs, b, e, xs, es, u, count, rfl, ⟨dB, oB⟩, hbr, hI, u25, k⟩ := h
    have hR := hI.run u25 count
    refine ⟨_, (pss_cons (ps_set (i := 5) sc_law_right.nd rfl (by first | exact Or.inl rfl | exact Or.inr rfl) (pe_c c_law_outcomes hr (by first | exact Nat.le_refl _ | decide | omega) rfl (pa_cons (pv 1) (pa_cons (pv 2) (pa_cons (pv 3) (pa_cons (pv 4) pa_nil))))))
(pss_cons (ps_set (i := 6) sc_law_right.nd rfl (by first | exact Or.inl rfl | exact Or.inr rfl) (pe_c c_law_told hr (by first | exact Nat.le_refl _ | decide | omega) rfl (pa_cons (pv 0) (pa_cons (pv 2) (pa_cons (pv 3) (pa_cons (pv 4) pa_nil))))))
(pss_cons (ps_if (pt_cmpR op_isN (pv 5) pe_non (nomark _))
  (pss_one (ps_ret (pe_c c_law_same hr (by first | exact Nat.le_refl _ | decide | omega) rfl (pa_cons (pv 6) (pa_cons (pe_tup (pa_cons pe_str (pa_cons pe_str (pa_cons pe_bl pa_nil)))) pa_nil)))))
  pss_nil)
(pss_cons (ps_set (i := 7) sc_law_right.nd rfl (by first | exact Or.inl rfl | exact Or.inr rfl) (pe_ix ix_tup (pv 6) pe_int (fun _ _ => rfl)))
(pss_cons (ps_if (PW.pt (pw_or (pt_cmpR op_ne (pe_ix ix_tup (pv 6) pe_int (fun _ _ => rfl)) pe_str (nomark _)) (pw_or (pt_not (pt_val (pe_callB call_isi (by rfl) T.n_isinstance bo_isinstance (pa_cons (pv 7) (pa_cons (pe_bltn (v := .ty "list") (by rfl) T.n_list bo_list rfl) pa_nil))))) (pw_or1 (pt_cmpR op_ne (pe_callB call_len_seq (by rfl) T.n_len bo_len (pa_cons (pv 7) pa_nil)) (pe_callB call_len_seq (by rfl) T.n_len bo_len (pa_cons (pv 5) pa_nil)) (nomark _))))))
  (pss_one (ps_ret pe_bl))
  pss_nil)
(pss_cons (ps_for PassesOwn.never rfl (pi_range1 (by rfl) T.n_range (pa_cons (pe_callB call_len_seq (by rfl) T.n_len bo_len (pa_cons (pv 5) pa_nil)) pa_nil)) (pg_name (i := 8) sc_law_right.nd rfl (by first | exact Or.inl rfl | exact Or.inr rfl))
  (pss_cons (ps_if (PW.pt (pw_or (pt_not (pt_val (pe_callB call_isi (by rfl) T.n_isinstance bo_isinstance (pa_cons (pe_ix ix_list (pv 7) (pv 8) (fun _ _ => rfl)) (pa_cons (pe_bltn (v := .ty "tuple") (by rfl) T.n_tuple bo_tuple rfl) pa_nil))))) (pw_or1 (pt_cmpR op_ne (pe_callB call_len_seq (by rfl) T.n_len bo_len (pa_cons (pe_ix ix_list (pv 7) (pv 8) (fun _ _ => rfl)) pa_nil)) pe_int (nomark _)))))
    (pss_one (ps_ret pe_bl))
    pss_nil)
  (pss_cons (ps_if (pt_not (pt_val (pe_c c_law_is_ratio hr (by first | exact Nat.le_refl _ | decide | omega) rfl (pa_cons (pe_ix ix_tup (pe_ix ix_list (pv 7) (pv 8) (fun _ _ => rfl)) pe_int (fun _ _ => rfl)) (pa_cons pe_int (pa_cons (pe_ix ix_tup (pe_ix ix_list (pv 5) (pv 8) (fun _ _ => rfl)) pe_int (fun _ _ => rfl)) pa_nil))))))
    (pss_one (ps_ret pe_bl))
    pss_nil)
  (pss_one (ps_if (PW.pt (pw_or (pt_not (pt_val (pe_c c_law_same hr (by first | exact Nat.le_refl _ | decide | omega) rfl (pa_cons (pe_ix ix_tup (pe_ix ix_list (pv 7) (pv 8) (fun _ _ => rfl)) pe_int (fun _ _ => rfl)) (pa_cons (pe_ix ix_tup (pe_ix ix_list (pv 5) (pv 8) (fun _ _ => rfl)) pe_int (fun _ _ => rfl)) pa_nil))))) (pw_or1 (pt_not (pt_val (pe_c c_law_same hr (by first | exact Nat.le_refl _ | decide | omega) rfl (pa_cons (pe_ix ix_tup (pe_ix ix_list (pv 7) (pv 8) (fun _ _ => rfl)) pe_int (fun _ _ => rfl)) (pa_cons (pe_ix ix_tup (pe_ix ix_list (pv 5) (pv 8) (fun _ _ => rfl)) pe_int (fun _ _ => rfl)) pa_nil))))))))
    (pss_one (ps_ret pe_bl))
    pss_nil)))))
(pss_cons (ps_expr (pe_bm PySem.F.plainAttrs_list PySem.F.slot_list_append PySem.F.type_list_append mt_append (pv 7) (pa_cons pe_int pa_nil)))
(pss_cons (ps_set (i := 9) sc_law_right.nd rfl (by first | exact Or.inl rfl | exact Or.inr rfl) (pe_tup (pa_cons pe_int (pa_cons pe_int pa_nil))))
(pss_cons (ps_for PassesOwn.never rfl (pi_list (pv 5)) (pg_name (i := 10) sc_law_right.nd rfl (by first | exact Or.inl rfl | exact Or.inr rfl))
  (pss_one (ps_set (i := 9) sc_law_right.nd rfl (by first | exact Or.inl rfl | exact Or.inr rfl) (pe_c c_law_lowest hr (by first | exact Nat.le_refl _ | decide | omega) rfl (pa_cons (pe_op op_add (pe_op op_mulO (pe_ix ix_tup (pv 9) pe_int (fun _ _ => rfl)) (pe_ix ix_tup (pv 10) pe_int (fun _ _ => rfl))) (pe_ix ix_tup (pv 9) pe_int (fun _ _ => rfl))) (pa_cons (pe_op op_mulO (pe_ix ix_tup (pv 9) pe_int (fun _ _ => rfl)) (pe_ix ix_tup (pv 10) pe_int (fun _ _ => rfl))) pa_nil))))))
(pss_one (ps_ret (pe_cmpR (op_eqD hr.units) (pv 9) (pe_tup (pa_cons pe_int (pa_cons pe_int pa_nil))) (nomark _))))))))))))), ?_⟩
    generalize hF : thG ns cs b e count es u = F at *
    refine ⟨_, rfl, _, rfl, _, rfl, _, rfl, br, ce, bk, ca, vw, an, ns, ks, cs, b, e, xs, es, u, count, rfl, hbr, hI, u25, fun R dl ds H1 hE nd hd hD K1 => ?_, fun H1 hE K1 => ?_⟩
    · rw [hF] at hE
      obtain ⟨⟨tail, hR0⟩, hC, hOk, hRl⟩ := enum_chn hR 200 [] R (can_nil (hR.e [])) hE
      refine ⟨_, rfl, _, rfl, _, rfl, _, rfl, B, ce, bk, ca, vw, an, ns, ks, cs, b, e, xs, es, u, count, rfl, ⟨dB, K1 _ _ oB (by simp)⟩, hI.tk K1.tk, u25, fun R2 t l ws H2 hE2 ht nl hl hO K2 => ?_, fun t H2 hE2 _ _ => ?_⟩
      · rw [hF, hE] at hE2
        cases hE2
        have hd2 := K2 _ _ hd (by simp)
        have hD2 := hD.tk K2.tk
        have nld : l ≠ dl := (ne_of_none hd nl).symm
        have K02 := K1.trans K2
        refine ⟨_, rfl, rfl, _, rfl, iteDF (by intro z; cases z) ?_⟩
        have wl := hO.len
        have dl0 := hD2.len
        refine ⟨_, rfl, _, _, _, _, rfl, rfl, SqT.of ht, rfl, ?_⟩
        refine ⟨_, rfl, _, _, _, _, rfl, rfl, SqT.of ht, rfl, rfl, _, rfl, iteNF rfl ?_⟩
        refine ⟨_, rfl, _, _, _, _, _, rfl, .ty _, .base (.lst hl), kLL, _, rfl, iteF ?_⟩
        refine ⟨_, rfl, _, _, rfl, .inl (SqL.of hl), _, rfl, _, _, rfl, .inl (SqL.of hd2), rfl, _, rfl, iteNF (by rw [wl, dl0]) ?_⟩
        refine ⟨_, rfl, _, _, rfl, .inl (SqL.of hd2), _, rfl, by omega, by omega, ?_⟩
        refine for_range (lo := 0) (n := ds.length) (fun i σ H' => Keep [] H2 H' ∧ ∃ o8 : Option V, σ = [some (.ref B), some (.ref br), some (.ref ca), some (.ref vw), some (.int count), some (.ref dl), some (.ref t), some (.ref l), o8, none, none]) ⟨Keep.refl _ _, _, rfl⟩ ?_ ?_
        · rintro i σ H3 hi ⟨K3, o8, rfl⟩
          have e0 : (0 : Int) + (i : Int) = (i : Int) := by omega
          rw [e0]
          have hv : ws[i]? = some (ws[i]'(by omega)) := List.getElem?_eq_getElem _
          have hw : ds[i]? = some (ds[i]'hi) := List.getElem?_eq_getElem _
          obtain ⟨a1, r1, c1, row, hv1, hrow, h1, h2, h3⟩ := (hO.keep K3).get hv
          obtain ⟨a2, c2, row2, hw1, hrow2, g1, g3⟩ := (hD2.tk K3.tk).get hw
          rw [hrow] at hrow2
          cases hrow2
          rw [hv1] at hv
          rw [hw1] at hw
          have hl3 := K3 _ _ hl (by simp)
          have hd3 := K3 _ _ hd2 (by simp)
          obtain ⟨rg, ct0, ln, cl⟩ := hOk row (List.mem_of_getElem? hrow)
          refine ⟨_, rfl, _, rfl, _, _, _, _, rfl, rfl, SqL.of hl3, atI_nat hv, _, _, _, _, _, rfl, .ty _, .base (.tup h1), kTT, _, rfl, iteF ?_⟩
          refine ⟨_, rfl, _, rfl, _, _, _, _, rfl, rfl, SqL.of hl3, atI_nat hv, _, _, rfl, .inr (SqT.of h1), rfl, _, rfl, iteNF rfl ?_⟩
          refine ⟨_, rfl, _, rfl, _, _, _, _, rfl, rfl, SqL.of hl3, atI_nat hv, _, _, _, _, rfl, rfl, SqT.of h1, rfl, _, rfl, _, rfl, _, _, _, _, rfl, rfl, SqL.of hd3, atI_nat hw, _, _, _, _, rfl, rfl, SqT.of g1, rfl, r1, prodC row.2.2, rfl, h2, prodC_pos ct0, ?_, fun H4 K4 => ⟨_, rfl, iteF ?_⟩⟩
          · exact Int.lt_trans (prodC_401 ct0 ln) (pow_i (by decide))
          have hl4 := K4 _ _ hl3 (by simp)
          have hd4 := K4 _ _ hd3 (by simp)
          have h14 := K4 _ _ h1 (by simp)
          have g14 := K4 _ _ g1 (by simp)
          refine ⟨_, rfl, _, rfl, _, _, _, _, rfl, rfl, SqL.of hl4, atI_nat hv, _, _, _, _, rfl, rfl, SqT.of h14, rfl, _, rfl, _, rfl, _, _, _, _, rfl, rfl, SqL.of hd4, atI_nat hw, _, _, _, _, rfl, rfl, SqT.of g14, rfl, _, _, rfl, sameV_atom (.inr (.inl ⟨_, rfl⟩)), _, rfl, iteF ?_⟩
          refine ⟨_, rfl, _, rfl, _, _, _, _, rfl, rfl, SqL.of hl4, atI_nat hv, _, _, _, _, rfl, rfl, SqT.of h14, rfl, _, rfl, _, rfl, _, _, _, _, rfl, rfl, SqL.of hd4, atI_nat hw, _, _, _, _, rfl, rfl, SqT.of g14, rfl, _, _, rfl, same_intsT (n := 31) (K4 _ _ h3 (by simp)) (K4 _ _ g3 (by simp)) (by rw [cl]; have := hI.bo.nl; omega), _, rfl, iteF ?_⟩
          exact ⟨K3.trans K4, _, rfl⟩
        rintro σ H3 ⟨K3, o8, rfl⟩
        have hl3 := K3 _ _ hl (by simp)
        have hd3 := K3 _ _ hd2 (by simp)
        have hD3 := hD2.tk K3.tk
        refine ⟨_, rfl, .inl ⟨rfl, _, SqL.of hl3⟩, l, ws, _, rfl, rfl, hl3, smallL (by omega), ?_⟩
        have K4 : Keep [] H1 (upd H3 l (.lst (ws ++ [.int 7]))) := (K2.trans K3).then_own nl
        have K04 := K1.trans K4
        have hd4 := K4 _ _ hd (by simp)
        have hD4 := hD.tk K4.tk
        generalize upd H3 l (.lst (ws ++ [.int 7])) = H4 at *
        refine And.intro (by show 2 ≤ sizeLine; decide) <| fun wa0 nwa0 => ?_
        have k5 := Keep.new (W := []) (o := .tup [.int 0, .int 1]) nwa0
        have hd5 := k5 _ _ hd4 (by simp)
        have hD5 := hD4.tk k5.tk
        have K05 := K04.trans k5
        have hw0 : upd H4 wa0 (.tup [.int 0, .int 1]) wa0 = some (.tup [.int 0, .int 1]) := upd_same
        generalize upd H4 wa0 (.tup [.int 0, .int 1]) = H5 at *
        have F0 : Frac R 0 1 := by
          rw [hR0] at hC ⊢
          exact frac0 (hR.e []) hC
        refine ⟨_, rfl, dl, rfl, ⟨_, SqL.of hd5⟩, for_list (K := K) (a := dl) (xs := ds) (fun i σ H' => Keep [] H5 H' ∧ ∃ (wa : Addr) (n d : Int) (o10 : Option V), σ = [some (.ref B), some (.ref br), some (.ref ca), some (.ref vw), some (.int count), some (.ref dl), some (.ref t), some (.ref l), o8, some (.ref wa), o10] ∧ H' wa = some (.tup [.int n, .int d]) ∧ Frac (R.drop i) n d)
          ⟨Keep.refl _ _, wa0, 0, 1, none, rfl, hw0, F0⟩ (fun i σ H' _ ⟨K', _⟩ => SqL.of (K' _ _ hd5 (by simp))) ?_ ?_⟩
        · rintro i v σ H6 hv ⟨K6, wa, n, d, o10, rfl, hwa, hFr⟩
          obtain ⟨a2, c2, row, rfl, hrow, g1, g3⟩ := (hD5.tk K6.tk).get hv
          obtain ⟨hlt, he⟩ := List.getElem?_eq_some_iff.mp hrow
          rw [List.drop_eq_getElem_cons hlt, he] at hFr
          obtain ⟨rg, ct0, ln, cl⟩ := hOk row (List.mem_of_getElem? hrow)
          have bd := hFr.bd rg
          have fs := hFr.step rg (fun b' r' e' => prodC_pos (hOk b' (List.mem_of_mem_drop (i := i + 1) (by rw [e']; exact List.mem_cons_self ..))).2.1)
          have n0 := hFr.n0
          have d0 := hFr.d0
          have w4 := prodC_401 ct0 ln
          generalize prodC row.2.2 = W at *
          obtain ⟨n', rfl⟩ : ∃ x : Nat, n = (x : Int) := ⟨n.toNat, by omega⟩
          obtain ⟨d', rfl⟩ : ∃ x : Nat, d = (x : Int) := ⟨d.toNat, by omega⟩
          obtain ⟨w', rfl⟩ : ∃ x : Nat, W = (x : Int) := ⟨W.toNat, by omega⟩
          have w4' : w' ≤ 2 ^ 401 := by exact_mod_cast Int.le_of_lt w4
          have nd' : n' ≤ d' := by omega
          have dw' : d' ≤ w' := by omega
          have lb := low_bd nd' dw' w4'
          have mo : ∀ x y : Nat, x ≤ 2 ^ 401 → y ≤ 2 ^ 401 → IntMulOk (x : Int) (y : Int) := fun x y hx hy => PySem.IntMulOk.of_le (bits_402 hx) (bits_402 hy) (by decide)
          refine ⟨_, rfl, _, _, _, _, rfl, rfl, SqT.of hwa, rfl, _, rfl, _, _, _, _, rfl, rfl, SqT.of g1, rfl, _, _, rfl, rfl, mo _ _ (by omega) w4', _, rfl, _, _, _, _, rfl, rfl, SqT.of hwa, rfl, _, _, rfl, rfl, _, rfl, _, _, _, _, rfl, rfl, SqT.of hwa, rfl, _, rfl, _, _, _, _, rfl, rfl, SqT.of g1, rfl, _, _, rfl, rfl, mo _ _ (by omega) w4', ?_⟩
          refine ⟨n' * w' + d', d' * w', by simp, Nat.mul_pos (by omega) (by omega), lb.1, lb.2, fun wb H7 nwb hwb K7 => ?_⟩
          refine ⟨K6.trans K7, wb, _, _, _, rfl, hwb, ?_⟩
          rw [show (((n' * w' + d' : Nat)) : Int) = (n' : Int) * (w' : Int) + (d' : Int) by simp, show (((d' * w' : Nat)) : Int) = (d' : Int) * (w' : Int) by simp]
          exact fs
        · rintro σ H6 ⟨K6, wa, n, d, o10, rfl, hwa, hFr⟩
          rw [List.drop_eq_nil_of_le (by rw [hD5.len]; exact Nat.le_refl _)] at hFr
          obtain ⟨rfl, rfl⟩ := hFr.e rfl
          refine ⟨_, rfl, And.intro (by show 2 ≤ sizeLine; decide) <| fun t1 nt1 => ?_⟩
          have k7 := Keep.new (W := []) (o := .tup [.int 1, .int 1]) nt1
          refine ⟨_, _, .tup (SqT.of (k7 _ _ hwa (by simp))) (.cons (.int _) (.cons (.int _) .nil)), .tup (SqT.of upd_same) (.cons (.int _) (.cons (.int _) .nil)), by decide, by decide, ?_⟩
          have e : PyData.eqv (.tuple [.int 1, .int 1]) (.tuple [.int 1, .int 1]) = true := SeqAt.eqv_refl _ (SeqAt.canLay_of_shaped (by decide))
          rw [e]
          exact k _ ((K05.trans K6).trans k7)
      · rw [hF, hE] at hE2; cases hE2
    · rw [hF] at hE
      refine ⟨_, rfl, _, rfl, _, rfl, _, rfl, B, ce, bk, ca, vw, an, ns, ks, cs, b, e, xs, es, u, count, rfl, ⟨dB, K1 _ _ oB (by simp)⟩, hI.tk K1.tk, u25, fun R2 t l ws H2 hE2 ht nl hl hO K2 => ?_, fun t H2 hE2 ht K2 => ?_⟩
      · rw [hF, hE] at hE2; cases hE2
      · refine ⟨_, rfl, rfl, _, rfl, iteDT rfl ?_⟩
        refine ⟨_, rfl, And.intro (by show 3 ≤ sizeLine; decide) <| fun q nq => ?_⟩
        have kq := Keep.new (W := []) (o := .tup [.str "refused", .str "lots", .bl true]) nq
        refine ⟨_, _, rfl, sameT (n := 32) (.inl (kq _ _ ht (by simp))) (.inl upd_same) (.cons (sameV_atom (.inl ⟨_, rfl⟩)) (.cons (sameV_atom (.inl ⟨_, rfl⟩)) (.cons (sameV_atom (.inr (.inr (.inl ⟨_, rfl⟩)))) .nil))) (by simp), ?_⟩
        exact k _ ((K1.trans K2).trans kq)
end

theorem cut_m1 {xs : List V} (h : 0 < xs.length) : cutV xs none (some (-1)) = xs.take (xs.length - 1) ∧ ¬ (HT.sIx xs.length 0 none = 0 ∧ HT.sIx xs.length xs.length (some (-1)) = xs.length) := by
  have e : HT.sIx xs.length xs.length (some (-1)) = xs.length - 1 := by
    show (if (-1 : Int) < 0 then ((-1 : Int) + (xs.length : Int)).toNat else min (-1 : Int).toNat xs.length) = _
    rw [if_pos (by decide)]
    omega
  refine ⟨?_, fun z => by rw [e] at z; omega⟩
  unfold cutV
  rw [e, HT.sIx_none, List.drop_zero, Nat.sub_zero]
theorem Evs.take {H : Hp} {vs : List V} {l : List Ev} (h : Evs H vs l) : ∀ n, Evs H (vs.take n) (l.take n) := by
  induction h with
  | nil => intro n; rw [List.take_nil, List.take_nil]; exact .nil
  | cons h _ ih =>
    intro n
    cases n with
    | zero => exact .nil
    | succ n => exact .cons h (ih n)
def sp_law (K : PySem.W.Frag) : Sp := fun vs H Q _ => ∃ (a : Addr) (ns : List Int), vs = [.ref a] ∧ SqL K H a (ns.map V.int) ∧ ∀ H', Q (.bl true) H'
section
variable {P : Program} {w : World} {K : PySem.W.Frag} {mg : Str → Option Value} {base : Heap} {C_Ratio : Addr} {C_Tape : Addr} {C_Thinker : Addr} {C_Brain : Addr} {C_GameError : Addr} {C_TooLarge : Addr} {f_TooLarge___init : Addr} {T_EVENTS : Addr}
theorem ok_law {f : Addr} {fd : FuncData} (F : C8.Fun K "law" "law" s_law f fd) (T : Txt K mg C_Ratio C_Tape C_Thinker C_Brain C_GameError C_TooLarge T_EVENTS) (c_law_pool : C8.Cal P w K mg base 1 "_law_pool" (sp_law_pool K) []) (c_law_draw : C8.Cal P w K mg base 1 "_law_draw" sp_law_draw []) (c_law_number : C8.Cal P w K mg base 2 "_law_number" sp_law_number []) (c_law_brain : C8.Cal P w K mg base 34 "_law_brain" (sp_brain K) [])
    (c_law_small_lots : C8.Cal P w K mg base 10 "_law_small_lots" (sp_small K 9) []) (c_law_view : C8.Cal P w K mg base 3 "_law_view" sp_view []) (c_Brain : C8.Mak P w K mg base 1 "Brain" C_Brain (sp_brinit K C_Brain) []) (c_law_count : C8.Cal P w K mg base 2 "_law_count" sp_count []) (c_law_right : C8.Cal P w K mg base 45 "_law_right" (sp_right K C_Brain) []) :
    FnOk P w K mg base C8.CX0 46 f fd ["script"] (sp_law K) := by
  refine C8.fn0 F sc_law (fun vs H Q E h => ?_) (fun cdv A outer s H vs Q E hr h => ?_)
  · obtain ⟨a, ns, rfl, _⟩ := h
    rfl
  · obtain ⟨a, ns, rfl, hS, k⟩ := h
    refine ⟨_, (pss_cons (ps_set (i := 1) sc_law.nd rfl (by first | exact Or.inl rfl | exact Or.inr rfl) (pe_c c_law_pool hr (by first | exact Nat.le_refl _ | decide | omega) rfl (pa_cons (pv 0) (pa_cons pe_int pa_nil))))
(pss_cons (ps_set (i := 2) sc_law.nd rfl (by first | exact Or.inl rfl | exact Or.inr rfl) (pe_c c_law_brain hr (by first | exact Nat.le_refl _ | decide | omega) rfl (pa_cons (pv 1) (pa_cons (pe_op op_add pe_int (pe_c c_law_draw hr (by first | exact Nat.le_refl _ | decide | omega) rfl (pa_cons (pv 1) (pa_cons pe_int pa_nil)))) (pa_cons pe_bl pa_nil)))))
(pss_cons (ps_set (i := 2) sc_law.nd rfl (by first | exact Or.inl rfl | exact Or.inr rfl) (pe_tup (pa_cons (pe_ix ix_tup (pv 2) pe_int (fun _ _ => rfl)) (pa_cons (pe_ix ix_tup (pv 2) pe_int (fun _ _ => rfl)) (pa_cons (pe_c c_law_small_lots hr (by first | exact Nat.le_refl _ | decide | omega) rfl (pa_cons (pv 1) (pa_cons (pe_ix ix_tup (pv 2) pe_int (fun _ _ => rfl)) pa_nil))) (pa_cons (pe_ix ix_tup (pv 2) pe_int (fun _ _ => rfl)) pa_nil))))))
(pss_cons (ps_set (i := 3) sc_law.nd rfl (by first | exact Or.inl rfl | exact Or.inr rfl) (pe_callTy call_tuple_of (by rfl) T.n_tuple bo_tuple (pa_cons (pe_lc (own := [("row", 10)]) (g := gName 10) (tt := tYes) rfl sc_law.nd (pi_tup (pe_ix ix_tup (pv 2) pe_int (fun _ _ => rfl))) (blkOk_by (N := ["script", "pool", "brain", "cells", "view", "made", "first", "plain", "seen", "count", "row"]) (sc := fnScope s_law) (by decide +kernel)) (fun _ _ _ _ _ => pg_name (i := 10) sc_law.nd rfl (Or.inl rfl)) (fun _ _ _ _ _ => pts_nil) (fun _ _ _ _ _ => (pe_c c_law_number hr (by first | exact Nat.le_refl _ | decide | omega) rfl (pa_cons (pv 1) pa_nil)))) pa_nil)))
(pss_cons (ps_set (i := 4) sc_law.nd rfl (by first | exact Or.inl rfl | exact Or.inr rfl) (pe_c c_law_view hr (by first | exact Nat.le_refl _ | decide | omega) rfl (pa_cons (pv 1) pa_nil)))
(pss_cons (ps_set (i := 5) sc_law.nd rfl (by first | exact Or.inl rfl | exact Or.inr rfl) (pe_mk c_Brain hr (by first | exact Nat.le_refl _ | decide | omega) rfl (pa_cons (pe_ix ix_tup (pv 2) pe_int (fun _ _ => rfl)) (pa_cons (pe_ix ix_tup (pv 2) pe_int (fun _ _ => rfl)) (pa_cons (pe_ix ix_tup (pv 2) pe_int (fun _ _ => rfl)) (pa_cons (pe_ix ix_tup (pv 2) pe_int (fun _ _ => rfl)) pa_nil))))))
(pss_cons (ps_set (i := 6) sc_law.nd rfl (by first | exact Or.inl rfl | exact Or.inr rfl) (pe_c c_law_count hr (by first | exact Nat.le_refl _ | decide | omega) rfl (pa_cons (pv 1) (pa_cons (pv 4) pa_nil))))
(pss_cons (ps_set (i := 7) sc_law.nd rfl (by first | exact Or.inl rfl | exact Or.inr rfl) (pv 4))
(pss_cut (ps_if (pt_cmpR op_eq (pe_ix ix_tup (pe_ix ix_tup (pv 4) (pe_un un_neg pe_int) (fun _ _ => rfl)) pe_int (fun _ _ => rfl)) pe_str (nomark _))
  (pss_one (ps_set (i := 7) sc_law.nd rfl (by first | exact Or.inl rfl | exact Or.inr rfl) (pe_slice sl_tup (pv 4) po_none (po_some (pe_un un_neg pe_int)))))
  pss_nil)
(pss_cons (ps_for PassesOwn.never rfl (pi_tup (pe_tup (pa_cons (pe_tup (pa_cons (pv 4) (pa_cons (pv 6) pa_nil))) (pa_cons (pe_tup (pa_cons (pv 7) (pa_cons (pe_op op_add pe_int (pe_c c_law_draw hr (by first | exact Nat.le_refl _ | decide | omega) rfl (pa_cons (pv 1) (pa_cons pe_int pa_nil)))) pa_nil))) (pa_cons (pe_tup (pa_cons (pv 4) (pa_cons (pv 6) pa_nil))) pa_nil))))) (pg_tup (by rfl) (pgs_cons (pg_name (i := 8) sc_law.nd rfl (by first | exact Or.inl rfl | exact Or.inr rfl)) (pgs_cons (pg_name (i := 9) sc_law.nd rfl (by first | exact Or.inl rfl | exact Or.inr rfl)) pgs_nil)))
  (pss_one (ps_if (pt_not (pt_val (pe_c c_law_right hr (by first | exact Nat.le_refl _ | decide | omega) rfl (pa_cons (pv 5) (pa_cons (pv 2) (pa_cons (pv 3) (pa_cons (pv 8) (pa_cons (pv 9) pa_nil))))))))
    (pss_one (ps_ret pe_bl))
    pss_nil)))
(pss_one (ps_ret (pe_c c_law_right hr (by first | exact Nat.le_refl _ | decide | omega) rfl (pa_cons (pv 5) (pa_cons (pv 2) (pa_cons (pe_callTy call_tuple_of (by rfl) T.n_tuple bo_tuple (pa_cons (pe_lc (own := [("row", 10)]) (g := gName 10) (tt := tYes) rfl sc_law.nd (pi_tup (pe_ix ix_tup (pv 2) pe_int (fun _ _ => rfl))) (blkOk_by (N := ["script", "pool", "brain", "cells", "view", "made", "first", "plain", "seen", "count", "row"]) (sc := fnScope s_law) (by decide +kernel)) (fun _ _ _ _ _ => pg_name (i := 10) sc_law.nd rfl (Or.inl rfl)) (fun _ _ _ _ _ => pts_nil) (fun _ _ _ _ _ => (pe_c c_law_number hr (by first | exact Nat.le_refl _ | decide | omega) rfl (pa_cons (pv 1) pa_nil)))) pa_nil)) (pa_cons (pv 4) (pa_cons (pv 6) pa_nil)))))))))))))))))), ?_⟩
    refine ⟨_, rfl, a, ns, 25, rfl, hS, fun p q H1 np P1 K1 => ?_⟩
    refine ⟨_, rfl, _, rfl, p, q, ns, 25, rfl, by decide, by decide, P1, fun u0 H2 a0 a1 P2 K2 => ⟨_, _, rfl, rfl, ?_⟩⟩
    obtain ⟨u, hu⟩ : ∃ u : Int, u = 1 + u0 := ⟨_, rfl⟩
    refine ⟨p, q, ns, u, true, by rw [hu]; rfl, P2, fun br0 ce bk0 an nms ks b0 e H3 nbr hbr hBd hBo P3 K3 => ?_⟩
    refine ⟨_, rfl, _, _, _, _, rfl, rfl, SqT.of hbr, rfl, _, rfl, _, _, _, _, rfl, rfl, SqT.of hbr, rfl, _, rfl, _, rfl, _, _, _, _, rfl, rfl, SqT.of hbr, rfl, p, q, bk0, ns, nms, b0, rfl, P3, hBd.bk, hBo.bo, hBo.sm, by have := hBo.d; omega, hBo.ln, fun bk b H4 hBV bok bsm bdp bln P4 K4 => ?_⟩
    have hbr4 := (P3.tk K4) _ _ hbr
    refine ⟨_, rfl, _, _, _, _, rfl, rfl, SqT.of hbr4, rfl, And.intro (by show 4 ≤ sizeLine; decide) <| fun br nbr2 => ?_⟩
    have k5 := Keep.new (W := []) (o := .tup [.int u, .ref ce, .ref bk, an]) nbr2
    have P5 := P4.new (o := .tup [.int u, .ref ce, .ref bk, an]) nbr2
    have hbr5 : upd H4 br (.tup [.int u, .ref ce, .ref bk, an]) br = some (.tup [.int u, .ref ce, .ref bk, an]) := upd_same
    have hBd4 := hBd.tk (P3.tk K4)
    have hBd5 : Bd K (upd H4 br (.tup [.int u, .ref ce, .ref bk, an])) ce bk an nms ks b e := ⟨(hBd4.tk k5.tk).ce, hBV.tk k5.tk, (hBd4.tk k5.tk).an⟩
    have hBo5 : BdOk nms b e := ⟨hBo.nd, hBo.nl, bok, by have := hBo.d; omega, hBo.e, bsm, by have := hBo.ln; omega⟩
    generalize upd H4 br (.tup [.int u, .ref ce, .ref bk, an]) = H5 at *
    -- the cells
    obtain ⟨ys, hce, hR⟩ := id hBd5.ce
    have hrl := hR.len
    refine ⟨_, rfl, _, _, _, _, rfl, rfl, SqT.of hbr5, rfl, ce, rfl, ⟨_, SqT.of hce⟩, fun L hL => ?_⟩
    have nLp := P5.nep hL
    have nLq := P5.neq hL
    refine lc_tup (K := K) (a := ce) (xs := ys) (fun i H2 => ∃ cs : List Int, H2 L = some (.lst (cs.map V.int)) ∧ cs.length = i ∧ CsOk cs ∧ Pool H2 p q ns ∧ Keep [p] H5 H2) ⟨[], upd_same, rfl, (fun _ h => by cases h), P5.new hL, Keep.new hL⟩ (fun i H2 _ ⟨_, _, _, _, _, k2⟩ => SqT.of (P5.tk k2 _ _ hce)) ?_ ?_
    · rintro i v H2 hv ⟨cs, hL2, hcl, hco, P2, K2⟩
      have hi : i < ys.length := (List.getElem?_eq_some_iff.mp hv).1
      refine ⟨rfl, yes_then ⟨_, rfl, p, q, ns, rfl, P2, fun r H3 r0 r1 P3 K3 => ?_⟩⟩
      refine ⟨_, K3 _ _ hL2 (by simpa using nLp), by rw [List.length_map]; exact smallL (by have := hBo.nl; omega), cs ++ [r], by rw [List.map_append]; exact upd_same, by rw [List.length_append, hcl]; rfl, ?_, P3.own nLp nLq, (K2.trans K3).then_own hL⟩
      intro c hc
      rcases List.mem_append.mp hc with hc | hc
      · exact hco c hc
      · rw [List.mem_singleton] at hc; subst hc; exact ⟨r0, r1⟩
    rintro H6 ⟨cs, hL1, hcl, hco, P6, K6⟩
    have hcl : cs.length = nms.length := by omega
    refine ⟨_, _, rfl, .inl ⟨SqL.of hL1, fun ca nca => ?_⟩⟩
    have P7 := P6.new (o := .tup (cs.map V.int)) nca
    have K57 : Keep [p] H5 (upd H6 ca (.tup (cs.map V.int))) := K6.then_new nca
    have hca : upd H6 ca (.tup (cs.map V.int)) ca = some (.tup (cs.map V.int)) := upd_same
    generalize upd H6 ca (.tup (cs.map V.int)) = H7 at *
    -- the view
    refine ⟨_, rfl, p, q, ns, rfl, P7, fun vw xs es H8 nvw hvw hE hEo hEn hEl P8 K8 => ?_⟩
    have tk58 : TK H5 H8 := (P5.tk K57).trans (P7.tk K8)
    have hbr8 := tk58 _ _ hbr5
    have hca8 := (P7.tk K8) _ _ hca
    have hBd8 := hBd5.tk tk58
    refine ⟨_, rfl, _, _, _, _, rfl, rfl, SqT.of hbr8, rfl, _, rfl, _, _, _, _, rfl, rfl, SqT.of hbr8, rfl, _, rfl, _, _, _, _, rfl, rfl, SqT.of hbr8, rfl, _, rfl, _, _, _, _, rfl, rfl, SqT.of hbr8, rfl, fun B dB nB ndB neB => ?_⟩
    have km : Keep [] H8 (upd (upd H8 dB (.own B)) B (.ins C_Brain dB [])) := Keep.made nB ndB
    have hBdm := hBd8.tk km.tk
    obtain ⟨zs, hcem, hRm⟩ := hBdm.ce
    obtain ⟨bs, hbk, hT⟩ := hBdm.bk
    refine ⟨B, dB, u, ce, bk, an, zs, bs, rfl, upd_same, hcem, hbk, fun H9 K9 oB9 => ⟨rfl, ?_⟩⟩
    have k89 : Keep [] H8 H9 := keep_made nB ndB K9
    have P9 := P8.keep0 k89
    have nBp := P8.nep nB
    have nvwp : vw ≠ p := P7.nep nvw
    have hvw9 := k89 _ _ hvw (by simp)
    have hE9 := hE.tk k89.tk
    refine ⟨_, rfl, _, rfl, p, q, ns, vw, xs, es, rfl, P9, hvw9, nvwp, hE9, hEo, hEn, fun first H10 P10 K10 => ⟨_, rfl, ?_⟩⟩
    have tk910 := P9.tk K10
    have hvw10 := tk910 _ _ hvw9
    have hE10 := hE9.tk tk910
    obtain ⟨dB', oB9⟩ := oB9
    have oB10 := K10 _ _ oB9 (by simpa using nBp)
    have tk810 : TK H8 H10 := k89.tk.trans tk910
    have I10 : ThIn K H10 ce bk ca vw an nms ks cs b e xs es u := ⟨hBd8.tk tk810, hBo5, by omega, by omega, hco, hcl, tk810 _ _ hca8, hvw10, hE10, hEo, by omega⟩
    have hbr10 := tk810 _ _ hbr8
    have u25 : u ≤ 25 := by omega
    -- the view without the question
    have hlen := hE10.len
    have hpos : 0 < xs.length := by rw [hlen]; exact List.length_pos_iff.mpr hEn
    obtain ⟨al, el, hx, hg, ha⟩ := hE10.get (i := xs.length - 1) (v := xs[xs.length - 1]'(by omega)) (List.getElem?_eq_getElem _)
    have hlast : atI xs (-1) = some (.ref al) := by
      have e1 : xs = xs.dropLast ++ [xs.getLast (by intro z; rw [z] at hpos; simp at hpos)] := (List.dropLast_concat_getLast _).symm
      rw [e1, atI_last, List.getLast_eq_getElem, hx]
    have hs0 : (evD el)[0]? = some (.str el.w) := by unfold evD; split <;> rfl
    have nep10 : ∀ {x : Addr}, H10 x = none → x ≠ p := fun h => P10.nep h
    refine ⟨fun σ H' => ∃ (pl : Addr) (xs2 : List V) (es2 : List Ev), σ = [some (.ref a), some (.ref p), some (.ref br), some (.ref ca), some (.ref vw), some (.ref B), some (.int first), some (.ref pl), none, none, none] ∧ H' pl = some (.tup xs2) ∧ Evs H' xs2 es2 ∧ EvsOk es2 ∧ es2.length ≤ 10000 ∧ Pool H' p q ns ∧ Keep [] H10 H', ?_, ?_⟩
    · refine ⟨_, rfl, _, rfl, _, _, _, _, rfl, rfl, SqT.of hvw10, hlast, _, _, _, _, rfl, rfl, SqT.of ha, atI_nat (j := 0) hs0, rfl, _, rfl, iteD (fun h => ?_) (fun h => ?_)⟩
      · refine ⟨_, rfl, _, rfl, _, rfl, vw, xs, rfl, SqT.of hvw10, (cut_m1 hpos).2, fun sl nsl => ?_⟩
        rw [(cut_m1 hpos).1]
        have kk := Keep.new (W := []) (o := .tup (xs.take (xs.length - 1))) nsl
        refine ⟨sl, _, es.take (xs.length - 1), rfl, upd_same, (hE10.take _).tk kk.tk, fun e he => hEo e (List.mem_of_mem_take he), by rw [List.length_take]; omega, P10.new nsl, kk⟩
      · exact ⟨vw, xs, es, rfl, hvw10, hE10, hEo, by omega, P10, Keep.refl _ _⟩
    rintro σ H11 ⟨pl, xs2, es2, rfl, hpl, hE11, hEo2, hel2, P11, K11⟩
    have plp : pl ≠ p := by
      obtain ⟨i1, i2, i3, i4, i5, h1, _⟩ := P11
      exact ne_of hpl h1 (by intro z; cases z)
    have hvw11 := K11 _ _ hvw10 (by simp)
    refine ⟨_, rfl, _, rfl, And.intro (by show 2 ≤ sizeLine; decide) <| fun t1 n1 => ?_⟩
    have k12 := Keep.new (W := []) (o := .tup [.ref vw, .int first]) n1
    have P12 := P11.new (o := .tup [.ref vw, .int first]) n1
    refine ⟨_, rfl, _, rfl, p, q, ns, 8, rfl, by decide, by decide, P12, fun c0 H13 z0 z1 P13 K13 => ⟨_, _, rfl, rfl, And.intro (by show 2 ≤ sizeLine; decide) <| fun t2 n2 => ?_⟩⟩
    obtain ⟨c2, hc2⟩ : ∃ c2 : Int, c2 = 1 + c0 := ⟨_, rfl⟩
    generalize hH14 : upd H13 t2 _ = H14
    have ht2 : H14 t2 = some (.tup [.ref pl, .int (1 + c0)]) := by rw [← hH14]; exact upd_same
    have k14 : Keep [] H13 H14 := by rw [← hH14]; exact Keep.new n2
    have P14 : Pool H14 p q ns := by rw [← hH14]; exact P13.new n2
    refine ⟨_, rfl, _, rfl, And.intro (by show 2 ≤ sizeLine; decide) <| fun t3 n3 => And.intro (by show 3 ≤ sizeLine; decide) <| fun tt ntt => ?_⟩
    have k15 := Keep.new (W := []) (o := .tup [.ref vw, .int first]) n3
    have k16 := k15.then_new (o := .tup [.ref t1, .ref t2, .ref t3]) ntt
    have P16 := (P14.new (o := .tup [.ref vw, .int first]) n3).new (o := .tup [.ref t1, .ref t2, .ref t3]) ntt
    have htt : upd (upd H14 t3 (.tup [.ref vw, .int first])) tt (.tup [.ref t1, .ref t2, .ref t3]) tt = some (.tup [.ref t1, .ref t2, .ref t3]) := upd_same
    have ht3 : upd (upd H14 t3 (.tup [.ref vw, .int first])) tt (.tup [.ref t1, .ref t2, .ref t3]) t3 = some (.tup [.ref vw, .int first]) := Keep.new (W := []) ntt _ _ upd_same (by simp)
    have ht2' := k16 _ _ ht2 (by simp)
    have k1116 : Keep [p] H11 (upd (upd H14 t3 (.tup [.ref vw, .int first])) tt (.tup [.ref t1, .ref t2, .ref t3])) := (((k12.mono (by simp)).trans K13).trans (k14.mono (by simp))).trans (k16.mono (by simp))
    have tk1116 := P11.tk k1116
    have t1p : t1 ≠ p := P11.nep n1
    have ht1 := (k14.trans k16) _ _ (K13 _ _ (upd_same (H := H11) (a := t1) (o := .tup [.ref vw, .int first])) (by simpa using t1p)) (by simp)
    generalize upd (upd H14 t3 (.tup [.ref vw, .int first])) tt (.tup [.ref t1, .ref t2, .ref t3]) = H16 at *
    have I16 := (I10.tk K11.tk).tk tk1116
    have J16 : ThIn K H16 ce bk ca pl an nms ks cs b e xs2 es2 u := ⟨I16.bd, I16.bo, I16.u0, I16.u1, I16.co, I16.cl, I16.ca, tk1116 _ _ hpl, hE11.tk tk1116, hEo2, hel2⟩
    have oB16 := k1116 _ _ (K11 _ _ oB10 (by simp)) (by simpa using nBp)
    have hbr16 := tk1116 _ _ (K11 _ _ hbr10 (by simp))
    have each : ∀ (i : Nat) (v : V), [V.ref t1, V.ref t2, V.ref t3][i]? = some v → ∃ (t vw' : Addr) (xs' : List V) (es' : List Ev) (c : Int), v = .ref t ∧ H16 t = some (.tup [.ref vw', .int c]) ∧ ThIn K H16 ce bk ca vw' an nms ks cs b e xs' es' u := by
      intro i v hv
      rcases i with _ | _ | _ | i
      · cases hv; exact ⟨t1, vw, xs, es, first, rfl, ht1, I16⟩
      · cases hv; exact ⟨t2, pl, xs2, es2, 1 + c0, rfl, ht2', J16⟩
      · cases hv; exact ⟨t3, vw, xs, es, first, rfl, ht3, I16⟩
      · simp at hv
    refine ⟨tt, rfl, ⟨_, SqT.of htt⟩, for_tup (K := K) (a := tt) (xs := [V.ref t1, V.ref t2, V.ref t3]) (fun i σ H' => (∃ o8 o9 : Option V, σ = [some (.ref a), some (.ref p), some (.ref br), some (.ref ca), some (.ref vw), some (.ref B), some (.int first), some (.ref pl), o8, o9, none]) ∧ Keep [] H16 H')
      ⟨⟨none, none, rfl⟩, Keep.refl _ _⟩ (fun i σ H' _ ⟨_, K'⟩ => SqT.of (K' _ _ htt (by simp))) ?_ ?_⟩
    · rintro i v σ H17 hv ⟨⟨o8, o9, rfl⟩, K17⟩
      obtain ⟨t, vw', xs', es', c, rfl, ht, I'⟩ := each i v hv
      refine ⟨t, _, rfl, SqT.of (K17 _ _ ht (by simp)), rfl, _, _, rfl, _, _, rfl, rfl, ?_⟩
      refine ⟨_, rfl, _, rfl, _, rfl, _, rfl, _, rfl, B, br, ce, bk, ca, vw', an, nms, ks, cs, b, e, xs', es', u, c, rfl, ⟨dB', K17 _ _ oB16 (by simp)⟩, K17 _ _ hbr16 (by simp), I'.tk K17.tk, u25, fun H18 K18 => ⟨_, rfl, iteF ⟨⟨_, _, rfl⟩, K17.trans K18⟩⟩⟩
    rintro σ H17 ⟨⟨o8, o9, rfl⟩, K17⟩
    have P17 := P16.keep0 K17
    have I17 := I16.tk K17.tk
    have hbr17 := K17 _ _ hbr16 (by simp)
    have oB17 := K17 _ _ oB16 (by simp)
    obtain ⟨ys7, hce7, hR7⟩ := id I17.bd.ce
    have hrl7 := hR7.len
    refine ⟨_, rfl, _, rfl, _, rfl, _, _, _, _, rfl, rfl, SqT.of hbr17, rfl, ce, rfl, ⟨_, SqT.of hce7⟩, fun L hL => ?_⟩
    have nLp := P17.nep hL
    have nLq := P17.neq hL
    refine lc_tup (K := K) (a := ce) (xs := ys7) (fun i H2 => ∃ cs : List Int, H2 L = some (.lst (cs.map V.int)) ∧ cs.length = i ∧ CsOk cs ∧ Pool H2 p q ns ∧ Keep [p] H17 H2) ⟨[], upd_same, rfl, (fun _ h => by cases h), P17.new hL, Keep.new hL⟩ (fun i H2 _ ⟨_, _, _, _, _, k2⟩ => SqT.of (P17.tk k2 _ _ hce7)) ?_ ?_
    · rintro i v H2 hv ⟨cs, hL2, hcl, hco, P2, K2⟩
      have hi : i < ys7.length := (List.getElem?_eq_some_iff.mp hv).1
      refine ⟨rfl, yes_then ⟨_, rfl, p, q, ns, rfl, P2, fun r H3 r0 r1 P3 K3 => ?_⟩⟩
      refine ⟨_, K3 _ _ hL2 (by simpa using nLp), by rw [List.length_map]; exact smallL (by have := hBo.nl; omega), cs ++ [r], by rw [List.map_append]; exact upd_same, by rw [List.length_append, hcl]; rfl, ?_, P3.own nLp nLq, (K2.trans K3).then_own hL⟩
      intro c hc
      rcases List.mem_append.mp hc with hc | hc
      · exact hco c hc
      · rw [List.mem_singleton] at hc; subst hc; exact ⟨r0, r1⟩
    rintro H18 ⟨cs8, hL8, hcl8, hco8, P18, K18⟩
    refine ⟨_, _, rfl, .inl ⟨SqL.of hL8, fun ca8 nca8 => ?_⟩⟩
    have tk8 : TK H17 (upd H18 ca8 (.tup (cs8.map V.int))) := (P17.tk K18).trans (TK.new nca8)
    have I18 := I17.tk tk8
    have oB18 := Keep.new (W := []) (o := .tup (cs8.map V.int)) nca8 _ _ (K18 _ _ oB17 (by simpa using nBp)) (by simp)
    refine ⟨_, rfl, _, rfl, B, br, ce, bk, ca8, vw, an, nms, ks, cs8, b, e, xs, es, u, first, rfl, ⟨dB', oB18⟩, tk8 _ _ hbr17, ⟨I18.bd, I18.bo, I18.u0, I18.u1, hco8, by omega, upd_same, I18.vw, I18.ev, I18.eo, I18.el⟩, u25, fun H19 K19 => k H19⟩
end

theorem all_mk {l : PySem.W.OpenLaw} {w : World} {K : PySem.W.Frag} {h : Heap} {mg : Str → Option Value} {fa : Addr} (X : K.In h) (G : h.Ns mainGlobals mg) (hfa : mg "law" = some (.ref fa))
    {f_view_numbers : Addr} {od_view_numbers an_view_numbers : Option Addr} {sl_view_numbers : Array (Option Value)} {oc_view_numbers kV_view_numbers dc_view_numbers pm_view_numbers cd_view_numbers ct_view_numbers : Value}
    {f_think : Addr} {od_think an_think : Option Addr} {sl_think : Array (Option Value)} {oc_think kV_think dc_think pm_think cd_think ct_think : Value}
    {f_combine : Addr} {od_combine an_combine : Option Addr} {sl_combine : Array (Option Value)} {oc_combine kV_combine dc_combine pm_combine cd_combine ct_combine : Value}
    {f_value_of : Addr} {od_value_of an_value_of : Option Addr} {sl_value_of : Array (Option Value)} {oc_value_of kV_value_of dc_value_of pm_value_of cd_value_of ct_value_of : Value}
    {T_value_of : Addr} {oT_value_of : Value} {dT_value_of : Option Addr} {nT_value_of : Nat} {slT_value_of : Array (Option Value)} {E_value_of : Addr}
    {f_outcomes : Addr} {od_outcomes an_outcomes : Option Addr} {sl_outcomes : Array (Option Value)} {oc_outcomes kV_outcomes dc_outcomes pm_outcomes cd_outcomes ct_outcomes : Value}
    {f_law_pool : Addr} {od_law_pool an_law_pool : Option Addr} {sl_law_pool : Array (Option Value)} {oc_law_pool kV_law_pool dc_law_pool pm_law_pool cd_law_pool ct_law_pool : Value}
    {f_law_draw : Addr} {od_law_draw an_law_draw : Option Addr} {sl_law_draw : Array (Option Value)} {oc_law_draw kV_law_draw dc_law_draw pm_law_draw cd_law_draw ct_law_draw : Value}
    {f_law_spend : Addr} {od_law_spend an_law_spend : Option Addr} {sl_law_spend : Array (Option Value)} {oc_law_spend kV_law_spend dc_law_spend pm_law_spend cd_law_spend ct_law_spend : Value}
    {f_law_few : Addr} {od_law_few an_law_few : Option Addr} {sl_law_few : Array (Option Value)} {oc_law_few kV_law_few dc_law_few pm_law_few cd_law_few ct_law_few : Value}
    {f_law_number : Addr} {od_law_number an_law_number : Option Addr} {sl_law_number : Array (Option Value)} {oc_law_number kV_law_number dc_law_number pm_law_number cd_law_number ct_law_number : Value}
    {f_law_same : Addr} {od_law_same an_law_same : Option Addr} {sl_law_same : Array (Option Value)} {oc_law_same kV_law_same dc_law_same pm_law_same cd_law_same ct_law_same : Value}
    {f_law_keys : Addr} {od_law_keys an_law_keys : Option Addr} {sl_law_keys : Array (Option Value)} {oc_law_keys kV_law_keys dc_law_keys pm_law_keys cd_law_keys ct_law_keys : Value}
    {f_law_name : Addr} {od_law_name an_law_name : Option Addr} {sl_law_name : Array (Option Value)} {oc_law_name kV_law_name dc_law_name pm_law_name cd_law_name ct_law_name : Value}
    {f_law_names : Addr} {od_law_names an_law_names : Option Addr} {sl_law_names : Array (Option Value)} {oc_law_names kV_law_names dc_law_names pm_law_names cd_law_names ct_law_names : Value}
    {f_law_expression : Addr} {od_law_expression an_law_expression : Option Addr} {sl_law_expression : Array (Option Value)} {oc_law_expression kV_law_expression dc_law_expression pm_law_expression cd_law_expression ct_law_expression : Value}
    {f_law_combine : Addr} {od_law_combine an_law_combine : Option Addr} {sl_law_combine : Array (Option Value)} {oc_law_combine kV_law_combine dc_law_combine pm_law_combine cd_law_combine ct_law_combine : Value}
    {f_law_value : Addr} {od_law_value an_law_value : Option Addr} {sl_law_value : Array (Option Value)} {oc_law_value kV_law_value dc_law_value pm_law_value cd_law_value ct_law_value : Value}
    {f_law_thoughts : Addr} {od_law_thoughts an_law_thoughts : Option Addr} {sl_law_thoughts : Array (Option Value)} {oc_law_thoughts kV_law_thoughts dc_law_thoughts pm_law_thoughts cd_law_thoughts ct_law_thoughts : Value}
    {f_law_thought : Addr} {od_law_thought an_law_thought : Option Addr} {sl_law_thought : Array (Option Value)} {oc_law_thought kV_law_thought dc_law_thought pm_law_thought cd_law_thought ct_law_thought : Value}
    {f_law_brain : Addr} {od_law_brain an_law_brain : Option Addr} {sl_law_brain : Array (Option Value)} {oc_law_brain kV_law_brain dc_law_brain pm_law_brain cd_law_brain ct_law_brain : Value}
    {f_law_seen : Addr} {od_law_seen an_law_seen : Option Addr} {sl_law_seen : Array (Option Value)} {oc_law_seen kV_law_seen dc_law_seen pm_law_seen cd_law_seen ct_law_seen : Value}
    {f_law_fall : Addr} {od_law_fall an_law_fall : Option Addr} {sl_law_fall : Array (Option Value)} {oc_law_fall kV_law_fall dc_law_fall pm_law_fall cd_law_fall ct_law_fall : Value}
    {f_law_unit : Addr} {od_law_unit an_law_unit : Option Addr} {sl_law_unit : Array (Option Value)} {oc_law_unit kV_law_unit dc_law_unit pm_law_unit cd_law_unit ct_law_unit : Value}
    {f_law_run : Addr} {od_law_run an_law_run : Option Addr} {sl_law_run : Array (Option Value)} {oc_law_run kV_law_run dc_law_run pm_law_run cd_law_run ct_law_run : Value}
    {f_law_think : Addr} {od_law_think an_law_think : Option Addr} {sl_law_think : Array (Option Value)} {oc_law_think kV_law_think dc_law_think pm_law_think cd_law_think ct_law_think : Value}
    {f_law_view : Addr} {od_law_view an_law_view : Option Addr} {sl_law_view : Array (Option Value)} {oc_law_view kV_law_view dc_law_view pm_law_view cd_law_view ct_law_view : Value}
    {f_law_count : Addr} {od_law_count an_law_count : Option Addr} {sl_law_count : Array (Option Value)} {oc_law_count kV_law_count dc_law_count pm_law_count cd_law_count ct_law_count : Value}
    {f_law_lowest : Addr} {od_law_lowest an_law_lowest : Option Addr} {sl_law_lowest : Array (Option Value)} {oc_law_lowest kV_law_lowest dc_law_lowest pm_law_lowest cd_law_lowest ct_law_lowest : Value}
    {f_law_is_ratio : Addr} {od_law_is_ratio an_law_is_ratio : Option Addr} {sl_law_is_ratio : Array (Option Value)} {oc_law_is_ratio kV_law_is_ratio dc_law_is_ratio pm_law_is_ratio cd_law_is_ratio ct_law_is_ratio : Value}
    {f_law_small_lots : Addr} {od_law_small_lots an_law_small_lots : Option Addr} {sl_law_small_lots : Array (Option Value)} {oc_law_small_lots kV_law_small_lots dc_law_small_lots pm_law_small_lots cd_law_small_lots ct_law_small_lots : Value}
    {f_law_outcomes : Addr} {od_law_outcomes an_law_outcomes : Option Addr} {sl_law_outcomes : Array (Option Value)} {oc_law_outcomes kV_law_outcomes dc_law_outcomes pm_law_outcomes cd_law_outcomes ct_law_outcomes : Value}
    {f_law_told : Addr} {od_law_told an_law_told : Option Addr} {sl_law_told : Array (Option Value)} {oc_law_told kV_law_told dc_law_told pm_law_told cd_law_told ct_law_told : Value}
    {f_law_right : Addr} {od_law_right an_law_right : Option Addr} {sl_law_right : Array (Option Value)} {oc_law_right kV_law_right dc_law_right pm_law_right cd_law_right ct_law_right : Value}
    {f_law : Addr} {od_law an_law : Option Addr} {sl_law : Array (Option Value)} {oc_law kV_law dc_law pm_law cd_law ct_law : Value}
    {C_Ratio : Addr}
    {C_Tape : Addr}
    {C_Thinker : Addr}
    {C_Brain : Addr}
    {f_Ratio___init : Addr} {od_Ratio___init an_Ratio___init : Option Addr} {sl_Ratio___init : Array (Option Value)} {oc_Ratio___init kV_Ratio___init dc_Ratio___init pm_Ratio___init cd_Ratio___init ct_Ratio___init : Value}
    {T_Ratio___init : Addr} {oT_Ratio___init : Value} {dT_Ratio___init : Option Addr} {nT_Ratio___init : Nat} {slT_Ratio___init : Array (Option Value)} {t_Ratio___init : Tok}
    {f_Tape___init : Addr} {od_Tape___init an_Tape___init : Option Addr} {sl_Tape___init : Array (Option Value)} {oc_Tape___init kV_Tape___init dc_Tape___init pm_Tape___init cd_Tape___init ct_Tape___init : Value}
    {f_Tape_take : Addr} {od_Tape_take an_Tape_take : Option Addr} {sl_Tape_take : Array (Option Value)} {oc_Tape_take kV_Tape_take dc_Tape_take pm_Tape_take cd_Tape_take ct_Tape_take : Value}
    {f_Tape_chance : Addr} {od_Tape_chance an_Tape_chance : Option Addr} {sl_Tape_chance : Array (Option Value)} {oc_Tape_chance kV_Tape_chance dc_Tape_chance pm_Tape_chance cd_Tape_chance ct_Tape_chance : Value}
    {f_Tape_following : Addr} {od_Tape_following an_Tape_following : Option Addr} {sl_Tape_following : Array (Option Value)} {oc_Tape_following kV_Tape_following dc_Tape_following pm_Tape_following cd_Tape_following ct_Tape_following : Value}
    {f_Brain___init : Addr} {od_Brain___init an_Brain___init : Option Addr} {sl_Brain___init : Array (Option Value)} {oc_Brain___init kV_Brain___init dc_Brain___init pm_Brain___init cd_Brain___init ct_Brain___init : Value}
    {f_Thinker___init : Addr} {od_Thinker___init an_Thinker___init : Option Addr} {sl_Thinker___init : Array (Option Value)} {oc_Thinker___init kV_Thinker___init dc_Thinker___init pm_Thinker___init cd_Thinker___init ct_Thinker___init : Value}
    {f_Thinker_value : Addr} {od_Thinker_value an_Thinker_value : Option Addr} {sl_Thinker_value : Array (Option Value)} {oc_Thinker_value kV_Thinker_value dc_Thinker_value pm_Thinker_value cd_Thinker_value ct_Thinker_value : Value}
    {f_Thinker_unit : Addr} {od_Thinker_unit an_Thinker_unit : Option Addr} {sl_Thinker_unit : Array (Option Value)} {oc_Thinker_unit kV_Thinker_unit dc_Thinker_unit pm_Thinker_unit cd_Thinker_unit ct_Thinker_unit : Value}
    {f_Thinker_run : Addr} {od_Thinker_run an_Thinker_run : Option Addr} {sl_Thinker_run : Array (Option Value)} {oc_Thinker_run kV_Thinker_run dc_Thinker_run pm_Thinker_run cd_Thinker_run ct_Thinker_run : Value}
    {f_Thinker_step : Addr} {od_Thinker_step an_Thinker_step : Option Addr} {sl_Thinker_step : Array (Option Value)} {oc_Thinker_step kV_Thinker_step dc_Thinker_step pm_Thinker_step cd_Thinker_step ct_Thinker_step : Value}
    {f_Thinker_loop : Addr} {od_Thinker_loop an_Thinker_loop : Option Addr} {sl_Thinker_loop : Array (Option Value)} {oc_Thinker_loop kV_Thinker_loop dc_Thinker_loop pm_Thinker_loop cd_Thinker_loop ct_Thinker_loop : Value}
    {C_GameError : Addr}
    {C_TooLarge : Addr}
    {nm_TooLarge q_TooLarge : Str} {N_TooLarge : Addr} {bs_TooLarge : List Value} {sn_TooLarge : List Str} {sub_TooLarge : List Value} {ab_TooLarge : Bool} {col_TooLarge : Option Bool} {dd_TooLarge : Option Addr} {m0_TooLarge m1_TooLarge m2_TooLarge m3_TooLarge m5_TooLarge : Option Value}
    {f_TooLarge___init cda_TooLarge___init cc_TooLarge___init : Addr} {od_TooLarge___init an_TooLarge___init cld_TooLarge___init cdd_TooLarge___init : Option Addr} {sl_TooLarge___init csl_TooLarge___init ccs_TooLarge___init : Array (Option Value)} {vs_TooLarge___init : Array Value} {oc_TooLarge___init dc_TooLarge___init pm_TooLarge___init ct_TooLarge___init cl_TooLarge___init ccl_TooLarge___init : Value} {file_TooLarge___init : Str} {tf_TooLarge___init : Tok}
    {t_MOST_OUTCOMES : Tok}
    {t_GREATEST : Tok}
    {T_EVENTS : Addr} {nn_EVENTS : Nat} {sl_EVENTS : Array (Option Value)} {t_EVENTS0 t_EVENTS1 t_EVENTS2 t_EVENTS3 : Tok}
    (a_view_numbers : PySem.W.nsIn K mainGlobals "view_numbers" = some (some (.ref f_view_numbers))) (l_view_numbers : K.lookup f_view_numbers = some ⟨oc_view_numbers, od_view_numbers, .func (PySem.W.fnOf "view_numbers" "view_numbers" (fnArgs s_view_numbers) (fnBody s_view_numbers) (fnScope s_view_numbers) .none kV_view_numbers dc_view_numbers pm_view_numbers an_view_numbers cd_view_numbers ct_view_numbers), sl_view_numbers⟩) (c_view_numbers : PySem.W.codeIn K cd_view_numbers "view_numbers" = true) (k_view_numbers : PySem.W.keepIn K (.ref f_view_numbers) = true)
    (a_think : PySem.W.nsIn K mainGlobals "think" = some (some (.ref f_think))) (l_think : K.lookup f_think = some ⟨oc_think, od_think, .func (PySem.W.fnOf "think" "think" (fnArgs s_think) (fnBody s_think) (fnScope s_think) .none kV_think dc_think pm_think an_think cd_think ct_think), sl_think⟩) (c_think : PySem.W.codeIn K cd_think "think" = true) (k_think : PySem.W.keepIn K (.ref f_think) = true)
    (a_combine : PySem.W.nsIn K mainGlobals "combine" = some (some (.ref f_combine))) (l_combine : K.lookup f_combine = some ⟨oc_combine, od_combine, .func (PySem.W.fnOf "combine" "combine" (fnArgs s_combine) (fnBody s_combine) (fnScope s_combine) .none kV_combine dc_combine pm_combine an_combine cd_combine ct_combine), sl_combine⟩) (c_combine : PySem.W.codeIn K cd_combine "combine" = true) (k_combine : PySem.W.keepIn K (.ref f_combine) = true)
    (a_value_of : PySem.W.nsIn K mainGlobals "value_of" = some (some (.ref f_value_of))) (l_value_of : K.lookup f_value_of = some ⟨oc_value_of, od_value_of, .func (PySem.W.fnOf "value_of" "value_of" (fnArgs s_value_of) (fnBody s_value_of) (fnScope s_value_of) (.ref T_value_of) kV_value_of dc_value_of pm_value_of an_value_of cd_value_of ct_value_of), sl_value_of⟩) (c_value_of : PySem.W.codeIn K cd_value_of "value_of" = true) (k_value_of : PySem.W.keepIn K (.ref f_value_of) = true)
    (lT_value_of : K.lookup T_value_of = some ⟨oT_value_of, dT_value_of, .seq #[.ref E_value_of] nT_value_of, slT_value_of⟩)
    (a_outcomes : PySem.W.nsIn K mainGlobals "outcomes" = some (some (.ref f_outcomes))) (l_outcomes : K.lookup f_outcomes = some ⟨oc_outcomes, od_outcomes, .func (PySem.W.fnOf "outcomes" "outcomes" (fnArgs s_outcomes) (fnBody s_outcomes) (fnScope s_outcomes) .none kV_outcomes dc_outcomes pm_outcomes an_outcomes cd_outcomes ct_outcomes), sl_outcomes⟩) (c_outcomes : PySem.W.codeIn K cd_outcomes "outcomes" = true) (k_outcomes : PySem.W.keepIn K (.ref f_outcomes) = true)
    (a_law_pool : PySem.W.nsIn K mainGlobals "_law_pool" = some (some (.ref f_law_pool))) (l_law_pool : K.lookup f_law_pool = some ⟨oc_law_pool, od_law_pool, .func (PySem.W.fnOf "_law_pool" "_law_pool" (fnArgs s_law_pool) (fnBody s_law_pool) (fnScope s_law_pool) .none kV_law_pool dc_law_pool pm_law_pool an_law_pool cd_law_pool ct_law_pool), sl_law_pool⟩) (c_law_pool : PySem.W.codeIn K cd_law_pool "_law_pool" = true) (k_law_pool : PySem.W.keepIn K (.ref f_law_pool) = true)
    (a_law_draw : PySem.W.nsIn K mainGlobals "_law_draw" = some (some (.ref f_law_draw))) (l_law_draw : K.lookup f_law_draw = some ⟨oc_law_draw, od_law_draw, .func (PySem.W.fnOf "_law_draw" "_law_draw" (fnArgs s_law_draw) (fnBody s_law_draw) (fnScope s_law_draw) .none kV_law_draw dc_law_draw pm_law_draw an_law_draw cd_law_draw ct_law_draw), sl_law_draw⟩) (c_law_draw : PySem.W.codeIn K cd_law_draw "_law_draw" = true) (k_law_draw : PySem.W.keepIn K (.ref f_law_draw) = true)
    (a_law_spend : PySem.W.nsIn K mainGlobals "_law_spend" = some (some (.ref f_law_spend))) (l_law_spend : K.lookup f_law_spend = some ⟨oc_law_spend, od_law_spend, .func (PySem.W.fnOf "_law_spend" "_law_spend" (fnArgs s_law_spend) (fnBody s_law_spend) (fnScope s_law_spend) .none kV_law_spend dc_law_spend pm_law_spend an_law_spend cd_law_spend ct_law_spend), sl_law_spend⟩) (c_law_spend : PySem.W.codeIn K cd_law_spend "_law_spend" = true) (k_law_spend : PySem.W.keepIn K (.ref f_law_spend) = true)
    (a_law_few : PySem.W.nsIn K mainGlobals "_law_few" = some (some (.ref f_law_few))) (l_law_few : K.lookup f_law_few = some ⟨oc_law_few, od_law_few, .func (PySem.W.fnOf "_law_few" "_law_few" (fnArgs s_law_few) (fnBody s_law_few) (fnScope s_law_few) .none kV_law_few dc_law_few pm_law_few an_law_few cd_law_few ct_law_few), sl_law_few⟩) (c_law_few : PySem.W.codeIn K cd_law_few "_law_few" = true) (k_law_few : PySem.W.keepIn K (.ref f_law_few) = true)
    (a_law_number : PySem.W.nsIn K mainGlobals "_law_number" = some (some (.ref f_law_number))) (l_law_number : K.lookup f_law_number = some ⟨oc_law_number, od_law_number, .func (PySem.W.fnOf "_law_number" "_law_number" (fnArgs s_law_number) (fnBody s_law_number) (fnScope s_law_number) .none kV_law_number dc_law_number pm_law_number an_law_number cd_law_number ct_law_number), sl_law_number⟩) (c_law_number : PySem.W.codeIn K cd_law_number "_law_number" = true) (k_law_number : PySem.W.keepIn K (.ref f_law_number) = true)
    (a_law_same : PySem.W.nsIn K mainGlobals "_law_same" = some (some (.ref f_law_same))) (l_law_same : K.lookup f_law_same = some ⟨oc_law_same, od_law_same, .func (PySem.W.fnOf "_law_same" "_law_same" (fnArgs s_law_same) (fnBody s_law_same) (fnScope s_law_same) .none kV_law_same dc_law_same pm_law_same an_law_same cd_law_same ct_law_same), sl_law_same⟩) (c_law_same : PySem.W.codeIn K cd_law_same "_law_same" = true) (k_law_same : PySem.W.keepIn K (.ref f_law_same) = true)
    (a_law_keys : PySem.W.nsIn K mainGlobals "_law_keys" = some (some (.ref f_law_keys))) (l_law_keys : K.lookup f_law_keys = some ⟨oc_law_keys, od_law_keys, .func (PySem.W.fnOf "_law_keys" "_law_keys" (fnArgs s_law_keys) (fnBody s_law_keys) (fnScope s_law_keys) .none kV_law_keys dc_law_keys pm_law_keys an_law_keys cd_law_keys ct_law_keys), sl_law_keys⟩) (c_law_keys : PySem.W.codeIn K cd_law_keys "_law_keys" = true) (k_law_keys : PySem.W.keepIn K (.ref f_law_keys) = true)
    (a_law_name : PySem.W.nsIn K mainGlobals "_law_name" = some (some (.ref f_law_name))) (l_law_name : K.lookup f_law_name = some ⟨oc_law_name, od_law_name, .func (PySem.W.fnOf "_law_name" "_law_name" (fnArgs s_law_name) (fnBody s_law_name) (fnScope s_law_name) .none kV_law_name dc_law_name pm_law_name an_law_name cd_law_name ct_law_name), sl_law_name⟩) (c_law_name : PySem.W.codeIn K cd_law_name "_law_name" = true) (k_law_name : PySem.W.keepIn K (.ref f_law_name) = true)
    (a_law_names : PySem.W.nsIn K mainGlobals "_law_names" = some (some (.ref f_law_names))) (l_law_names : K.lookup f_law_names = some ⟨oc_law_names, od_law_names, .func (PySem.W.fnOf "_law_names" "_law_names" (fnArgs s_law_names) (fnBody s_law_names) (fnScope s_law_names) .none kV_law_names dc_law_names pm_law_names an_law_names cd_law_names ct_law_names), sl_law_names⟩) (c_law_names : PySem.W.codeIn K cd_law_names "_law_names" = true) (k_law_names : PySem.W.keepIn K (.ref f_law_names) = true)
    (a_law_expression : PySem.W.nsIn K mainGlobals "_law_expression" = some (some (.ref f_law_expression))) (l_law_expression : K.lookup f_law_expression = some ⟨oc_law_expression, od_law_expression, .func (PySem.W.fnOf "_law_expression" "_law_expression" (fnArgs s_law_expression) (fnBody s_law_expression) (fnScope s_law_expression) .none kV_law_expression dc_law_expression pm_law_expression an_law_expression cd_law_expression ct_law_expression), sl_law_expression⟩) (c_law_expression : PySem.W.codeIn K cd_law_expression "_law_expression" = true) (k_law_expression : PySem.W.keepIn K (.ref f_law_expression) = true)
    (a_law_combine : PySem.W.nsIn K mainGlobals "_law_combine" = some (some (.ref f_law_combine))) (l_law_combine : K.lookup f_law_combine = some ⟨oc_law_combine, od_law_combine, .func (PySem.W.fnOf "_law_combine" "_law_combine" (fnArgs s_law_combine) (fnBody s_law_combine) (fnScope s_law_combine) .none kV_law_combine dc_law_combine pm_law_combine an_law_combine cd_law_combine ct_law_combine), sl_law_combine⟩) (c_law_combine : PySem.W.codeIn K cd_law_combine "_law_combine" = true) (k_law_combine : PySem.W.keepIn K (.ref f_law_combine) = true)
    (a_law_value : PySem.W.nsIn K mainGlobals "_law_value" = some (some (.ref f_law_value))) (l_law_value : K.lookup f_law_value = some ⟨oc_law_value, od_law_value, .func (PySem.W.fnOf "_law_value" "_law_value" (fnArgs s_law_value) (fnBody s_law_value) (fnScope s_law_value) .none kV_law_value dc_law_value pm_law_value an_law_value cd_law_value ct_law_value), sl_law_value⟩) (c_law_value : PySem.W.codeIn K cd_law_value "_law_value" = true) (k_law_value : PySem.W.keepIn K (.ref f_law_value) = true)
    (a_law_thoughts : PySem.W.nsIn K mainGlobals "_law_thoughts" = some (some (.ref f_law_thoughts))) (l_law_thoughts : K.lookup f_law_thoughts = some ⟨oc_law_thoughts, od_law_thoughts, .func (PySem.W.fnOf "_law_thoughts" "_law_thoughts" (fnArgs s_law_thoughts) (fnBody s_law_thoughts) (fnScope s_law_thoughts) .none kV_law_thoughts dc_law_thoughts pm_law_thoughts an_law_thoughts cd_law_thoughts ct_law_thoughts), sl_law_thoughts⟩) (c_law_thoughts : PySem.W.codeIn K cd_law_thoughts "_law_thoughts" = true) (k_law_thoughts : PySem.W.keepIn K (.ref f_law_thoughts) = true)
    (a_law_thought : PySem.W.nsIn K mainGlobals "_law_thought" = some (some (.ref f_law_thought))) (l_law_thought : K.lookup f_law_thought = some ⟨oc_law_thought, od_law_thought, .func (PySem.W.fnOf "_law_thought" "_law_thought" (fnArgs s_law_thought) (fnBody s_law_thought) (fnScope s_law_thought) .none kV_law_thought dc_law_thought pm_law_thought an_law_thought cd_law_thought ct_law_thought), sl_law_thought⟩) (c_law_thought : PySem.W.codeIn K cd_law_thought "_law_thought" = true) (k_law_thought : PySem.W.keepIn K (.ref f_law_thought) = true)
    (a_law_brain : PySem.W.nsIn K mainGlobals "_law_brain" = some (some (.ref f_law_brain))) (l_law_brain : K.lookup f_law_brain = some ⟨oc_law_brain, od_law_brain, .func (PySem.W.fnOf "_law_brain" "_law_brain" (fnArgs s_law_brain) (fnBody s_law_brain) (fnScope s_law_brain) .none kV_law_brain dc_law_brain pm_law_brain an_law_brain cd_law_brain ct_law_brain), sl_law_brain⟩) (c_law_brain : PySem.W.codeIn K cd_law_brain "_law_brain" = true) (k_law_brain : PySem.W.keepIn K (.ref f_law_brain) = true)
    (a_law_seen : PySem.W.nsIn K mainGlobals "_law_seen" = some (some (.ref f_law_seen))) (l_law_seen : K.lookup f_law_seen = some ⟨oc_law_seen, od_law_seen, .func (PySem.W.fnOf "_law_seen" "_law_seen" (fnArgs s_law_seen) (fnBody s_law_seen) (fnScope s_law_seen) .none kV_law_seen dc_law_seen pm_law_seen an_law_seen cd_law_seen ct_law_seen), sl_law_seen⟩) (c_law_seen : PySem.W.codeIn K cd_law_seen "_law_seen" = true) (k_law_seen : PySem.W.keepIn K (.ref f_law_seen) = true)
    (a_law_fall : PySem.W.nsIn K mainGlobals "_law_fall" = some (some (.ref f_law_fall))) (l_law_fall : K.lookup f_law_fall = some ⟨oc_law_fall, od_law_fall, .func (PySem.W.fnOf "_law_fall" "_law_fall" (fnArgs s_law_fall) (fnBody s_law_fall) (fnScope s_law_fall) .none kV_law_fall dc_law_fall pm_law_fall an_law_fall cd_law_fall ct_law_fall), sl_law_fall⟩) (c_law_fall : PySem.W.codeIn K cd_law_fall "_law_fall" = true) (k_law_fall : PySem.W.keepIn K (.ref f_law_fall) = true)
    (a_law_unit : PySem.W.nsIn K mainGlobals "_law_unit" = some (some (.ref f_law_unit))) (l_law_unit : K.lookup f_law_unit = some ⟨oc_law_unit, od_law_unit, .func (PySem.W.fnOf "_law_unit" "_law_unit" (fnArgs s_law_unit) (fnBody s_law_unit) (fnScope s_law_unit) .none kV_law_unit dc_law_unit pm_law_unit an_law_unit cd_law_unit ct_law_unit), sl_law_unit⟩) (c_law_unit : PySem.W.codeIn K cd_law_unit "_law_unit" = true) (k_law_unit : PySem.W.keepIn K (.ref f_law_unit) = true)
    (a_law_run : PySem.W.nsIn K mainGlobals "_law_run" = some (some (.ref f_law_run))) (l_law_run : K.lookup f_law_run = some ⟨oc_law_run, od_law_run, .func (PySem.W.fnOf "_law_run" "_law_run" (fnArgs s_law_run) (fnBody s_law_run) (fnScope s_law_run) .none kV_law_run dc_law_run pm_law_run an_law_run cd_law_run ct_law_run), sl_law_run⟩) (c_law_run : PySem.W.codeIn K cd_law_run "_law_run" = true) (k_law_run : PySem.W.keepIn K (.ref f_law_run) = true)
    (a_law_think : PySem.W.nsIn K mainGlobals "_law_think" = some (some (.ref f_law_think))) (l_law_think : K.lookup f_law_think = some ⟨oc_law_think, od_law_think, .func (PySem.W.fnOf "_law_think" "_law_think" (fnArgs s_law_think) (fnBody s_law_think) (fnScope s_law_think) .none kV_law_think dc_law_think pm_law_think an_law_think cd_law_think ct_law_think), sl_law_think⟩) (c_law_think : PySem.W.codeIn K cd_law_think "_law_think" = true) (k_law_think : PySem.W.keepIn K (.ref f_law_think) = true)
    (a_law_view : PySem.W.nsIn K mainGlobals "_law_view" = some (some (.ref f_law_view))) (l_law_view : K.lookup f_law_view = some ⟨oc_law_view, od_law_view, .func (PySem.W.fnOf "_law_view" "_law_view" (fnArgs s_law_view) (fnBody s_law_view) (fnScope s_law_view) .none kV_law_view dc_law_view pm_law_view an_law_view cd_law_view ct_law_view), sl_law_view⟩) (c_law_view : PySem.W.codeIn K cd_law_view "_law_view" = true) (k_law_view : PySem.W.keepIn K (.ref f_law_view) = true)
    (a_law_count : PySem.W.nsIn K mainGlobals "_law_count" = some (some (.ref f_law_count))) (l_law_count : K.lookup f_law_count = some ⟨oc_law_count, od_law_count, .func (PySem.W.fnOf "_law_count" "_law_count" (fnArgs s_law_count) (fnBody s_law_count) (fnScope s_law_count) .none kV_law_count dc_law_count pm_law_count an_law_count cd_law_count ct_law_count), sl_law_count⟩) (c_law_count : PySem.W.codeIn K cd_law_count "_law_count" = true) (k_law_count : PySem.W.keepIn K (.ref f_law_count) = true)
    (a_law_lowest : PySem.W.nsIn K mainGlobals "_law_lowest" = some (some (.ref f_law_lowest))) (l_law_lowest : K.lookup f_law_lowest = some ⟨oc_law_lowest, od_law_lowest, .func (PySem.W.fnOf "_law_lowest" "_law_lowest" (fnArgs s_law_lowest) (fnBody s_law_lowest) (fnScope s_law_lowest) .none kV_law_lowest dc_law_lowest pm_law_lowest an_law_lowest cd_law_lowest ct_law_lowest), sl_law_lowest⟩) (c_law_lowest : PySem.W.codeIn K cd_law_lowest "_law_lowest" = true) (k_law_lowest : PySem.W.keepIn K (.ref f_law_lowest) = true)
    (a_law_is_ratio : PySem.W.nsIn K mainGlobals "_law_is_ratio" = some (some (.ref f_law_is_ratio))) (l_law_is_ratio : K.lookup f_law_is_ratio = some ⟨oc_law_is_ratio, od_law_is_ratio, .func (PySem.W.fnOf "_law_is_ratio" "_law_is_ratio" (fnArgs s_law_is_ratio) (fnBody s_law_is_ratio) (fnScope s_law_is_ratio) .none kV_law_is_ratio dc_law_is_ratio pm_law_is_ratio an_law_is_ratio cd_law_is_ratio ct_law_is_ratio), sl_law_is_ratio⟩) (c_law_is_ratio : PySem.W.codeIn K cd_law_is_ratio "_law_is_ratio" = true) (k_law_is_ratio : PySem.W.keepIn K (.ref f_law_is_ratio) = true)
    (a_law_small_lots : PySem.W.nsIn K mainGlobals "_law_small_lots" = some (some (.ref f_law_small_lots))) (l_law_small_lots : K.lookup f_law_small_lots = some ⟨oc_law_small_lots, od_law_small_lots, .func (PySem.W.fnOf "_law_small_lots" "_law_small_lots" (fnArgs s_law_small_lots) (fnBody s_law_small_lots) (fnScope s_law_small_lots) .none kV_law_small_lots dc_law_small_lots pm_law_small_lots an_law_small_lots cd_law_small_lots ct_law_small_lots), sl_law_small_lots⟩) (c_law_small_lots : PySem.W.codeIn K cd_law_small_lots "_law_small_lots" = true) (k_law_small_lots : PySem.W.keepIn K (.ref f_law_small_lots) = true)
    (a_law_outcomes : PySem.W.nsIn K mainGlobals "_law_outcomes" = some (some (.ref f_law_outcomes))) (l_law_outcomes : K.lookup f_law_outcomes = some ⟨oc_law_outcomes, od_law_outcomes, .func (PySem.W.fnOf "_law_outcomes" "_law_outcomes" (fnArgs s_law_outcomes) (fnBody s_law_outcomes) (fnScope s_law_outcomes) .none kV_law_outcomes dc_law_outcomes pm_law_outcomes an_law_outcomes cd_law_outcomes ct_law_outcomes), sl_law_outcomes⟩) (c_law_outcomes : PySem.W.codeIn K cd_law_outcomes "_law_outcomes" = true) (k_law_outcomes : PySem.W.keepIn K (.ref f_law_outcomes) = true)
    (a_law_told : PySem.W.nsIn K mainGlobals "_law_told" = some (some (.ref f_law_told))) (l_law_told : K.lookup f_law_told = some ⟨oc_law_told, od_law_told, .func (PySem.W.fnOf "_law_told" "_law_told" (fnArgs s_law_told) (fnBody s_law_told) (fnScope s_law_told) .none kV_law_told dc_law_told pm_law_told an_law_told cd_law_told ct_law_told), sl_law_told⟩) (c_law_told : PySem.W.codeIn K cd_law_told "_law_told" = true) (k_law_told : PySem.W.keepIn K (.ref f_law_told) = true)
    (a_law_right : PySem.W.nsIn K mainGlobals "_law_right" = some (some (.ref f_law_right))) (l_law_right : K.lookup f_law_right = some ⟨oc_law_right, od_law_right, .func (PySem.W.fnOf "_law_right" "_law_right" (fnArgs s_law_right) (fnBody s_law_right) (fnScope s_law_right) .none kV_law_right dc_law_right pm_law_right an_law_right cd_law_right ct_law_right), sl_law_right⟩) (c_law_right : PySem.W.codeIn K cd_law_right "_law_right" = true) (k_law_right : PySem.W.keepIn K (.ref f_law_right) = true)
    (a_law : PySem.W.nsIn K mainGlobals "law" = some (some (.ref f_law))) (l_law : K.lookup f_law = some ⟨oc_law, od_law, .func (PySem.W.fnOf "law" "law" (fnArgs s_law) (fnBody s_law) (fnScope s_law) .none kV_law dc_law pm_law an_law cd_law ct_law), sl_law⟩) (c_law : PySem.W.codeIn K cd_law "law" = true) (k_law : PySem.W.keepIn K (.ref f_law) = true)
    (mc_Ratio : PySem.W.nsIn K mainGlobals "Ratio" = some (some (.ref C_Ratio)))
    (pg_Ratio : PySem.W.plainGet K C_Ratio Str.empty = true)
    (hd_Ratio : PySem.W.hasDictIn K C_Ratio = true)
    (po_Ratio : PySem.W.plainOver K C_Ratio = true)
    (sa_Ratio : PySem.W.findIn K (.ref C_Ratio) "__setattr__" = some (some (.builtin "object.__setattr__")))
    (mk_Ratio : PySem.W.makesIn K C_Ratio = true)
    (kc_Ratio : PySem.W.keepIn K (.ref C_Ratio) = true)
    (ha_Ratio : PySem.W.findIn K (.ref C_Ratio) "__class__" = some (some (.builtin "object.__class__")))
    (hn_Ratio : PySem.W.specialIn K (.builtin "object.__class__") "__get__" = some (some (.builtin "getset_descriptor.__get__")))
    (ht_Ratio : PySem.W.takesIn K (.builtin "object.__class__") = some true)
    (hm_Ratio : PySem.W.mroIn K C_Ratio (.type "object") = some true)
    (nnum_Ratio : PySem.W.findIn K (.ref C_Ratio) "num" = some none)
    (nden_Ratio : PySem.W.findIn K (.ref C_Ratio) "den" = some none)
    (mc_Tape : PySem.W.nsIn K mainGlobals "Tape" = some (some (.ref C_Tape)))
    (pg_Tape : PySem.W.plainGet K C_Tape Str.empty = true)
    (hd_Tape : PySem.W.hasDictIn K C_Tape = true)
    (po_Tape : PySem.W.plainOver K C_Tape = true)
    (sa_Tape : PySem.W.findIn K (.ref C_Tape) "__setattr__" = some (some (.builtin "object.__setattr__")))
    (mk_Tape : PySem.W.makesIn K C_Tape = true)
    (kc_Tape : PySem.W.keepIn K (.ref C_Tape) = true)
    (ha_Tape : PySem.W.findIn K (.ref C_Tape) "__class__" = some (some (.builtin "object.__class__")))
    (hn_Tape : PySem.W.specialIn K (.builtin "object.__class__") "__get__" = some (some (.builtin "getset_descriptor.__get__")))
    (ht_Tape : PySem.W.takesIn K (.builtin "object.__class__") = some true)
    (hm_Tape : PySem.W.mroIn K C_Tape (.type "object") = some true)
    (nresults_Tape : PySem.W.findIn K (.ref C_Tape) "results" = some none)
    (ntaken_Tape : PySem.W.findIn K (.ref C_Tape) "taken" = some none)
    (mc_Thinker : PySem.W.nsIn K mainGlobals "Thinker" = some (some (.ref C_Thinker)))
    (pg_Thinker : PySem.W.plainGet K C_Thinker Str.empty = true)
    (hd_Thinker : PySem.W.hasDictIn K C_Thinker = true)
    (po_Thinker : PySem.W.plainOver K C_Thinker = true)
    (sa_Thinker : PySem.W.findIn K (.ref C_Thinker) "__setattr__" = some (some (.builtin "object.__setattr__")))
    (mk_Thinker : PySem.W.makesIn K C_Thinker = true)
    (kc_Thinker : PySem.W.keepIn K (.ref C_Thinker) = true)
    (ha_Thinker : PySem.W.findIn K (.ref C_Thinker) "__class__" = some (some (.builtin "object.__class__")))
    (hn_Thinker : PySem.W.specialIn K (.builtin "object.__class__") "__get__" = some (some (.builtin "getset_descriptor.__get__")))
    (ht_Thinker : PySem.W.takesIn K (.builtin "object.__class__") = some true)
    (hm_Thinker : PySem.W.mroIn K C_Thinker (.type "object") = some true)
    (ntable_Thinker : PySem.W.findIn K (.ref C_Thinker) "table" = some none)
    (nleft_Thinker : PySem.W.findIn K (.ref C_Thinker) "left" = some none)
    (nseen_Thinker : PySem.W.findIn K (.ref C_Thinker) "seen" = some none)
    (ntape_Thinker : PySem.W.findIn K (.ref C_Thinker) "tape" = some none)
    (mc_Brain : PySem.W.nsIn K mainGlobals "Brain" = some (some (.ref C_Brain)))
    (pg_Brain : PySem.W.plainGet K C_Brain Str.empty = true)
    (hd_Brain : PySem.W.hasDictIn K C_Brain = true)
    (po_Brain : PySem.W.plainOver K C_Brain = true)
    (sa_Brain : PySem.W.findIn K (.ref C_Brain) "__setattr__" = some (some (.builtin "object.__setattr__")))
    (mk_Brain : PySem.W.makesIn K C_Brain = true)
    (kc_Brain : PySem.W.keepIn K (.ref C_Brain) = true)
    (ha_Brain : PySem.W.findIn K (.ref C_Brain) "__class__" = some (some (.builtin "object.__class__")))
    (hn_Brain : PySem.W.specialIn K (.builtin "object.__class__") "__get__" = some (some (.builtin "getset_descriptor.__get__")))
    (ht_Brain : PySem.W.takesIn K (.builtin "object.__class__") = some true)
    (hm_Brain : PySem.W.mroIn K C_Brain (.type "object") = some true)
    (nunits_Brain : PySem.W.findIn K (.ref C_Brain) "units" = some none)
    (ncells_Brain : PySem.W.findIn K (.ref C_Brain) "cells" = some none)
    (nblock_Brain : PySem.W.findIn K (.ref C_Brain) "block" = some none)
    (nanswer_Brain : PySem.W.findIn K (.ref C_Brain) "answer" = some none)
    (a_Ratio___init : PySem.W.findIn K (.ref C_Ratio) "__init__" = some (some (.ref f_Ratio___init))) (i_Ratio___init : PySem.W.isFn K (.ref f_Ratio___init) = true) (l_Ratio___init : K.lookup f_Ratio___init = some ⟨oc_Ratio___init, od_Ratio___init, .func (PySem.W.fnOf "__init__" "Ratio.__init__" (fnArgs s_Ratio___init) (fnBody s_Ratio___init) (fnScope s_Ratio___init) (.ref T_Ratio___init) kV_Ratio___init dc_Ratio___init pm_Ratio___init an_Ratio___init cd_Ratio___init ct_Ratio___init), sl_Ratio___init⟩) (c_Ratio___init : PySem.W.codeIn K cd_Ratio___init "Ratio.__init__" = true) (k_Ratio___init : PySem.W.keepIn K (.ref f_Ratio___init) = true)
    (lT_Ratio___init : K.lookup T_Ratio___init = some ⟨oT_Ratio___init, dT_Ratio___init, .seq #[.int 1 t_Ratio___init] nT_Ratio___init, slT_Ratio___init⟩)
    (a_Tape___init : PySem.W.findIn K (.ref C_Tape) "__init__" = some (some (.ref f_Tape___init))) (i_Tape___init : PySem.W.isFn K (.ref f_Tape___init) = true) (l_Tape___init : K.lookup f_Tape___init = some ⟨oc_Tape___init, od_Tape___init, .func (PySem.W.fnOf "__init__" "Tape.__init__" (fnArgs s_Tape___init) (fnBody s_Tape___init) (fnScope s_Tape___init) .none kV_Tape___init dc_Tape___init pm_Tape___init an_Tape___init cd_Tape___init ct_Tape___init), sl_Tape___init⟩) (c_Tape___init : PySem.W.codeIn K cd_Tape___init "Tape.__init__" = true) (k_Tape___init : PySem.W.keepIn K (.ref f_Tape___init) = true)
    (a_Tape_take : PySem.W.findIn K (.ref C_Tape) "take" = some (some (.ref f_Tape_take))) (i_Tape_take : PySem.W.isFn K (.ref f_Tape_take) = true) (l_Tape_take : K.lookup f_Tape_take = some ⟨oc_Tape_take, od_Tape_take, .func (PySem.W.fnOf "take" "Tape.take" (fnArgs s_Tape_take) (fnBody s_Tape_take) (fnScope s_Tape_take) .none kV_Tape_take dc_Tape_take pm_Tape_take an_Tape_take cd_Tape_take ct_Tape_take), sl_Tape_take⟩) (c_Tape_take : PySem.W.codeIn K cd_Tape_take "Tape.take" = true) (k_Tape_take : PySem.W.keepIn K (.ref f_Tape_take) = true)
    (a_Tape_chance : PySem.W.findIn K (.ref C_Tape) "chance" = some (some (.ref f_Tape_chance))) (i_Tape_chance : PySem.W.isFn K (.ref f_Tape_chance) = true) (l_Tape_chance : K.lookup f_Tape_chance = some ⟨oc_Tape_chance, od_Tape_chance, .func (PySem.W.fnOf "chance" "Tape.chance" (fnArgs s_Tape_chance) (fnBody s_Tape_chance) (fnScope s_Tape_chance) .none kV_Tape_chance dc_Tape_chance pm_Tape_chance an_Tape_chance cd_Tape_chance ct_Tape_chance), sl_Tape_chance⟩) (c_Tape_chance : PySem.W.codeIn K cd_Tape_chance "Tape.chance" = true) (k_Tape_chance : PySem.W.keepIn K (.ref f_Tape_chance) = true)
    (a_Tape_following : PySem.W.findIn K (.ref C_Tape) "following" = some (some (.ref f_Tape_following))) (i_Tape_following : PySem.W.isFn K (.ref f_Tape_following) = true) (l_Tape_following : K.lookup f_Tape_following = some ⟨oc_Tape_following, od_Tape_following, .func (PySem.W.fnOf "following" "Tape.following" (fnArgs s_Tape_following) (fnBody s_Tape_following) (fnScope s_Tape_following) .none kV_Tape_following dc_Tape_following pm_Tape_following an_Tape_following cd_Tape_following ct_Tape_following), sl_Tape_following⟩) (c_Tape_following : PySem.W.codeIn K cd_Tape_following "Tape.following" = true) (k_Tape_following : PySem.W.keepIn K (.ref f_Tape_following) = true)
    (a_Brain___init : PySem.W.findIn K (.ref C_Brain) "__init__" = some (some (.ref f_Brain___init))) (i_Brain___init : PySem.W.isFn K (.ref f_Brain___init) = true) (l_Brain___init : K.lookup f_Brain___init = some ⟨oc_Brain___init, od_Brain___init, .func (PySem.W.fnOf "__init__" "Brain.__init__" (fnArgs s_Brain___init) (fnBody s_Brain___init) (fnScope s_Brain___init) .none kV_Brain___init dc_Brain___init pm_Brain___init an_Brain___init cd_Brain___init ct_Brain___init), sl_Brain___init⟩) (c_Brain___init : PySem.W.codeIn K cd_Brain___init "Brain.__init__" = true) (k_Brain___init : PySem.W.keepIn K (.ref f_Brain___init) = true)
    (a_Thinker___init : PySem.W.findIn K (.ref C_Thinker) "__init__" = some (some (.ref f_Thinker___init))) (i_Thinker___init : PySem.W.isFn K (.ref f_Thinker___init) = true) (l_Thinker___init : K.lookup f_Thinker___init = some ⟨oc_Thinker___init, od_Thinker___init, .func (PySem.W.fnOf "__init__" "Thinker.__init__" (fnArgs s_Thinker___init) (fnBody s_Thinker___init) (fnScope s_Thinker___init) .none kV_Thinker___init dc_Thinker___init pm_Thinker___init an_Thinker___init cd_Thinker___init ct_Thinker___init), sl_Thinker___init⟩) (c_Thinker___init : PySem.W.codeIn K cd_Thinker___init "Thinker.__init__" = true) (k_Thinker___init : PySem.W.keepIn K (.ref f_Thinker___init) = true)
    (a_Thinker_value : PySem.W.findIn K (.ref C_Thinker) "value" = some (some (.ref f_Thinker_value))) (i_Thinker_value : PySem.W.isFn K (.ref f_Thinker_value) = true) (l_Thinker_value : K.lookup f_Thinker_value = some ⟨oc_Thinker_value, od_Thinker_value, .func (PySem.W.fnOf "value" "Thinker.value" (fnArgs s_Thinker_value) (fnBody s_Thinker_value) (fnScope s_Thinker_value) .none kV_Thinker_value dc_Thinker_value pm_Thinker_value an_Thinker_value cd_Thinker_value ct_Thinker_value), sl_Thinker_value⟩) (c_Thinker_value : PySem.W.codeIn K cd_Thinker_value "Thinker.value" = true) (k_Thinker_value : PySem.W.keepIn K (.ref f_Thinker_value) = true)
    (a_Thinker_unit : PySem.W.findIn K (.ref C_Thinker) "unit" = some (some (.ref f_Thinker_unit))) (i_Thinker_unit : PySem.W.isFn K (.ref f_Thinker_unit) = true) (l_Thinker_unit : K.lookup f_Thinker_unit = some ⟨oc_Thinker_unit, od_Thinker_unit, .func (PySem.W.fnOf "unit" "Thinker.unit" (fnArgs s_Thinker_unit) (fnBody s_Thinker_unit) (fnScope s_Thinker_unit) .none kV_Thinker_unit dc_Thinker_unit pm_Thinker_unit an_Thinker_unit cd_Thinker_unit ct_Thinker_unit), sl_Thinker_unit⟩) (c_Thinker_unit : PySem.W.codeIn K cd_Thinker_unit "Thinker.unit" = true) (k_Thinker_unit : PySem.W.keepIn K (.ref f_Thinker_unit) = true)
    (a_Thinker_run : PySem.W.findIn K (.ref C_Thinker) "run" = some (some (.ref f_Thinker_run))) (i_Thinker_run : PySem.W.isFn K (.ref f_Thinker_run) = true) (l_Thinker_run : K.lookup f_Thinker_run = some ⟨oc_Thinker_run, od_Thinker_run, .func (PySem.W.fnOf "run" "Thinker.run" (fnArgs s_Thinker_run) (fnBody s_Thinker_run) (fnScope s_Thinker_run) .none kV_Thinker_run dc_Thinker_run pm_Thinker_run an_Thinker_run cd_Thinker_run ct_Thinker_run), sl_Thinker_run⟩) (c_Thinker_run : PySem.W.codeIn K cd_Thinker_run "Thinker.run" = true) (k_Thinker_run : PySem.W.keepIn K (.ref f_Thinker_run) = true)
    (a_Thinker_step : PySem.W.findIn K (.ref C_Thinker) "step" = some (some (.ref f_Thinker_step))) (i_Thinker_step : PySem.W.isFn K (.ref f_Thinker_step) = true) (l_Thinker_step : K.lookup f_Thinker_step = some ⟨oc_Thinker_step, od_Thinker_step, .func (PySem.W.fnOf "step" "Thinker.step" (fnArgs s_Thinker_step) (fnBody s_Thinker_step) (fnScope s_Thinker_step) .none kV_Thinker_step dc_Thinker_step pm_Thinker_step an_Thinker_step cd_Thinker_step ct_Thinker_step), sl_Thinker_step⟩) (c_Thinker_step : PySem.W.codeIn K cd_Thinker_step "Thinker.step" = true) (k_Thinker_step : PySem.W.keepIn K (.ref f_Thinker_step) = true)
    (a_Thinker_loop : PySem.W.findIn K (.ref C_Thinker) "loop" = some (some (.ref f_Thinker_loop))) (i_Thinker_loop : PySem.W.isFn K (.ref f_Thinker_loop) = true) (l_Thinker_loop : K.lookup f_Thinker_loop = some ⟨oc_Thinker_loop, od_Thinker_loop, .func (PySem.W.fnOf "loop" "Thinker.loop" (fnArgs s_Thinker_loop) (fnBody s_Thinker_loop) (fnScope s_Thinker_loop) .none kV_Thinker_loop dc_Thinker_loop pm_Thinker_loop an_Thinker_loop cd_Thinker_loop ct_Thinker_loop), sl_Thinker_loop⟩) (c_Thinker_loop : PySem.W.codeIn K cd_Thinker_loop "Thinker.loop" = true) (k_Thinker_loop : PySem.W.keepIn K (.ref f_Thinker_loop) = true)
    (mc_GameError : PySem.W.nsIn K mainGlobals "GameError" = some (some (.ref C_GameError)))
    (mc_TooLarge : PySem.W.nsIn K mainGlobals "TooLarge" = some (some (.ref C_TooLarge)))
    (opq : PySem.W.nsIn K PySem.cStatics "thirdparty.any" = some none)
    (zsup : PySem.W.nsIn K mainGlobals "super" = some none)
    (ptop : (l.prog.main.scope.names.lookup ("super" : Str)).isSome = false)
    (xsp : PySem.W.specialIn K (.builtin "object.__class__") "__get__" = some (some (.builtin "getset_descriptor.__get__")))
    (xtk : PySem.W.takesIn K (.builtin "object.__class__") = some true)
    (xL_TooLarge : K.lookup C_TooLarge = some (excClassObj nm_TooLarge q_TooLarge C_TooLarge N_TooLarge bs_TooLarge [.ref C_GameError, .type "ValueError", .type "Exception", .type "BaseException", .type "object"] true sn_TooLarge sub_TooLarge ab_TooLarge col_TooLarge dd_TooLarge m0_TooLarge m1_TooLarge m2_TooLarge m3_TooLarge m5_TooLarge "ValueError.__new__"))
    (al_TooLarge : PySem.W.ks_superIn K C_TooLarge C_TooLarge "__init__" = some (some (.builtin "ValueError.__init__")))
    (ve_TooLarge : PySem.W.subIn K (.ref C_TooLarge) (.type "ValueError") = some true)
    (sa_TooLarge : PySem.W.findIn K (.ref C_TooLarge) "__setattr__" = some (some (.builtin "object.__setattr__")))
    (ga_TooLarge : PySem.W.findIn K (.ref C_TooLarge) "__getattribute__" = some (some (.builtin "BaseException.__getattribute__")))
    (gg_TooLarge : PySem.W.findIn K (.ref C_TooLarge) "__getattr__" = some none)
    (nb_TooLarge : PySem.W.findIn K (.ref C_TooLarge) "what" = some none)
    (iC_TooLarge : PySem.W.findIn K (.ref C_TooLarge) "__init__" = some (some (.ref f_TooLarge___init)))
    (tf_TooLarge : PySem.W.typeIn K (.ref f_TooLarge___init) = some (.type "function"))
    (kC_TooLarge : PySem.W.keepIn K (.ref C_TooLarge) = true)
    (eC_TooLarge : PySem.W.subIn K (.ref C_TooLarge) (.type "BaseException") = some true)
    (tC_TooLarge : PySem.W.typeIn K (.ref C_TooLarge) = some (.type "type"))
    (hC_TooLarge : PySem.W.hasDictIn K C_TooLarge = true)
    (mo_TooLarge : PySem.W.mroIn K C_TooLarge (.ref C_TooLarge) = some true)
    (ma_TooLarge : PySem.W.mroIn K C_TooLarge (.type "object") = some true)
    (ca_TooLarge : PySem.W.findIn K (.ref C_TooLarge) "__class__" = some (some (.builtin "object.__class__")))
    (ss_TooLarge : PySem.W.subIn K (.ref C_TooLarge) (.ref C_TooLarge) = some true)
    (lf_TooLarge : K.lookup f_TooLarge___init = some ⟨oc_TooLarge___init, od_TooLarge___init, .func (PySem.W.fnX "__init__" "TooLarge.__init__" (fnArgs s_TooLarge___init) (fnBody s_TooLarge___init) (fnScope s_TooLarge___init) [("__class__", cc_TooLarge___init)] .none .none dc_TooLarge___init pm_TooLarge___init an_TooLarge___init (.ref cda_TooLarge___init) ct_TooLarge___init), sl_TooLarge___init⟩)
    (cf_TooLarge : PySem.W.codeIn K (.ref cda_TooLarge___init) "TooLarge.__init__" = true)
    (lc_TooLarge : K.lookup cc_TooLarge___init = some ⟨cl_TooLarge___init, cld_TooLarge___init, .cell (some (.ref C_TooLarge)), csl_TooLarge___init⟩)
    (ld_TooLarge : K.lookup cda_TooLarge___init = some ⟨ccl_TooLarge___init, cdd_TooLarge___init, .fields vs_TooLarge___init, ccs_TooLarge___init⟩)
    (vf_TooLarge : vs_TooLarge___init[2]? = some (.str file_TooLarge___init tf_TooLarge___init))
    (fe_TooLarge : ((l.prog.main.file : Str) == file_TooLarge___init) = true)
    (hkit1 : PySem.W.kitOne K (.ref C_TooLarge) (.ref C_GameError) = some true)
    (z_MOST_OUTCOMES : PySem.W.nsIn K mainGlobals "MOST_OUTCOMES" = some (some (.int 200 t_MOST_OUTCOMES)))
    (z_GREATEST : PySem.W.nsIn K mainGlobals "GREATEST" = some (some (.int 65535 t_GREATEST)))
    (z_EVENTS : PySem.W.nsIn K mainGlobals "EVENTS" = some (some (.ref T_EVENTS)))
    (lT_EVENTS : K.lookup T_EVENTS = some ⟨.type "tuple", none, .seq #[.str "round" t_EVENTS0, .str "told" t_EVENTS1, .str "move" t_EVENTS2, .str "did" t_EVENTS3] nn_EVENTS, sl_EVENTS⟩)
    (z_gcd : PySem.W.nsIn K mainGlobals "gcd" = some (some (.builtin "math.gcd")))
    (z_abs : PySem.W.nsIn K mainGlobals "abs" = some none)
    (z_bool : PySem.W.nsIn K mainGlobals "bool" = some none)
    (z_int : PySem.W.nsIn K mainGlobals "int" = some none)
    (z_isinstance : PySem.W.nsIn K mainGlobals "isinstance" = some none)
    (z_len : PySem.W.nsIn K mainGlobals "len" = some none)
    (z_list : PySem.W.nsIn K mainGlobals "list" = some none)
    (z_max : PySem.W.nsIn K mainGlobals "max" = some none)
    (z_min : PySem.W.nsIn K mainGlobals "min" = some none)
    (z_range : PySem.W.nsIn K mainGlobals "range" = some none)
    (z_str : PySem.W.nsIn K mainGlobals "str" = some none)
    (z_tuple : PySem.W.nsIn K mainGlobals "tuple" = some none)
    (z_zip : PySem.W.nsIn K mainGlobals "zip" = some none)
    : ∃ fd : FuncData, (∀ (s : Shared) (v : Value), BindsTo s fd ⟨[v], []⟩ [("script", v)]) ∧ ∀ base : Heap, K.In base → base.Ns mainGlobals mg → FnOk l.prog w K mg base C8.CX0 46 fa fd ["script"] (sp_law K) := by
  have e := hfa.symm.trans (PySem.W.mg_of X G a_law)
  cases e
  have T : Txt K mg C_Ratio C_Tape C_Thinker C_Brain C_GameError C_TooLarge T_EVENTS := ⟨PySem.W.mg_none_of X G z_abs, PySem.W.mg_none_of X G z_bool, PySem.W.mg_none_of X G z_int, PySem.W.mg_none_of X G z_isinstance, PySem.W.mg_none_of X G z_len, PySem.W.mg_none_of X G z_list, PySem.W.mg_none_of X G z_max, PySem.W.mg_none_of X G z_min, PySem.W.mg_none_of X G z_range, PySem.W.mg_none_of X G z_str, PySem.W.mg_none_of X G z_tuple, PySem.W.mg_none_of X G z_zip, PySem.W.mg_of X G z_gcd, ⟨pg_Ratio, hd_Ratio, po_Ratio, sa_Ratio⟩, PySem.W.mg_of X G mc_Ratio, ⟨⟨pg_Ratio, hd_Ratio, po_Ratio, sa_Ratio⟩, ha_Ratio, hn_Ratio, ht_Ratio, hm_Ratio, kitSelf⟩, nnum_Ratio, nden_Ratio, ⟨pg_Tape, hd_Tape, po_Tape, sa_Tape⟩, PySem.W.mg_of X G mc_Tape, ⟨⟨pg_Tape, hd_Tape, po_Tape, sa_Tape⟩, ha_Tape, hn_Tape, ht_Tape, hm_Tape, kitSelf⟩, nresults_Tape, ntaken_Tape, ⟨pg_Thinker, hd_Thinker, po_Thinker, sa_Thinker⟩, PySem.W.mg_of X G mc_Thinker, ⟨⟨pg_Thinker, hd_Thinker, po_Thinker, sa_Thinker⟩, ha_Thinker, hn_Thinker, ht_Thinker, hm_Thinker, kitSelf⟩, ntable_Thinker, nleft_Thinker, nseen_Thinker, ntape_Thinker, ⟨pg_Brain, hd_Brain, po_Brain, sa_Brain⟩, PySem.W.mg_of X G mc_Brain, ⟨⟨pg_Brain, hd_Brain, po_Brain, sa_Brain⟩, ha_Brain, hn_Brain, ht_Brain, hm_Brain, kitSelf⟩, nunits_Brain, ncells_Brain, nblock_Brain, nanswer_Brain, ⟨_, PySem.W.mg_of X G z_MOST_OUTCOMES, ⟨_, rfl⟩⟩, ⟨_, PySem.W.mg_of X G z_GREATEST, ⟨_, rfl⟩⟩, ⟨_, PySem.W.mg_of X G z_EVENTS, rfl⟩, fun H => .inr ⟨_, _, _, lT_EVENTS, rfl, rfl, by show 4 ≤ sizeLine; decide, .cons ⟨_, rfl⟩ (.cons ⟨_, rfl⟩ (.cons ⟨_, rfl⟩ (.cons ⟨_, rfl⟩ (.nil))))⟩, ⟨_, lT_EVENTS, rfl, rfl⟩, PySem.W.mg_of X G mc_GameError, PySem.W.mg_of X G mc_TooLarge, ⟨ga_TooLarge, gg_TooLarge, eC_TooLarge, hC_TooLarge, ca_TooLarge, xsp, xtk, ma_TooLarge⟩, ⟨ga_TooLarge, gg_TooLarge, eC_TooLarge, hC_TooLarge⟩, nb_TooLarge, PySem.W.exm_ref eC_TooLarge hC_TooLarge tC_TooLarge ss_TooLarge, hkit1, True.intro⟩
  have X_TooLarge : SupX_TooLarge.Txt l.prog K mg "TooLarge" C_TooLarge f_TooLarge___init := { gC := PySem.W.mg_of X G mc_TooLarge, cls := ⟨_, _, _, _, _, _, _, _, _, _, _, _, _, _, _, xL_TooLarge, rfl⟩, along := al_TooLarge, veC := ve_TooLarge, sa := sa_TooLarge, ga := ga_TooLarge, gg := gg_TooLarge, noN := nb_TooLarge, iC := iC_TooLarge, tC := tf_TooLarge, kC := kC_TooLarge, exC := eC_TooLarge, tyC := tC_TooLarge, hdC := hC_TooLarge, opq := opq, noS := PySem.W.mg_none_of X G zsup, mroC := mo_TooLarge, top := ptop, fn := ⟨_, _, _, _, _, _, _, _, _, _, _, _, _, _, _, _, _, _, lf_TooLarge, cf_TooLarge, lc_TooLarge, ld_TooLarge, vf_TooLarge, fe_TooLarge⟩ }
  have F_Ratio___init : C8.Fun K "__init__" "Ratio.__init__" s_Ratio___init _ _ := ⟨⟨_, _, _, _, _, _, _, _, _, _, rfl, l_Ratio___init, c_Ratio___init⟩⟩
  have M_Ratio : Mk K C_Ratio f_Ratio___init := ⟨mk_Ratio, a_Ratio___init, i_Ratio___init, kc_Ratio⟩
  have FD_Ratio___init : FunD K "__init__" "Ratio.__init__" (fnArgs s_Ratio___init) (fnBody s_Ratio___init) (fnScope s_Ratio___init) [.int 1] [] f_Ratio___init _ := ⟨⟨_, _, _, _, _, _, _, _, _, _, rfl, l_Ratio___init, c_Ratio___init, .inr ⟨by simp, _, _, [_], _, rfl, lT_Ratio___init, rfl, .cons ⟨_, rfl⟩ .nil⟩, .inl rfl⟩, k_Ratio___init⟩
  obtain ⟨ds2_Ratio___init, v2_Ratio___init, b2_Ratio___init⟩ := FD_Ratio___init.binds1 (ps := ["self", "num", "den"]) 3 1 (by simp) rfl (fun _ _ _ _ _ _ _ us its hu hi => match us, hu, its, hi with | [_, _, _], _, [_], _ => ⟨_, rfl, rfl⟩)
  obtain ⟨ds1_Ratio___init, v1_Ratio___init, b1_Ratio___init⟩ := FD_Ratio___init.binds1 (ps := ["self", "num", "den"]) 2 0 (by simp) rfl (fun _ _ _ _ _ _ _ us its hu hi => match us, hu, its, hi with | [_, _], _, [_], _ => ⟨_, rfl, rfl⟩)
  have F_Tape___init : C8.Fun K "__init__" "Tape.__init__" s_Tape___init _ _ := ⟨⟨_, _, _, _, _, _, _, _, _, _, rfl, l_Tape___init, c_Tape___init⟩⟩
  have M_Tape : Mk K C_Tape f_Tape___init := ⟨mk_Tape, a_Tape___init, i_Tape___init, kc_Tape⟩
  have b_Tape___init : Binds K _ ["self", "results"] [] := C8.Fun.binds F_Tape___init rfl fun _ _ _ _ _ _ us hl => match us, hl with | [_, _], _ => rfl
  have F_Tape_take : C8.Fun K "take" "Tape.take" s_Tape_take _ _ := ⟨⟨_, _, _, _, _, _, _, _, _, _, rfl, l_Tape_take, c_Tape_take⟩⟩
  have M_Tape_take : Meth K C_Tape "take" f_Tape_take := ⟨a_Tape_take, i_Tape_take, k_Tape_take⟩
  have b_Tape_take : Binds K _ ["self", "count"] [] := C8.Fun.binds F_Tape_take rfl fun _ _ _ _ _ _ us hl => match us, hl with | [_, _], _ => rfl
  have F_Tape_chance : C8.Fun K "chance" "Tape.chance" s_Tape_chance _ _ := ⟨⟨_, _, _, _, _, _, _, _, _, _, rfl, l_Tape_chance, c_Tape_chance⟩⟩
  have M_Tape_chance : Meth K C_Tape "chance" f_Tape_chance := ⟨a_Tape_chance, i_Tape_chance, k_Tape_chance⟩
  have b_Tape_chance : Binds K _ ["self"] [] := C8.Fun.binds F_Tape_chance rfl fun _ _ _ _ _ _ us hl => match us, hl with | [_], _ => rfl
  have F_Tape_following : C8.Fun K "following" "Tape.following" s_Tape_following _ _ := ⟨⟨_, _, _, _, _, _, _, _, _, _, rfl, l_Tape_following, c_Tape_following⟩⟩
  have M_Tape_following : Meth K C_Tape "following" f_Tape_following := ⟨a_Tape_following, i_Tape_following, k_Tape_following⟩
  have b_Tape_following : Binds K _ ["self"] [] := C8.Fun.binds F_Tape_following rfl fun _ _ _ _ _ _ us hl => match us, hl with | [_], _ => rfl
  have F_Brain___init : C8.Fun K "__init__" "Brain.__init__" s_Brain___init _ _ := ⟨⟨_, _, _, _, _, _, _, _, _, _, rfl, l_Brain___init, c_Brain___init⟩⟩
  have M_Brain : Mk K C_Brain f_Brain___init := ⟨mk_Brain, a_Brain___init, i_Brain___init, kc_Brain⟩
  have b_Brain___init : Binds K _ ["self", "units", "cells", "block", "answer"] [] := C8.Fun.binds F_Brain___init rfl fun _ _ _ _ _ _ us hl => match us, hl with | [_, _, _, _, _], _ => rfl
  have F_Thinker___init : C8.Fun K "__init__" "Thinker.__init__" s_Thinker___init _ _ := ⟨⟨_, _, _, _, _, _, _, _, _, _, rfl, l_Thinker___init, c_Thinker___init⟩⟩
  have M_Thinker : Mk K C_Thinker f_Thinker___init := ⟨mk_Thinker, a_Thinker___init, i_Thinker___init, kc_Thinker⟩
  have b_Thinker___init : Binds K _ ["self", "brain", "cells", "seen", "tape"] [] := C8.Fun.binds F_Thinker___init rfl fun _ _ _ _ _ _ us hl => match us, hl with | [_, _, _, _, _], _ => rfl
  have F_Thinker_value : C8.Fun K "value" "Thinker.value" s_Thinker_value _ _ := ⟨⟨_, _, _, _, _, _, _, _, _, _, rfl, l_Thinker_value, c_Thinker_value⟩⟩
  have M_Thinker_value : Meth K C_Thinker "value" f_Thinker_value := ⟨a_Thinker_value, i_Thinker_value, k_Thinker_value⟩
  have b_Thinker_value : Binds K _ ["self", "expression"] [] := C8.Fun.binds F_Thinker_value rfl fun _ _ _ _ _ _ us hl => match us, hl with | [_, _], _ => rfl
  have F_Thinker_unit : C8.Fun K "unit" "Thinker.unit" s_Thinker_unit _ _ := ⟨⟨_, _, _, _, _, _, _, _, _, _, rfl, l_Thinker_unit, c_Thinker_unit⟩⟩
  have M_Thinker_unit : Meth K C_Thinker "unit" f_Thinker_unit := ⟨a_Thinker_unit, i_Thinker_unit, k_Thinker_unit⟩
  have b_Thinker_unit : Binds K _ ["self"] [] := C8.Fun.binds F_Thinker_unit rfl fun _ _ _ _ _ _ us hl => match us, hl with | [_], _ => rfl
  have F_Thinker_run : C8.Fun K "run" "Thinker.run" s_Thinker_run _ _ := ⟨⟨_, _, _, _, _, _, _, _, _, _, rfl, l_Thinker_run, c_Thinker_run⟩⟩
  have M_Thinker_run : Meth K C_Thinker "run" f_Thinker_run := ⟨a_Thinker_run, i_Thinker_run, k_Thinker_run⟩
  have b_Thinker_run : Binds K _ ["self", "block"] [] := C8.Fun.binds F_Thinker_run rfl fun _ _ _ _ _ _ us hl => match us, hl with | [_, _], _ => rfl
  have F_Thinker_step : C8.Fun K "step" "Thinker.step" s_Thinker_step _ _ := ⟨⟨_, _, _, _, _, _, _, _, _, _, rfl, l_Thinker_step, c_Thinker_step⟩⟩
  have M_Thinker_step : Meth K C_Thinker "step" f_Thinker_step := ⟨a_Thinker_step, i_Thinker_step, k_Thinker_step⟩
  have b_Thinker_step : Binds K _ ["self", "statement"] [] := C8.Fun.binds F_Thinker_step rfl fun _ _ _ _ _ _ us hl => match us, hl with | [_, _], _ => rfl
  have F_Thinker_loop : C8.Fun K "loop" "Thinker.loop" s_Thinker_loop _ _ := ⟨⟨_, _, _, _, _, _, _, _, _, _, rfl, l_Thinker_loop, c_Thinker_loop⟩⟩
  have M_Thinker_loop : Meth K C_Thinker "loop" f_Thinker_loop := ⟨a_Thinker_loop, i_Thinker_loop, k_Thinker_loop⟩
  have b_Thinker_loop : Binds K _ ["self", "test", "block"] [] := C8.Fun.binds F_Thinker_loop rfl fun _ _ _ _ _ _ us hl => match us, hl with | [_, _, _], _ => rfl
  have D_view_numbers : C8.Def K mg "view_numbers" s_view_numbers _ _ := ⟨⟨⟨_, _, _, _, _, _, _, _, _, _, rfl, l_view_numbers, c_view_numbers⟩⟩, PySem.W.mg_of X G a_view_numbers, k_view_numbers⟩
  have b_view_numbers : Binds K _ ["view"] [] := C8.Fun.binds D_view_numbers.fn rfl fun _ _ _ _ _ _ us hl => match us, hl with | [_], _ => rfl
  have D_think : C8.Def K mg "think" s_think _ _ := ⟨⟨⟨_, _, _, _, _, _, _, _, _, _, rfl, l_think, c_think⟩⟩, PySem.W.mg_of X G a_think, k_think⟩
  have b_think : Binds K _ ["brain", "cells", "view", "count", "tape"] [] := C8.Fun.binds D_think.fn rfl fun _ _ _ _ _ _ us hl => match us, hl with | [_, _, _, _, _], _ => rfl
  have D_combine : C8.Def K mg "combine" s_combine _ _ := ⟨⟨⟨_, _, _, _, _, _, _, _, _, _, rfl, l_combine, c_combine⟩⟩, PySem.W.mg_of X G a_combine, k_combine⟩
  have b_combine : Binds K _ ["sign", "left", "right"] [] := C8.Fun.binds D_combine.fn rfl fun _ _ _ _ _ _ us hl => match us, hl with | [_, _, _], _ => rfl
  have D_value_of : C8.Def K mg "value_of" s_value_of _ _ := ⟨⟨⟨_, _, _, _, _, _, _, _, _, _, rfl, l_value_of, c_value_of⟩⟩, PySem.W.mg_of X G a_value_of, k_value_of⟩
  have FD_value_of : FunD K "value_of" "value_of" (fnArgs s_value_of) (fnBody s_value_of) (fnScope s_value_of) [.ref E_value_of] [] f_value_of _ := ⟨⟨_, _, _, _, _, _, _, _, _, _, rfl, l_value_of, c_value_of, .inr ⟨by simp, _, _, [_], _, rfl, lT_value_of, rfl, .cons rfl .nil⟩, .inl rfl⟩, k_value_of⟩
  obtain ⟨ds2_value_of, v2_value_of, b2_value_of⟩ := FD_value_of.binds1 (ps := ["expression", "table", "on", "seen"]) 4 1 (by simp) rfl (fun _ _ _ _ _ _ _ us its hu hi => match us, hu, its, hi with | [_, _, _, _], _, [_], _ => ⟨_, rfl, rfl⟩)
  obtain ⟨ds1_value_of, v1_value_of, b1_value_of⟩ := FD_value_of.binds1 (ps := ["expression", "table", "on", "seen"]) 3 0 (by simp) rfl (fun _ _ _ _ _ _ _ us its hu hi => match us, hu, its, hi with | [_, _, _], _, [_], _ => ⟨_, rfl, rfl⟩)
  have D_outcomes : C8.Def K mg "outcomes" s_outcomes _ _ := ⟨⟨⟨_, _, _, _, _, _, _, _, _, _, rfl, l_outcomes, c_outcomes⟩⟩, PySem.W.mg_of X G a_outcomes, k_outcomes⟩
  have b_outcomes : Binds K _ ["brain", "cells", "view", "count"] [] := C8.Fun.binds D_outcomes.fn rfl fun _ _ _ _ _ _ us hl => match us, hl with | [_, _, _, _], _ => rfl
  have D_law_pool : C8.Def K mg "_law_pool" s_law_pool _ _ := ⟨⟨⟨_, _, _, _, _, _, _, _, _, _, rfl, l_law_pool, c_law_pool⟩⟩, PySem.W.mg_of X G a_law_pool, k_law_pool⟩
  have b_law_pool : Binds K _ ["script", "budget"] [] := C8.Fun.binds D_law_pool.fn rfl fun _ _ _ _ _ _ us hl => match us, hl with | [_, _], _ => rfl
  have D_law_draw : C8.Def K mg "_law_draw" s_law_draw _ _ := ⟨⟨⟨_, _, _, _, _, _, _, _, _, _, rfl, l_law_draw, c_law_draw⟩⟩, PySem.W.mg_of X G a_law_draw, k_law_draw⟩
  have b_law_draw : Binds K _ ["pool", "size"] [] := C8.Fun.binds D_law_draw.fn rfl fun _ _ _ _ _ _ us hl => match us, hl with | [_, _], _ => rfl
  have D_law_spend : C8.Def K mg "_law_spend" s_law_spend _ _ := ⟨⟨⟨_, _, _, _, _, _, _, _, _, _, rfl, l_law_spend, c_law_spend⟩⟩, PySem.W.mg_of X G a_law_spend, k_law_spend⟩
  have b_law_spend : Binds K _ ["pool"] [] := C8.Fun.binds D_law_spend.fn rfl fun _ _ _ _ _ _ us hl => match us, hl with | [_], _ => rfl
  have D_law_few : C8.Def K mg "_law_few" s_law_few _ _ := ⟨⟨⟨_, _, _, _, _, _, _, _, _, _, rfl, l_law_few, c_law_few⟩⟩, PySem.W.mg_of X G a_law_few, k_law_few⟩
  have b_law_few : Binds K _ ["pool", "most"] [] := C8.Fun.binds D_law_few.fn rfl fun _ _ _ _ _ _ us hl => match us, hl with | [_, _], _ => rfl
  have D_law_number : C8.Def K mg "_law_number" s_law_number _ _ := ⟨⟨⟨_, _, _, _, _, _, _, _, _, _, rfl, l_law_number, c_law_number⟩⟩, PySem.W.mg_of X G a_law_number, k_law_number⟩
  have b_law_number : Binds K _ ["pool"] [] := C8.Fun.binds D_law_number.fn rfl fun _ _ _ _ _ _ us hl => match us, hl with | [_], _ => rfl
  have D_law_same : C8.Def K mg "_law_same" s_law_same _ _ := ⟨⟨⟨_, _, _, _, _, _, _, _, _, _, rfl, l_law_same, c_law_same⟩⟩, PySem.W.mg_of X G a_law_same, k_law_same⟩
  have b_law_same : Binds K _ ["actual", "due"] [] := C8.Fun.binds D_law_same.fn rfl fun _ _ _ _ _ _ us hl => match us, hl with | [_, _], _ => rfl
  have D_law_keys : C8.Def K mg "_law_keys" s_law_keys _ _ := ⟨⟨⟨_, _, _, _, _, _, _, _, _, _, rfl, l_law_keys, c_law_keys⟩⟩, PySem.W.mg_of X G a_law_keys, k_law_keys⟩
  have b_law_keys : Binds K _ [] [] := C8.Fun.binds D_law_keys.fn rfl fun _ _ _ _ _ _ us hl => match us, hl with | [], _ => rfl
  have D_law_name : C8.Def K mg "_law_name" s_law_name _ _ := ⟨⟨⟨_, _, _, _, _, _, _, _, _, _, rfl, l_law_name, c_law_name⟩⟩, PySem.W.mg_of X G a_law_name, k_law_name⟩
  have b_law_name : Binds K _ ["pool", "taken"] [] := C8.Fun.binds D_law_name.fn rfl fun _ _ _ _ _ _ us hl => match us, hl with | [_, _], _ => rfl
  have D_law_names : C8.Def K mg "_law_names" s_law_names _ _ := ⟨⟨⟨_, _, _, _, _, _, _, _, _, _, rfl, l_law_names, c_law_names⟩⟩, PySem.W.mg_of X G a_law_names, k_law_names⟩
  have b_law_names : Binds K _ ["pool", "most"] [] := C8.Fun.binds D_law_names.fn rfl fun _ _ _ _ _ _ us hl => match us, hl with | [_, _], _ => rfl
  have D_law_expression : C8.Def K mg "_law_expression" s_law_expression _ _ := ⟨⟨⟨_, _, _, _, _, _, _, _, _, _, rfl, l_law_expression, c_law_expression⟩⟩, PySem.W.mg_of X G a_law_expression, k_law_expression⟩
  have b_law_expression : Binds K _ ["pool", "names", "deep"] [] := C8.Fun.binds D_law_expression.fn rfl fun _ _ _ _ _ _ us hl => match us, hl with | [_, _, _], _ => rfl
  have D_law_combine : C8.Def K mg "_law_combine" s_law_combine _ _ := ⟨⟨⟨_, _, _, _, _, _, _, _, _, _, rfl, l_law_combine, c_law_combine⟩⟩, PySem.W.mg_of X G a_law_combine, k_law_combine⟩
  have b_law_combine : Binds K _ ["sign", "a", "b"] [] := C8.Fun.binds D_law_combine.fn rfl fun _ _ _ _ _ _ us hl => match us, hl with | [_, _, _], _ => rfl
  have D_law_value : C8.Def K mg "_law_value" s_law_value _ _ := ⟨⟨⟨_, _, _, _, _, _, _, _, _, _, rfl, l_law_value, c_law_value⟩⟩, PySem.W.mg_of X G a_law_value, k_law_value⟩
  have b_law_value : Binds K _ ["due", "table", "on", "seen"] [] := C8.Fun.binds D_law_value.fn rfl fun _ _ _ _ _ _ us hl => match us, hl with | [_, _, _, _], _ => rfl
  have D_law_thoughts : C8.Def K mg "_law_thoughts" s_law_thoughts _ _ := ⟨⟨⟨_, _, _, _, _, _, _, _, _, _, rfl, l_law_thoughts, c_law_thoughts⟩⟩, PySem.W.mg_of X G a_law_thoughts, k_law_thoughts⟩
  have b_law_thoughts : Binds K _ ["pool", "names", "deep", "loops"] [] := C8.Fun.binds D_law_thoughts.fn rfl fun _ _ _ _ _ _ us hl => match us, hl with | [_, _, _, _], _ => rfl
  have D_law_thought : C8.Def K mg "_law_thought" s_law_thought _ _ := ⟨⟨⟨_, _, _, _, _, _, _, _, _, _, rfl, l_law_thought, c_law_thought⟩⟩, PySem.W.mg_of X G a_law_thought, k_law_thought⟩
  have b_law_thought : Binds K _ ["pool", "names", "deep", "loops"] [] := C8.Fun.binds D_law_thought.fn rfl fun _ _ _ _ _ _ us hl => match us, hl with | [_, _, _, _], _ => rfl
  have D_law_brain : C8.Def K mg "_law_brain" s_law_brain _ _ := ⟨⟨⟨_, _, _, _, _, _, _, _, _, _, rfl, l_law_brain, c_law_brain⟩⟩, PySem.W.mg_of X G a_law_brain, k_law_brain⟩
  have b_law_brain : Binds K _ ["pool", "units", "loops"] [] := C8.Fun.binds D_law_brain.fn rfl fun _ _ _ _ _ _ us hl => match us, hl with | [_, _, _], _ => rfl
  have D_law_seen : C8.Def K mg "_law_seen" s_law_seen _ _ := ⟨⟨⟨_, _, _, _, _, _, _, _, _, _, rfl, l_law_seen, c_law_seen⟩⟩, PySem.W.mg_of X G a_law_seen, k_law_seen⟩
  have b_law_seen : Binds K _ ["view"] [] := C8.Fun.binds D_law_seen.fn rfl fun _ _ _ _ _ _ us hl => match us, hl with | [_], _ => rfl
  have D_law_fall : C8.Def K mg "_law_fall" s_law_fall _ _ := ⟨⟨⟨_, _, _, _, _, _, _, _, _, _, rfl, l_law_fall, c_law_fall⟩⟩, PySem.W.mg_of X G a_law_fall, k_law_fall⟩
  have b_law_fall : Binds K _ ["results", "taken", "count"] [] := C8.Fun.binds D_law_fall.fn rfl fun _ _ _ _ _ _ us hl => match us, hl with | [_, _, _], _ => rfl
  have D_law_unit : C8.Def K mg "_law_unit" s_law_unit _ _ := ⟨⟨⟨_, _, _, _, _, _, _, _, _, _, rfl, l_law_unit, c_law_unit⟩⟩, PySem.W.mg_of X G a_law_unit, k_law_unit⟩
  have b_law_unit : Binds K _ ["run"] [] := C8.Fun.binds D_law_unit.fn rfl fun _ _ _ _ _ _ us hl => match us, hl with | [_], _ => rfl
  have D_law_run : C8.Def K mg "_law_run" s_law_run _ _ := ⟨⟨⟨_, _, _, _, _, _, _, _, _, _, rfl, l_law_run, c_law_run⟩⟩, PySem.W.mg_of X G a_law_run, k_law_run⟩
  have b_law_run : Binds K _ ["run", "block"] [] := C8.Fun.binds D_law_run.fn rfl fun _ _ _ _ _ _ us hl => match us, hl with | [_, _], _ => rfl
  have D_law_think : C8.Def K mg "_law_think" s_law_think _ _ := ⟨⟨⟨_, _, _, _, _, _, _, _, _, _, rfl, l_law_think, c_law_think⟩⟩, PySem.W.mg_of X G a_law_think, k_law_think⟩
  have b_law_think : Binds K _ ["brain", "cells", "view", "count", "results", "taken"] [] := C8.Fun.binds D_law_think.fn rfl fun _ _ _ _ _ _ us hl => match us, hl with | [_, _, _, _, _, _], _ => rfl
  have D_law_view : C8.Def K mg "_law_view" s_law_view _ _ := ⟨⟨⟨_, _, _, _, _, _, _, _, _, _, rfl, l_law_view, c_law_view⟩⟩, PySem.W.mg_of X G a_law_view, k_law_view⟩
  have b_law_view : Binds K _ ["pool"] [] := C8.Fun.binds D_law_view.fn rfl fun _ _ _ _ _ _ us hl => match us, hl with | [_], _ => rfl
  have D_law_count : C8.Def K mg "_law_count" s_law_count _ _ := ⟨⟨⟨_, _, _, _, _, _, _, _, _, _, rfl, l_law_count, c_law_count⟩⟩, PySem.W.mg_of X G a_law_count, k_law_count⟩
  have b_law_count : Binds K _ ["pool", "view"] [] := C8.Fun.binds D_law_count.fn rfl fun _ _ _ _ _ _ us hl => match us, hl with | [_, _], _ => rfl
  have D_law_lowest : C8.Def K mg "_law_lowest" s_law_lowest _ _ := ⟨⟨⟨_, _, _, _, _, _, _, _, _, _, rfl, l_law_lowest, c_law_lowest⟩⟩, PySem.W.mg_of X G a_law_lowest, k_law_lowest⟩
  have b_law_lowest : Binds K _ ["num", "den"] [] := C8.Fun.binds D_law_lowest.fn rfl fun _ _ _ _ _ _ us hl => match us, hl with | [_, _], _ => rfl
  have D_law_is_ratio : C8.Def K mg "_law_is_ratio" s_law_is_ratio _ _ := ⟨⟨⟨_, _, _, _, _, _, _, _, _, _, rfl, l_law_is_ratio, c_law_is_ratio⟩⟩, PySem.W.mg_of X G a_law_is_ratio, k_law_is_ratio⟩
  have b_law_is_ratio : Binds K _ ["actual", "num", "den"] [] := C8.Fun.binds D_law_is_ratio.fn rfl fun _ _ _ _ _ _ us hl => match us, hl with | [_, _, _], _ => rfl
  have D_law_small_lots : C8.Def K mg "_law_small_lots" s_law_small_lots _ _ := ⟨⟨⟨_, _, _, _, _, _, _, _, _, _, rfl, l_law_small_lots, c_law_small_lots⟩⟩, PySem.W.mg_of X G a_law_small_lots, k_law_small_lots⟩
  have b_law_small_lots : Binds K _ ["pool", "block"] [] := C8.Fun.binds D_law_small_lots.fn rfl fun _ _ _ _ _ _ us hl => match us, hl with | [_, _], _ => rfl
  have D_law_outcomes : C8.Def K mg "_law_outcomes" s_law_outcomes _ _ := ⟨⟨⟨_, _, _, _, _, _, _, _, _, _, rfl, l_law_outcomes, c_law_outcomes⟩⟩, PySem.W.mg_of X G a_law_outcomes, k_law_outcomes⟩
  have b_law_outcomes : Binds K _ ["brain", "cells", "view", "count"] [] := C8.Fun.binds D_law_outcomes.fn rfl fun _ _ _ _ _ _ us hl => match us, hl with | [_, _, _, _], _ => rfl
  have D_law_told : C8.Def K mg "_law_told" s_law_told _ _ := ⟨⟨⟨_, _, _, _, _, _, _, _, _, _, rfl, l_law_told, c_law_told⟩⟩, PySem.W.mg_of X G a_law_told, k_law_told⟩
  have b_law_told : Binds K _ ["brain", "cells", "view", "count"] [] := C8.Fun.binds D_law_told.fn rfl fun _ _ _ _ _ _ us hl => match us, hl with | [_, _, _, _], _ => rfl
  have D_law_right : C8.Def K mg "_law_right" s_law_right _ _ := ⟨⟨⟨_, _, _, _, _, _, _, _, _, _, rfl, l_law_right, c_law_right⟩⟩, PySem.W.mg_of X G a_law_right, k_law_right⟩
  have b_law_right : Binds K _ ["made", "brain", "cells", "view", "count"] [] := C8.Fun.binds D_law_right.fn rfl fun _ _ _ _ _ _ us hl => match us, hl with | [_, _, _, _, _], _ => rfl
  have F_law : C8.Fun K "law" "law" s_law _ _ := ⟨⟨_, _, _, _, _, _, _, _, _, _, rfl, l_law, c_law⟩⟩
  refine ⟨PySem.W.fnOf "law" "law" (fnArgs s_law) (fnBody s_law) (fnScope s_law) .none kV_law dc_law pm_law an_law cd_law ct_law, fun s v => .of_eq rfl, fun base _ _ => ?_⟩
  have c_law_pool := ok_law_pool (P := l.prog) (w := w) (base := base) D_law_pool b_law_pool T
  have c_law_draw := ok_law_draw (P := l.prog) (w := w) (base := base) D_law_draw b_law_draw T
  have c_law_spend := ok_law_spend (P := l.prog) (w := w) (base := base) D_law_spend b_law_spend T (k := 0)
  have c_law_few := ok_law_few D_law_few b_law_few T c_law_draw
  have c_law_number := ok_law_number D_law_number b_law_number T c_law_draw
  have c_law_keys := ok_law_keys (P := l.prog) (w := w) (base := base) D_law_keys b_law_keys T
  have c_law_name := ok_law_name D_law_name b_law_name T c_law_draw c_law_few c_law_keys
  have c_law_names := ok_law_names D_law_names b_law_names T c_law_few c_law_name
  have c_law_same := same_all (P := l.prog) (w := w) (base := base) D_law_same b_law_same T 33
  have c_combine := ok_combine (P := l.prog) (w := w) (base := base) D_combine b_combine T (k := 0)
  have c_value_of := value_all D_value_of v2_value_of b2_value_of T c_combine 12
  have c_law_combine := ok_law_combine (P := l.prog) (w := w) (base := base) D_law_combine b_law_combine T (k := 0)
  have c_law_value := lvalue_all D_law_value b_law_value T c_law_combine 12
  have c_law_expression := expr_all D_law_expression b_law_expression T c_law_draw c_law_spend c_law_number 12
  have c_law_thoughts := thoughts_all D_law_thoughts b_law_thoughts D_law_thought b_law_thought T c_law_draw c_law_spend c_law_few c_law_expression 9
  have c_Ratio := ok_rat_init (P := l.prog) (w := w) (base := base) M_Ratio F_Ratio___init b2_Ratio___init v2_Ratio___init T
  have c_Tape := ok_tape_init (P := l.prog) (w := w) (base := base) M_Tape F_Tape___init b_Tape___init T
  have c_Tape_take := ok_tape_take (P := l.prog) (w := w) (base := base) M_Tape_take F_Tape_take b_Tape_take T
  have c_Tape_chance := ok_tape_chance M_Tape_chance F_Tape_chance b_Tape_chance T c_Ratio
  have c_Tape_following := ok_tape_following (P := l.prog) (w := w) (base := base) M_Tape_following F_Tape_following b_Tape_following T
  have c_view_numbers := ok_views (P := l.prog) (w := w) (base := base) D_view_numbers b_view_numbers T
  have c_Thinker := ok_thinit (P := l.prog) (w := w) (base := base) M_Thinker F_Thinker___init b_Thinker___init T
  have c_Thinker_value := ok_tval M_Thinker_value F_Thinker_value b_Thinker_value T c_value_of
  have c_Thinker_unit := ok_tunit (P := l.prog) (w := w) (base := base) M_Thinker_unit F_Thinker_unit b_Thinker_unit T
  have c_Thinker_run := trun_all M_Thinker_run F_Thinker_run b_Thinker_run M_Thinker_step F_Thinker_step b_Thinker_step M_Thinker_loop F_Thinker_loop b_Thinker_loop T c_Thinker_value c_Thinker_unit c_Tape_take 9
  have c_think := ok_think D_think b_think T c_view_numbers c_Thinker c_Thinker_run c_Thinker_value
  have c_outcomes := ok_out D_outcomes b_outcomes T X_TooLarge c_Tape c_think c_Tape_chance c_Tape_following
  have c_Brain := ok_brinit (P := l.prog) (w := w) (base := base) M_Brain F_Brain___init b_Brain___init T
  have c_law_brain := ok_brain D_law_brain b_law_brain T c_law_names c_law_number c_law_thoughts c_law_expression
  have c_law_seen := ok_lseen (P := l.prog) (w := w) (base := base) D_law_seen b_law_seen T
  have c_law_fall := ok_lfall (P := l.prog) (w := w) (base := base) D_law_fall b_law_fall T
  have c_law_unit := ok_lunit (P := l.prog) (w := w) (base := base) D_law_unit b_law_unit T
  have c_law_run := lrun_all D_law_run b_law_run T c_law_unit c_law_fall c_law_value 9
  have c_law_think := ok_lthink D_law_think b_law_think T c_law_seen c_law_run c_law_value
  have c_law_view := ok_view D_law_view b_law_view T c_law_draw c_law_few c_law_number
  have c_law_count := ok_count D_law_count b_law_count T c_law_draw
  have c_law_lowest := ok_law_lowest (P := l.prog) (w := w) (base := base) D_law_lowest b_law_lowest T
  have c_law_is_ratio := ok_law_is_ratio D_law_is_ratio b_law_is_ratio T c_law_lowest c_law_same
  have c_law_small_lots := small_all D_law_small_lots b_law_small_lots T c_law_draw 9
  have c_law_outcomes := ok_lout D_law_outcomes b_law_outcomes T c_law_think
  have c_law_told := ok_told D_law_told b_law_told T c_outcomes
  have c_law_right := ok_right D_law_right b_law_right T c_law_outcomes c_law_told c_law_same c_law_is_ratio c_law_lowest
  exact ok_law F_law T c_law_pool c_law_draw c_law_number c_law_brain c_law_small_lots c_law_view c_Brain c_law_count c_law_right
theorem walk {l : PySem.W.OpenLaw} {q : Program} {loose : List Str} {XP : (Str → Option Value) → Heap → Prop} {YP : World → Heap → Prop} {d : DefRec} {K : Params → PySem.W.Frag} (hn : l.most = some 63) (hdf : d.params.defaults = [])
    (hY : ∀ (w : World) (h : Heap), YP w h → (K w.params).In h)
    (F : ∀ (w : World) (mg : Str → Option Value) (fa : Addr) (h : Heap), (K w.params).In h → h.Ns mainGlobals mg → mg d.name = some (.ref fa) →
      ∃ fd : FuncData, (∀ (s : Shared) (u : Value), BindsTo s fd ⟨[u], []⟩ [("script", u)]) ∧ ∀ base : Heap, (K w.params).In base → base.Ns mainGlobals mg → FnOk l.prog w (K w.params) mg base C8.CX0 46 fa fd ["script"] (sp_law (K w.params))) :
    PySem.W.WalkO q loose XP YP l.row.toRowW d [] (fun f vs => PySem.call f vs) :=
  L2.walk_ofB (n := 63) (k := 46) (x := "script") (CX := fun _ => C8.CX0) (sp := fun w => sp_law (K w.params)) hn (by decide) hdf ⟨rfl, by decide, by decide⟩ hY F (fun _ _ a ns hl hb _ hS => ⟨a, ns, rfl, hS, fun _ => rfl⟩) fun _ _ _ _ _ z => z
end My
open PySem PySem.W PyProof.Rows
set_option maxRecDepth 100000 in
set_option maxHeartbeats 0 in
theorem PySem.Challenge.cw_bothgain_k64_all_outcomes_of_a_move_holds : PySem.Challenge.rw_bothgain_k64_all_outcomes_of_a_move.Holds := by
  w_on; o_law; k_head; (case hw => w_witness2)
  k_fill
  refine My.walk (l := PySem.Challenge.rw_bothgain_k64_all_outcomes_of_a_move) rfl rfl (fun w h Y => PySem.W.kIn_of Y) ?F
  case F =>
    intro w mg fa h KX G hmg
    refine' My.all_mk KX G hmg ?a_view_numbers ?l_view_numbers ?c_view_numbers ?k_view_numbers ?a_think ?l_think ?c_think ?k_think ?a_combine ?l_combine ?c_combine ?k_combine ?a_value_of ?l_value_of ?c_value_of ?k_value_of ?lT_value_of ?a_outcomes ?l_outcomes ?c_outcomes ?k_outcomes ?a_law_pool ?l_law_pool ?c_law_pool ?k_law_pool ?a_law_draw ?l_law_draw ?c_law_draw ?k_law_draw ?a_law_spend ?l_law_spend ?c_law_spend ?k_law_spend ?a_law_few ?l_law_few ?c_law_few ?k_law_few ?a_law_number ?l_law_number ?c_law_number ?k_law_number ?a_law_same ?l_law_same ?c_law_same ?k_law_same ?a_law_keys ?l_law_keys ?c_law_keys ?k_law_keys ?a_law_name ?l_law_name ?c_law_name ?k_law_name ?a_law_names ?l_law_names ?c_law_names ?k_law_names ?a_law_expression ?l_law_expression ?c_law_expression ?k_law_expression ?a_law_combine ?l_law_combine ?c_law_combine ?k_law_combine ?a_law_value ?l_law_value ?c_law_value ?k_law_value ?a_law_thoughts ?l_law_thoughts ?c_law_thoughts ?k_law_thoughts ?a_law_thought ?l_law_thought ?c_law_thought ?k_law_thought ?a_law_brain ?l_law_brain ?c_law_brain ?k_law_brain ?a_law_seen ?l_law_seen ?c_law_seen ?k_law_seen ?a_law_fall ?l_law_fall ?c_law_fall ?k_law_fall ?a_law_unit ?l_law_unit ?c_law_unit ?k_law_unit ?a_law_run ?l_law_run ?c_law_run ?k_law_run ?a_law_think ?l_law_think ?c_law_think ?k_law_think ?a_law_view ?l_law_view ?c_law_view ?k_law_view ?a_law_count ?l_law_count ?c_law_count ?k_law_count ?a_law_lowest ?l_law_lowest ?c_law_lowest ?k_law_lowest ?a_law_is_ratio ?l_law_is_ratio ?c_law_is_ratio ?k_law_is_ratio ?a_law_small_lots ?l_law_small_lots ?c_law_small_lots ?k_law_small_lots ?a_law_outcomes ?l_law_outcomes ?c_law_outcomes ?k_law_outcomes ?a_law_told ?l_law_told ?c_law_told ?k_law_told ?a_law_right ?l_law_right ?c_law_right ?k_law_right ?a_law ?l_law ?c_law ?k_law ?mc_Ratio ?pg_Ratio ?hd_Ratio ?po_Ratio ?sa_Ratio ?mk_Ratio ?kc_Ratio ?ha_Ratio ?hn_Ratio ?ht_Ratio ?hm_Ratio ?nnum_Ratio ?nden_Ratio ?mc_Tape ?pg_Tape ?hd_Tape ?po_Tape ?sa_Tape ?mk_Tape ?kc_Tape ?ha_Tape ?hn_Tape ?ht_Tape ?hm_Tape ?nresults_Tape ?ntaken_Tape ?mc_Thinker ?pg_Thinker ?hd_Thinker ?po_Thinker ?sa_Thinker ?mk_Thinker ?kc_Thinker ?ha_Thinker ?hn_Thinker ?ht_Thinker ?hm_Thinker ?ntable_Thinker ?nleft_Thinker ?nseen_Thinker ?ntape_Thinker ?mc_Brain ?pg_Brain ?hd_Brain ?po_Brain ?sa_Brain ?mk_Brain ?kc_Brain ?ha_Brain ?hn_Brain ?ht_Brain ?hm_Brain ?nunits_Brain ?ncells_Brain ?nblock_Brain ?nanswer_Brain ?a_Ratio___init ?i_Ratio___init ?l_Ratio___init ?c_Ratio___init ?k_Ratio___init ?lT_Ratio___init ?a_Tape___init ?i_Tape___init ?l_Tape___init ?c_Tape___init ?k_Tape___init ?a_Tape_take ?i_Tape_take ?l_Tape_take ?c_Tape_take ?k_Tape_take ?a_Tape_chance ?i_Tape_chance ?l_Tape_chance ?c_Tape_chance ?k_Tape_chance ?a_Tape_following ?i_Tape_following ?l_Tape_following ?c_Tape_following ?k_Tape_following ?a_Brain___init ?i_Brain___init ?l_Brain___init ?c_Brain___init ?k_Brain___init ?a_Thinker___init ?i_Thinker___init ?l_Thinker___init ?c_Thinker___init ?k_Thinker___init ?a_Thinker_value ?i_Thinker_value ?l_Thinker_value ?c_Thinker_value ?k_Thinker_value ?a_Thinker_unit ?i_Thinker_unit ?l_Thinker_unit ?c_Thinker_unit ?k_Thinker_unit ?a_Thinker_run ?i_Thinker_run ?l_Thinker_run ?c_Thinker_run ?k_Thinker_run ?a_Thinker_step ?i_Thinker_step ?l_Thinker_step ?c_Thinker_step ?k_Thinker_step ?a_Thinker_loop ?i_Thinker_loop ?l_Thinker_loop ?c_Thinker_loop ?k_Thinker_loop ?mc_GameError ?mc_TooLarge ?opq ?zsup ?ptop ?xsp ?xtk ?xL_TooLarge ?al_TooLarge ?ve_TooLarge ?sa_TooLarge ?ga_TooLarge ?gg_TooLarge ?nb_TooLarge ?iC_TooLarge ?tf_TooLarge ?kC_TooLarge ?eC_TooLarge ?tC_TooLarge ?hC_TooLarge ?mo_TooLarge ?ma_TooLarge ?ca_TooLarge ?ss_TooLarge ?lf_TooLarge ?cf_TooLarge ?lc_TooLarge ?ld_TooLarge ?vf_TooLarge ?fe_TooLarge ?hkit1 ?z_MOST_OUTCOMES ?z_GREATEST ?z_EVENTS ?lT_EVENTS ?z_gcd ?z_abs ?z_bool ?z_int ?z_isinstance ?z_len ?z_list ?z_max ?z_min ?z_range ?z_str ?z_tuple ?z_zip
    (case a_view_numbers => k_is)
    (case l_view_numbers => k_is)
    (case c_view_numbers => k_is)
    (case k_view_numbers => k_is)
    (case a_think => k_is)
    (case l_think => k_is)
    (case c_think => k_is)
    (case k_think => k_is)
    (case a_combine => k_is)
    (case l_combine => k_is)
    (case c_combine => k_is)
    (case k_combine => k_is)
    (case a_value_of => k_is)
    (case l_value_of => k_is)
    (case c_value_of => k_is)
    (case k_value_of => k_is)
    (case lT_value_of => k_is)
    (case a_outcomes => k_is)
    (case l_outcomes => k_is)
    (case c_outcomes => k_is)
    (case k_outcomes => k_is)
    (case a_law_pool => k_is)
    (case l_law_pool => k_is)
    (case c_law_pool => k_is)
    (case k_law_pool => k_is)
    (case a_law_draw => k_is)
    (case l_law_draw => k_is)
    (case c_law_draw => k_is)
    (case k_law_draw => k_is)
    (case a_law_spend => k_is)
    (case l_law_spend => k_is)
    (case c_law_spend => k_is)
    (case k_law_spend => k_is)
    (case a_law_few => k_is)
    (case l_law_few => k_is)
    (case c_law_few => k_is)
    (case k_law_few => k_is)
    (case a_law_number => k_is)
    (case l_law_number => k_is)
    (case c_law_number => k_is)
    (case k_law_number => k_is)
    (case a_law_same => k_is)
    (case l_law_same => k_is)
    (case c_law_same => k_is)
    (case k_law_same => k_is)
    (case a_law_keys => k_is)
    (case l_law_keys => k_is)
    (case c_law_keys => k_is)
    (case k_law_keys => k_is)
    (case a_law_name => k_is)
    (case l_law_name => k_is)
    (case c_law_name => k_is)
    (case k_law_name => k_is)
    (case a_law_names => k_is)
    (case l_law_names => k_is)
    (case c_law_names => k_is)
    (case k_law_names => k_is)
    (case a_law_expression => k_is)
    (case l_law_expression => k_is)
    (case c_law_expression => k_is)
    (case k_law_expression => k_is)
    (case a_law_combine => k_is)
    (case l_law_combine => k_is)
    (case c_law_combine => k_is)
    (case k_law_combine => k_is)
    (case a_law_value => k_is)
    (case l_law_value => k_is)
    (case c_law_value => k_is)
    (case k_law_value => k_is)
    (case a_law_thoughts => k_is)
    (case l_law_thoughts => k_is)
    (case c_law_thoughts => k_is)
    (case k_law_thoughts => k_is)
    (case a_law_thought => k_is)
    (case l_law_thought => k_is)
    (case c_law_thought => k_is)
    (case k_law_thought => k_is)
    (case a_law_brain => k_is)
    (case l_law_brain => k_is)
    (case c_law_brain => k_is)
    (case k_law_brain => k_is)
    (case a_law_seen => k_is)
    (case l_law_seen => k_is)
    (case c_law_seen => k_is)
    (case k_law_seen => k_is)
    (case a_law_fall => k_is)
    (case l_law_fall => k_is)
    (case c_law_fall => k_is)
    (case k_law_fall => k_is)
    (case a_law_unit => k_is)
    (case l_law_unit => k_is)
    (case c_law_unit => k_is)
    (case k_law_unit => k_is)
    (case a_law_run => k_is)
    (case l_law_run => k_is)
    (case c_law_run => k_is)
    (case k_law_run => k_is)
    (case a_law_think => k_is)
    (case l_law_think => k_is)
    (case c_law_think => k_is)
    (case k_law_think => k_is)
    (case a_law_view => k_is)
    (case l_law_view => k_is)
    (case c_law_view => k_is)
    (case k_law_view => k_is)
    (case a_law_count => k_is)
    (case l_law_count => k_is)
    (case c_law_count => k_is)
    (case k_law_count => k_is)
    (case a_law_lowest => k_is)
    (case l_law_lowest => k_is)
    (case c_law_lowest => k_is)
    (case k_law_lowest => k_is)
    (case a_law_is_ratio => k_is)
    (case l_law_is_ratio => k_is)
    (case c_law_is_ratio => k_is)
    (case k_law_is_ratio => k_is)
    (case a_law_small_lots => k_is)
    (case l_law_small_lots => k_is)
    (case c_law_small_lots => k_is)
    (case k_law_small_lots => k_is)
    (case a_law_outcomes => k_is)
    (case l_law_outcomes => k_is)
    (case c_law_outcomes => k_is)
    (case k_law_outcomes => k_is)
    (case a_law_told => k_is)
    (case l_law_told => k_is)
    (case c_law_told => k_is)
    (case k_law_told => k_is)
    (case a_law_right => k_is)
    (case l_law_right => k_is)
    (case c_law_right => k_is)
    (case k_law_right => k_is)
    (case a_law => k_is)
    (case l_law => k_is)
    (case c_law => k_is)
    (case k_law => k_is)
    (case mc_Ratio => k_is)
    (case pg_Ratio => k_is)
    (case hd_Ratio => k_is)
    (case po_Ratio => k_is)
    (case sa_Ratio => k_is)
    (case mk_Ratio => k_is)
    (case kc_Ratio => k_is)
    (case ha_Ratio => k_is)
    (case hn_Ratio => k_is)
    (case ht_Ratio => k_is)
    (case hm_Ratio => k_is)
    (case nnum_Ratio => k_is)
    (case nden_Ratio => k_is)
    (case mc_Tape => k_is)
    (case pg_Tape => k_is)
    (case hd_Tape => k_is)
    (case po_Tape => k_is)
    (case sa_Tape => k_is)
    (case mk_Tape => k_is)
    (case kc_Tape => k_is)
    (case ha_Tape => k_is)
    (case hn_Tape => k_is)
    (case ht_Tape => k_is)
    (case hm_Tape => k_is)
    (case nresults_Tape => k_is)
    (case ntaken_Tape => k_is)
    (case mc_Thinker => k_is)
    (case pg_Thinker => k_is)
    (case hd_Thinker => k_is)
    (case po_Thinker => k_is)
    (case sa_Thinker => k_is)
    (case mk_Thinker => k_is)
    (case kc_Thinker => k_is)
    (case ha_Thinker => k_is)
    (case hn_Thinker => k_is)
    (case ht_Thinker => k_is)
    (case hm_Thinker => k_is)
    (case ntable_Thinker => k_is)
    (case nleft_Thinker => k_is)
    (case nseen_Thinker => k_is)
    (case ntape_Thinker => k_is)
    (case mc_Brain => k_is)
    (case pg_Brain => k_is)
    (case hd_Brain => k_is)
    (case po_Brain => k_is)
    (case sa_Brain => k_is)
    (case mk_Brain => k_is)
    (case kc_Brain => k_is)
    (case ha_Brain => k_is)
    (case hn_Brain => k_is)
    (case ht_Brain => k_is)
    (case hm_Brain => k_is)
    (case nunits_Brain => k_is)
    (case ncells_Brain => k_is)
    (case nblock_Brain => k_is)
    (case nanswer_Brain => k_is)
    (case a_Ratio___init => k_is)
    (case i_Ratio___init => k_is)
    (case l_Ratio___init => k_is)
    (case c_Ratio___init => k_is)
    (case k_Ratio___init => k_is)
    (case lT_Ratio___init => k_is)
    (case a_Tape___init => k_is)
    (case i_Tape___init => k_is)
    (case l_Tape___init => k_is)
    (case c_Tape___init => k_is)
    (case k_Tape___init => k_is)
    (case a_Tape_take => k_is)
    (case i_Tape_take => k_is)
    (case l_Tape_take => k_is)
    (case c_Tape_take => k_is)
    (case k_Tape_take => k_is)
    (case a_Tape_chance => k_is)
    (case i_Tape_chance => k_is)
    (case l_Tape_chance => k_is)
    (case c_Tape_chance => k_is)
    (case k_Tape_chance => k_is)
    (case a_Tape_following => k_is)
    (case i_Tape_following => k_is)
    (case l_Tape_following => k_is)
    (case c_Tape_following => k_is)
    (case k_Tape_following => k_is)
    (case a_Brain___init => k_is)
    (case i_Brain___init => k_is)
    (case l_Brain___init => k_is)
    (case c_Brain___init => k_is)
    (case k_Brain___init => k_is)
    (case a_Thinker___init => k_is)
    (case i_Thinker___init => k_is)
    (case l_Thinker___init => k_is)
    (case c_Thinker___init => k_is)
    (case k_Thinker___init => k_is)
    (case a_Thinker_value => k_is)
    (case i_Thinker_value => k_is)
    (case l_Thinker_value => k_is)
    (case c_Thinker_value => k_is)
    (case k_Thinker_value => k_is)
    (case a_Thinker_unit => k_is)
    (case i_Thinker_unit => k_is)
    (case l_Thinker_unit => k_is)
    (case c_Thinker_unit => k_is)
    (case k_Thinker_unit => k_is)
    (case a_Thinker_run => k_is)
    (case i_Thinker_run => k_is)
    (case l_Thinker_run => k_is)
    (case c_Thinker_run => k_is)
    (case k_Thinker_run => k_is)
    (case a_Thinker_step => k_is)
    (case i_Thinker_step => k_is)
    (case l_Thinker_step => k_is)
    (case c_Thinker_step => k_is)
    (case k_Thinker_step => k_is)
    (case a_Thinker_loop => k_is)
    (case i_Thinker_loop => k_is)
    (case l_Thinker_loop => k_is)
    (case c_Thinker_loop => k_is)
    (case k_Thinker_loop => k_is)
    (case mc_GameError => k_is)
    (case mc_TooLarge => k_is)
    (case opq => first | k_is | rfl | decide +kernel)
    (case zsup => k_is)
    (case ptop => first | k_is | rfl | decide +kernel)
    (case xsp => k_is)
    (case xtk => k_is)
    (case xL_TooLarge => k_is)
    (case al_TooLarge => first | k_is | rfl | decide +kernel)
    (case ve_TooLarge => k_is)
    (case sa_TooLarge => k_is)
    (case ga_TooLarge => k_is)
    (case gg_TooLarge => k_is)
    (case nb_TooLarge => k_is)
    (case iC_TooLarge => k_is)
    (case tf_TooLarge => k_is)
    (case kC_TooLarge => k_is)
    (case eC_TooLarge => k_is)
    (case tC_TooLarge => k_is)
    (case hC_TooLarge => k_is)
    (case mo_TooLarge => k_is)
    (case ma_TooLarge => k_is)
    (case ca_TooLarge => k_is)
    (case ss_TooLarge => first | k_is | rfl | decide +kernel)
    (case lf_TooLarge => k_is)
    (case cf_TooLarge => k_is)
    (case lc_TooLarge => k_is)
    (case ld_TooLarge => k_is)
    (case vf_TooLarge => first | k_is | rfl | decide +kernel)
    (case fe_TooLarge => first | k_is | rfl | decide +kernel)
    (case hkit1 => first | k_is | kit_is | rfl | decide +kernel)
    (case z_MOST_OUTCOMES => k_is)
    (case z_GREATEST => k_is)
    (case z_EVENTS => k_is)
    (case lT_EVENTS => k_is)
    (case z_gcd => k_is)
    (case z_abs => k_is)
    (case z_bool => k_is)
    (case z_int => k_is)
    (case z_isinstance => k_is)
    (case z_len => k_is)
    (case z_list => k_is)
    (case z_max => k_is)
    (case z_min => k_is)
    (case z_range => k_is)
    (case z_str => k_is)
    (case z_tuple => k_is)
    (case z_zip => k_is)

