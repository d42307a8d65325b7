
import PyProof.Rows.All
import Wide.All
import OpenK.AllK
import Wide.FinOn
import HandS.ForMost
import HandS.Codes
import HandS.IsInst
import HandS.EndBits
import HandS.Walk
import HandS.DeepEq
import HandS.Gcd
import HandS.Wide
import HandS.Defaults
import HandS.OwnEq
import HandS.Dict
import HandS.WordsDict
import HandS.Star
import HandS.Strs
import HandS.RaiseMore
import HandS.More
import HandS.Iter
import HandS.Zip
import HandS.Style
import HandS.Star
import KE.KSuper
import KE.KSuperObj
import KE.KExcSuper
import HandS.MakeKwOnly
import PySem.Challenge.RW_bothgain_k75_compiled_brains_think_alike
set_option Elab.async false
set_option linter.all false
set_option maxRecDepth 100000
set_option maxHeartbeats 4000000
set_option pp.maxSteps 400

namespace My
open PySem L2 C8 SX
/-! own base: tests, heaps -/
theorem bo_len : bootBuiltins "len" = some (.builtin "len") := by decide +kernel
theorem bo_isinstance : bootBuiltins "isinstance" = some (.builtin "isinstance") := by decide +kernel
theorem bo_min : bootBuiltins "min" = some (.builtin "min") := by decide +kernel
theorem bo_max : bootBuiltins "max" = some (.builtin "max") := by decide +kernel
theorem bo_abs : bootBuiltins "abs" = some (.builtin "abs") := by decide +kernel
theorem bo_int : bootBuiltins "int" = some (.type "int") := by decide +kernel
theorem bo_str : bootBuiltins "str" = some (.type "str") := by decide +kernel
theorem bo_bool : bootBuiltins "bool" = some (.type "bool") := by decide +kernel
theorem bo_list : bootBuiltins "list" = some (.type "list") := by decide +kernel
theorem bo_ord : bootBuiltins "ord" = some (.builtin "ord") := by decide +kernel
theorem bo_chr : bootBuiltins "chr" = some (.builtin "chr") := by decide +kernel
theorem bo_sum : bootBuiltins "sum" = some (.builtin "sum") := by decide +kernel
theorem bo_all : bootBuiltins "all" = some (.builtin "all") := by decide +kernel
theorem bo_any : bootBuiltins "any" = some (.builtin "any") := by decide +kernel
theorem bo_sorted : bootBuiltins "sorted" = some (.builtin "sorted") := by decide +kernel
theorem bo_dict : bootBuiltins "dict" = some (.type "dict") := by decide +kernel
theorem bo_tuple : bootBuiltins "tuple" = some (.type "tuple") := by decide +kernel
theorem iteD {p A B : Prop} [Decidable p] (h1 : p → A) (h2 : ¬ p → B) : if decide p = true then A else B := by
  by_cases h : p
  · rw [decide_eq_true h]; exact iteT (h1 h)
  · rw [decide_eq_false h]; exact iteF (h2 h)
theorem iteN {p A B : Prop} [Decidable p] (h1 : ¬ p → A) (h2 : p → B) : if (!decide p) = true then A else B := by
  by_cases h : p
  · rw [decide_eq_true h]; exact iteF (h2 h)
  · rw [decide_eq_false h]; exact iteT (h1 h)
theorem iteDT {p A B : Prop} [Decidable p] (h : p) (k : A) : if decide p = true then A else B := iteD (fun _ => k) fun z => absurd h z
theorem iteDF {p A B : Prop} [Decidable p] (h : ¬ p) (k : B) : if decide p = true then A else B := iteD (fun z => absurd z h) fun _ => k
theorem iteNT {p A B : Prop} [Decidable p] (h : ¬ p) (k : A) : if (!decide p) = true then A else B := iteN (fun _ => k) fun z => absurd z h
theorem iteNF {p A B : Prop} [Decidable p] (h : p) (k : B) : if (!decide p) = true then A else B := iteN (fun z => absurd h z) fun _ => k
theorem iteB {b : Bool} {A B : Prop} (h1 : b = true → A) (h2 : b = false → B) : if b = true then A else B := by
  cases b with
  | true => exact iteT (h1 rfl)
  | false => exact iteF (h2 rfl)
/-- in a comprehension without a test -/
theorem yes_then {σ : St} {H : Hp} {F G : Hp → Prop} (h : F H) : tYes σ H (fun b H3 => if b = true then F H3 else G H3) := h
/-- all that was tracked stands, but at W -/
def Keep (W : List Addr) (H H' : Hp) : Prop := ∀ b o, H b = some o → b ∉ W → H' b = some o
theorem Keep.refl (W : List Addr) (H : Hp) : Keep W H H := fun _ _ h _ => h
theorem Keep.trans {W : List Addr} {H H1 H2 : Hp} (a : Keep W H H1) (b : Keep W H1 H2) : Keep W H H2 := fun c o h w => b c o (a c o h w) w
theorem Keep.mono {W W' : List Addr} {H H1 : Hp} (a : Keep W H H1) (h : ∀ b, b ∈ W → b ∈ W') : Keep W' H H1 := fun c o q w => a c o q fun z => w (h c z)
theorem Keep.new {W : List Addr} {H : Hp} {p : Addr} {o : HO} (h : H p = none) : Keep W H (upd H p o) := fun b u q _ => by
  rw [upd_ne (ne_of_none q h)]; exact q
theorem Keep.at_ {W : List Addr} {H : Hp} {p : Addr} {o : HO} (h : p ∈ W) : Keep W H (upd H p o) := fun b u q w => by
  rw [upd_ne (fun z => w (by rw [z]; exact h))]; exact q
theorem Keep.then_new {W : List Addr} {H H1 : Hp} {p : Addr} {o : HO} (a : Keep W H H1) (h : H1 p = none) : Keep W H (upd H1 p o) := a.trans (Keep.new h)
theorem Keep.then_at {W : List Addr} {H H1 : Hp} {p : Addr} {o : HO} (a : Keep W H H1) (h : p ∈ W) : Keep W H (upd H1 p o) := a.trans (Keep.at_ h)
/-- what was new since H is not among the kept -/
theorem Keep.then_own {W : List Addr} {H H1 : Hp} {p : Addr} {o : HO} (a : Keep W H H1) (h : H p = none) : Keep W H (upd H1 p o) := fun b u q w => by
  rw [upd_ne (ne_of_none q h)]; exact a b u q w
theorem Keep.free {H H' : Hp} (e : Keep [] H H') {l : Addr} (h : H' l = none) : H l = none := by
  cases q : H l with
  | none => rfl
  | some o => rw [e l o q (by simp)] at h; cases h
theorem Keep.free1 {H H' : Hp} {p : Addr} {o : HO} (e : Keep [p] H H') (hp : H' p = some o) {l : Addr} (h : H' l = none) : H l = none := by
  cases q : H l with
  | none => rfl
  | some u =>
    by_cases z : l = p
    · subst z; rw [hp] at h; cases h
    · rw [e l u q (by simpa using z)] at h; cases h
theorem Keep.seqL {W : List Addr} {K : PySem.W.Frag} {H H' : Hp} {a : Addr} {xs : List V} (e : Keep W H H') (h : SqL K H a xs) (w : a ∉ W) : SqL K H' a xs := by
  rcases h with (h | ⟨o, h⟩) | h
  · exact .inl (.inl (e _ _ h w))
  · exact .inl (.inr ⟨o, e _ _ h w⟩)
  · exact .inr h
theorem Keep.seqT {W : List Addr} {K : PySem.W.Frag} {H H' : Hp} {a : Addr} {xs : List V} (e : Keep W H H') (h : SqT K H a xs) (w : a ∉ W) : SqT K H' a xs := by
  rcases h with (h | ⟨o, h⟩) | h
  · exact .inl (.inl (e _ _ h w))
  · exact .inl (.inr ⟨o, e _ _ h w⟩)
  · exact .inr h
theorem Keep.same {H H' : Hp} (e : Keep [] H H') : Same H H' := fun b o h => e b o h (by simp)
theorem ints_get {ns : List Int} {i : Nat} {v : V} (h : (ns.map V.int)[i]? = some v) : ∃ z, ns[i]? = some z ∧ v = V.int z := by
  rw [List.getElem?_map] at h
  cases e : ns[i]? with
  | none => rw [e] at h; cases h
  | some z => rw [e] at h; exact ⟨z, rfl, (Option.some.inj h).symm⟩
theorem strs_get {ns : List Str} {i : Nat} {v : V} (h : (ns.map V.str)[i]? = some v) : ∃ z, ns[i]? = some z ∧ v = V.str z := by
  rw [List.getElem?_map] at h
  cases e : ns[i]? with
  | none => rw [e] at h; cases h
  | some z => rw [e] at h; exact ⟨z, rfl, (Option.some.inj h).symm⟩
theorem smallM {n : Nat} (h : n ≤ 1000000) : n ≤ sizeLine := Nat.le_trans h (by decide)
theorem smallL {n : Nat} (h : n ≤ 1000000) : n < sizeLine := Nat.lt_of_le_of_lt h (by decide)
/-- a promise that asks the impossible: any def at all keeps it -/
def spNo : Sp := fun _ _ _ _ => False
/-! the same rules with the written part named (within a comprehension) -/
section
variable {X : Cx} {K : PySem.W.Frag}
theorem pe_fldK {e : Expr} {f : Str} {pos : Pos} {ta : TE} (he : PE X e ta) (hb : attributeBase e f X.env (eval e X.env) = eval e X.env) (hK : X.K = K := by rfl) : PE X (.Attribute e f pos) (tFld K ta f) := hK ▸ pe_fld he hb
theorem ix_listK (hK : X.K = K := by rfl) : IxR X (rIxL K) := hK ▸ ix_list
theorem ix_tupK (hK : X.K = K := by rfl) : IxR X (rIxT K) := hK ▸ ix_tup
theorem sl_listK (hK : X.K = K := by rfl) : SlR X (rSlL K) := hK ▸ sl_list
theorem sl_tupK (hK : X.K = K := by rfl) : SlR X (rSlT K) := hK ▸ sl_tup
theorem call_len_seqK (hK : X.K = K := by rfl) : CallR X (.builtin "len") (fun xs H Q => ∃ p ys, xs = [.ref p] ∧ (SqL K H p ys ∨ SqT K H p ys) ∧ Q (.int ys.length) H) := hK ▸ call_len_seq
theorem call_list_ofK (hK : X.K = K := by rfl) : CallR X (.type "list") (fun xs H Q => ∃ p ys, xs = [.ref p] ∧ (SqL K H p ys ∨ SqT K H p ys) ∧ ∀ l, H l = none → Q (.ref l) (upd H l (.lst ys))) := hK ▸ call_list_of
theorem call_isiK2 (hK : X.K = K := by rfl) : CallR X (.builtin "isinstance") (rIsi K) := hK ▸ call_isi
end
/-- behind the making of an instance -/
theorem keep_made {H H2 : Hp} {x dx : Addr} {o : HO} (hx : H x = none) (hd : H dx = none) (k : Keep [x] (upd (upd H dx (.own x)) x o) H2) : Keep [] H H2 := fun b u e _ =>
  k b u (by rw [upd_ne (ne_of_none e hx), upd_ne (ne_of_none e hd)]; exact e) (by simpa using ne_of_none e hx)
theorem kitSelf {K : PySem.W.Frag} {C : Addr} : PySem.W.kitOne K (.ref C) (.ref C) = some true := by
  unfold PySem.W.kitOne
  simp
/-- a call without arguments -/
theorem pe_c0 {X : Cx} {x : Str} {p pos : Pos} {k j : Nat} {sp : Sp} {dvs : List V} (c : C8.Cal X.prog X.w X.K X.mg X.base k x sp dvs) (hr : Room j X.A) (hk : k ≤ j) (hg : Gl X x) (hdb : (x == ("__debug__" : Str)) = false := by decide) :
    PE X (.Call (.Name x p) [] [] pos) (tCall sp dvs C8.E0 tNil) := by
  obtain ⟨f, fd, ps, ds, F, hm, kp, b, d⟩ := c.ex
  exact pe_call0 F (hr.mono hk) hg hm kp b d C8.pass0 hdb

/-! an own __init__ that begins with super().__init__(..): by its body -/
section
open PySem PySem.W PyProof.Rows L2 C8
theorem one_lookup {x a : Str} {c d : Addr} (h : List.lookup x [(a, d)] = some c) : x = a ∧ c = d := by
  by_cases e : x = a
  · subst e
    simp [List.lookup] at h
    exact ⟨rfl, h.symm⟩
  · have : (x == a) = false := by simpa using e
    simp [List.lookup, this] at h
theorem lookup_nd {α : Type} {x : Str} {v : α} : ∀ {l : List (Str × α)}, (l.map (·.1)).Nodup → (x, v) ∈ l → l.lookup x = some v
  | [], _, h => by cases h
  | (y, u) :: l, nd, h => by
    rw [List.map_cons, List.nodup_cons] at nd
    rcases List.mem_cons.mp h with e | h
    · cases e; simp [List.lookup]
    · have ne : x ≠ y := fun z => nd.1 (z ▸ List.mem_map_of_mem (f := (·.1)) h)
      have : (x == y) = false := by simpa using ne
      rw [List.lookup, this]
      exact lookup_nd nd.2 h
/-- a look at the scope: no cell of its own, nothing free but the class -/
structure SScope (N P : List Str) (sc : Scope) : Prop where
  kind : sc.kind = .function
  co : sc.isCoroutine = false
  gen : sc.isGenerator = false
  nd : N.Nodup
  pre : N.take P.length = P
  par : ∀ x ∈ P, sc.names.lookup x = some .local
  nocell : ∀ y ∈ sc.names, y.2 ≠ .cell
  free : ∀ y ∈ sc.names, y.2 = .free → y.1 = "__class__"
def ssC (N P : List Str) (sc : Scope) : Bool :=
  decide (sc.kind = .function) && !sc.isCoroutine && !sc.isGenerator && decide N.Nodup && decide (N.take P.length = P) && P.all (fun x => decide (sc.names.lookup x = some .local)) && sc.names.all (fun y => !decide (y.2 = .cell)) && sc.names.all (fun y => !decide (y.2 = .free) || decide (y.1 = "__class__"))
theorem sScope_by {N P : List Str} {sc : Scope} (h : ssC N P sc = true) : SScope N P sc := by
  unfold ssC at h
  simp only [Bool.and_eq_true, Bool.not_eq_true', decide_eq_true_eq, List.all_eq_true, decide_eq_false_iff_not, Bool.or_eq_true] at h
  obtain ⟨⟨⟨⟨⟨⟨⟨h1, h2⟩, h3⟩, h4⟩, h5⟩, h6⟩, h7⟩, h8⟩ := h
  exact ⟨h1, h2, h3, h4, h5, fun x hx => h6 x hx, fun y hy => h7 y hy, fun y hy hf => (h8 y hy).elim (fun z => absurd hf z) id⟩
def cxS (P : Program) (w : World) (K : PySem.W.Frag) (mg : Str → Option Value) (base : Heap) (N : List Str) (qual : Str) (scope : Scope) (f : Addr) (cd : Value) (cc : Addr) (A : Around) (outer : List Env) (s : Shared) (H : Hp) : Cx where
  prog := P
  w := w
  K := K
  mg := mg
  base := base
  A := A.deeper (ksEnv qual scope s.heap.objs.size f cd cc)
  N := N
  s_0 := s
  H_0 := H
  env := ksEnv qual scope s.heap.objs.size f cd cc
  outer := outer
  stack := ksEnv qual scope s.heap.objs.size f cd cc :: outer
  ex := []
  calm := true
  fn := fun _ => false
  pn := []
  xe := fun _ _ => False
theorem inv_startS {P : Program} {w : World} {K : PySem.W.Frag} {mg : Str → Option Value} {base : Heap} {N ps : List Str} {qual : Str} {scope : Scope} {f : Addr} {cd : Value} {cc : Addr} {oc : Obj} {cv : Option Value} {A : Around} {outer : List Env} {s : Shared} {h1 : Heap} {t : Nat} {H : Hp} {us : List Value} {vs : List V}
    (S : SScope N ps scope) (hd : A.handled = none) (e0 : Env0 P w K mg base A outer s H) (hl : vs.length = ps.length) (r : Vals vs us) (hcc : K.lookup cc = some oc) (hoc : oc.data = .cell cv)
    (hns : h1.Ns s.heap.objs.size fun x => (ps.zip us).reverse.lookup x) (hk : ∀ b o, s.heap.get? b = some o → h1.get? b = some o) :
    Inv (cxS P w K mg base N qual scope f cd cc A outer s H) [] (L2.start N vs) H { s with heap := h1, toks := t } := by
  have hpl : ps.length ≤ N.length := by have := congrArg List.length S.pre; rw [List.length_take] at this; omega
  have hcb := e0.mod.kin _ _ hcc
  have hcs := (e0.bs _ _ hcb).1
  have hlt : cc < s.heap.objs.size := Heap.lt_size hcs
  have noA : ∀ b : Addr, b ∉ (cxS P w K mg base N qual scope f cd cc A outer s H).ex := fun b z => absurd (show b ∈ ([] : List Addr) from z) (by simp)
  have cl : ∀ {y : Str} {c : Addr}, (cxS P w K mg base N qual scope f cd cc A outer s H).env.cells.lookup y = some c → y = "__class__" ∧ c = cc := fun h => one_lookup h
  refine ⟨⟨e0.mod, S.kind, rfl, rfl, Nat.le_refl _, fun y z c h1 h2 => (cl h1).1.trans (cl h2).1.symm, fun y hy => ?_, (fun y c h _ => by cases h), fun _ => hd, Around.frames_deeper e0.frames, .inr ⟨rfl, rfl⟩, fun b z => absurd z (noA b), e0.bs, e0.bsz, fun b _ _ => noA b, fun b z => absurd z (noA b), e0.funs, e0.frf⟩,
    rfl, e0.bare, Un.kept hk, ⟨_, hns, fun i y v g1 g2 g3 => ?_⟩, fun y c h => ?_, e0.hok.fresh (Nat.le_refl _), fun y c h => ?_, fun p hp => absurd (show p ∈ ([] : List (Addr × Obj)) from hp) (by simp), e0.hok.kept hk, ?_⟩
  · have hy : scope.names.lookup y = some .cell ∨ scope.names.lookup y = some .free := hy
    rcases hy with hy | hy
    · exact absurd rfl (S.nocell _ (PySem.mem_of_lookup hy))
    · have e : y = "__class__" := S.free _ (PySem.mem_of_lookup hy) rfl
      subst e
      exact ⟨cc, by show List.lookup _ [(("__class__" : Str), cc)] = _; simp [List.lookup]⟩
  · have hi : i < vs.length := by
      unfold L2.start at g2
      by_cases hi : i < vs.length
      · exact hi
      · rw [List.getElem?_append_right (by simpa using hi)] at g2
        rw [List.getElem?_replicate] at g2
        split at g2 <;> cases g2
    have ha : vs[i]? = some v := by
      unfold L2.start at g2
      rw [List.getElem?_append_left (by simpa using hi), List.getElem?_map] at g2
      cases e : vs[i]? with
      | none => rw [e] at g2; cases g2
      | some a => rw [e] at g2; cases g2; rfl
    obtain ⟨u, hu, rv⟩ := r.get ha
    have hp : ps[i]? = some y := by
      rw [← S.pre, List.getElem?_take_of_lt (by omega)]; exact g1
    have ndP : ps.Nodup := by rw [← S.pre]; exact S.nd.sublist (List.take_sublist _ _)
    have ul : us.length = ps.length := by rw [← r.length]; exact hl
    have hz : (ps.zip us)[i]? = some (y, u) := by rw [List.getElem?_zip_eq_some]; exact ⟨hp, hu⟩
    refine ⟨u, rv, .inl ⟨S.par y (List.mem_of_getElem? hp), lookup_nd ?_ (List.mem_reverse.mpr (List.mem_of_getElem? hz))⟩⟩
    rw [List.map_reverse]
    refine (List.Perm.nodup_iff (List.reverse_perm _)).mpr ?_
    rw [List.map_fst_zip (by omega)]
    exact ndP
  · obtain ⟨_, rfl⟩ := cl h
    exact ⟨cv, oc, hk _ _ hcs, hoc⟩
  · obtain ⟨_, rfl⟩ := cl h
    exact (e0.bs _ _ hcb).2
  · unfold L2.start
    show _ = N.length
    rw [List.length_append, List.length_map, List.length_replicate]
    omega
end
section
open PySem PySem.W PyProof.Rows L2 C8 PySem.Calls
/-- such a def in the written part: it closes over its class at D alone; fI = its address -/
structure FunS (P : Program) (K : PySem.W.Frag) (qual : Str) (st : Stmt) (fI : Addr) (fd : FuncData) (D : Addr) : Prop where
  ex : ∃ (oc : Value) (od : Option Addr) (kV doc pm : Value) (an : Option Addr) (cda : Addr) (ct : Value) (osl : Array (Option Value)) (cc : Addr) (cl : Value) (cld : Option Addr) (csl : Array (Option Value)) (ccl : Value) (cdd : Option Addr) (vs : Array Value) (ccs : Array (Option Value)) (file : Str) (tf : Tok),
    fd = fnX "__init__" qual (fnArgs st) (fnBody st) (fnScope st) [("__class__", cc)] .none kV doc pm an (.ref cda) ct ∧
    K.lookup fI = some ⟨oc, od, .func fd, osl⟩ ∧ codeIn K (.ref cda) qual = true ∧
    K.lookup cc = some ⟨cl, cld, .cell (some (.ref D)), csl⟩ ∧ K.lookup cda = some ⟨ccl, cdd, .fields vs, ccs⟩ ∧ vs[2]? = some (.str file tf) ∧ ((P.main.file : Str) == file) = true
theorem FunS.binds {P : Program} {K : PySem.W.Frag} {qual : Str} {st : Stmt} {fI D : Addr} {fd : FuncData} (F : FunS P K qual st fI fd D) {ps : List Str}
    (h : ∀ (kV doc pm : Value) (an : Option Addr) (cdv ct : Value) (cc : Addr) (us : List Value), us.length = ps.length → bindArgs (fnX "__init__" qual (fnArgs st) (fnBody st) (fnScope st) [("__class__", cc)] .none kV doc pm an cdv ct) ⟨us, []⟩ = pure (ps.zip us)) : L2.Binds K fd ps [] := by
  obtain ⟨oc, od, kV, doc, pm, an, cda, ct, osl, cc, _, _, _, _, _, _, _, _, _, rfl, _⟩ := F.ex
  exact .all (h kV doc pm an _ ct cc)
/-- what super() asks of the class at D, and of the next __init__ at f0 -/
structure SupOk (P : Program) (K : PySem.W.Frag) (mg : Str → Option Value) (D f0 : Addr) : Prop where
  cls : ∃ cd, clsIn K D = some cd
  along : ks_superIn K D D "__init__" = some (some (.ref f0))
  opq : nsIn K cStatics "thirdparty.any" = some none
  noS : mg "super" = none
  mro : mroIn K D (.ref D) = some true
  top : (P.main.scope.names.lookup ("super" : Str)).isSome = false
  tf : typeIn K (.ref f0) = some (.type "function")
  fi : fnIn K f0 = true
theorem sup_cls {K : PySem.W.Frag} {C D : Addr} {n : Str} {r : Option Value} (h : ks_superIn K C D n = some r) : ∃ cd, clsIn K C = some cd := by
  unfold ks_superIn at h
  cases e : clsIn K C with
  | none => rw [e] at h; cases h
  | some cd => exact ⟨cd, rfl⟩
theorem fn_super {P : Program} {w : World} {K : PySem.W.Frag} {mg : Str → Option Value} {base : Heap} {qual : Str} {st : Stmt} {f f0 D : Addr} {fd fd0 : FuncData} {N ps ps0 : List Str} {k k0 : Nat} {sp sp0 : Sp} {ds0 : List Value} {dvs0 : List V} {e : Expr} {es : List Expr} {rest : List Stmt} {p0 p1 p2 p3 p4 : Pos} {ar : Arg} {ar' : List Str} {pl : Env → Sem Bool}
    (F : FunS P K qual st f fd D) (S : SScope N ps (fnScope st)) (len : ∀ vs H Q E, sp vs H Q E → vs.length = ps.length) (U : SupOk P K mg D f0) (F0 : FnOk P w K mg base C8.CX0 k0 f0 fd0 ps0 sp0) (b0 : Binds K fd0 ps0 ds0) (d0 : Vals dvs0 ds0) (hk : k0 ≤ k)
    (hst : fnBody st = .Expr (.Call (.Attribute (.Call (.Name "super" p0) [] [] p1) "__init__" p2) (e :: es) [] p3) p4 :: rest)
    (har : ((fnArgs st).posonlyargs ++ (fnArgs st).args).head? = some ar) (hps : ps = ar.arg :: ar')
    (hks : (fnScope st).names.lookup ("super" : Str) = some .globalImplicit) (hkc : (fnScope st).names.lookup ("__class__" : Str) = some .free)
    (hev : ∀ env : Env, eval (.Call (.Attribute (.Call (.Name "super" p0) [] [] p1) "__init__" p2) (e :: es) [] p3) env = (do
      let ov ← attributeBase (.Call (.Name "super" p0) [] [] p1) "__init__" env (eval (.Call (.Name "super" p0) [] [] p1) env)
      standAt p2.atName
      let (f, first) ← holding [ov] (getMethod ov "__init__" (pl env))
      callWith p3 f first (backTo p3 (starEach (e :: es) env)) []))
    (hse : ∀ env : Env, starEach (e :: es) env = (false, eval e env) :: starEach es env) (hpl : ∀ env : Env, (backTo p3 (starEach es env)).any (·.1) = false)
    (hbody : ∀ (cdv : Value) (cc : Addr) (A : Around) (outer : List Env) (s : Shared) (H : Hp) (vs : List V) (Q : VK) (E : XK), Room k (A.deeper (ksEnv qual (fnScope st) s.heap.objs.size f cdv cc)) → sp vs H Q E →
      ∃ (t : TA) (tr : TS) (x dx : Addr) (fs : List (Str × V)) (ws : List V), vs = .ref x :: ws ∧ H x = some (.ins D dx fs) ∧ PA (cxS P w K mg base N qual (fnScope st) f cdv cc A outer s H) (e :: es) t ∧ PSs (cxS P w K mg base N qual (fnScope st) f cdv cc A outer s H) rest tr ∧
        ∀ q, H q = none → t (L2.start N vs) (upd H q (.met f0 x)) fun us H1 => H1 q = some (.met f0 x) ∧ sp0 ((.ref x :: us) ++ dvs0) H1 (fun _ H2 => tr { nx := fun _ H' => Q .non H', rt := Q } (L2.start N vs) H2) C8.E0) :
    FnOk P w K mg base C8.CX0 (k + 1) f fd ps sp := by
  refine ⟨len, fun A outer s H args us vs Q E hr e0 hb r hsp => ?_⟩
  obtain ⟨oc, od, kV, doc, pm, an, cda, ct, osl, cc, cl, cld, csl, ccl, cdd, cvs, ccs, file, tf, rfl, ho, hcd, hcc, hcda, hvs, hfile⟩ := F.ex
  have hl := len _ _ _ _ hsp
  have KX : K.In s.heap := e0.mod.kin.keeps fun b o e => (e0.bs b o e).1
  have lim : s.heap.NoLimit := e0.mod.nolimit.keeps fun b o e => (e0.bs b o e).1
  obtain ⟨t, tr, x, dx, fs, ws, rfl, hx, hA, hS, hrun⟩ := hbody (.ref cda) cc A outer s H vs Q E (hr.deeper _) hsp
  refine ks_codeAny_call_defAt hr.depth (KX _ _ ho) rfl lim (codeRec_of KX hcd) rfl hb S.nocell (fun y hy => S.par _ (List.of_mem_zip hy).1) (fun h1 hns kk => ?_) S.co S.gen S.kind
  have X1 : K.In h1 := KX.keeps kk
  have I : Inv (cxS P w K mg base N qual (fnScope st) f (.ref cda) cc A outer s H) [] (L2.start N (.ref x :: ws)) H { s with heap := h1, toks := s.toks + (ps.zip us).length } := inv_startS S hr.hd e0 hl r hcc rfl hns kk
  show PySem.wpAt _ (A.deeper (ksEnv qual (fnScope st) s.heap.objs.size f (.ref cda) cc)) (.func (fnBody st) (ksEnv qual (fnScope st) s.heap.objs.size f (.ref cda) cc)) (execs (fnBody st) (ksEnv qual (fnScope st) s.heap.objs.size f (.ref cda) cc)) _ _ _
  have hxo : h1.get? x = some (instObj D dx) := kk _ _ (e0.hok x _ hx).2.2.2.1
  obtain ⟨cd, hcls⟩ := U.cls
  obtain ⟨oD, hD1, hD2⟩ : ∃ oD, h1.get? D = some oD ∧ oD.data = .cls cd := by
    have hc := hcls
    unfold clsIn at hc
    split at hc
    · rename_i c d cd' sl ho'
      cases hc
      exact ⟨_, X1 _ _ ho', rfl⟩
    · cases hc
  have hxD : x ≠ D := fun z => by
    rw [z, hD1] at hxo
    rw [Option.some.inj hxo] at hD2
    cases hD2
  have hal := U.along
  unfold ks_superIn at hal
  rw [hcls] at hal
  obtain ⟨of, hof, hofc⟩ : ∃ of, h1.get? f0 = some of ∧ of.cls = .type "function" := by
    have ht' : (K.lookup f0).map (·.cls) = some (.type "function") := U.tf
    cases z : K.lookup f0 with
    | none => rw [z] at ht'; cases ht'
    | some of => rw [z] at ht'; exact ⟨of, X1 _ _ z, Option.some.inj ht'⟩
  obtain ⟨mb, hmb1, hmb2⟩ := e0.mod.blt
  have hg1 := (e0.mod.glob.keeps fun b o e => (e0.bs b o e).1).keeps kk
  have hb1 := (hmb1.keeps fun b o e => (e0.bs b o e).1).keeps kk
  have hsu : mb "super" = some (.type "super") := (hmb2 _ (by decide)).trans (by decide +kernel)
  have hself : (ps.zip us).reverse.lookup ar.arg = some (.ref x) := by
    have ndP : ps.Nodup := by rw [← S.pre]; exact S.nd.sublist (List.take_sublist _ _)
    have ul : us.length = ps.length := by rw [← r.length]; exact hl
    refine lookup_nd ?_ (List.mem_reverse.mpr ?_)
    · rw [List.map_reverse]
      refine (List.Perm.nodup_iff (List.reverse_perm _)).mpr ?_
      rw [List.map_fst_zip (by omega)]
      exact ndP
    · cases r with
      | cons r0 _ =>
        cases r0
        rw [hps]
        exact List.mem_cons_self ..
  rw [hst]
  refine ks_wpAt_execs_cons (ks_wpAt_Expr_any (ks_wpAt_MethodCall ?_ (hev _)) (by simp [interactive, S.kind]))
  rw [← hst]
  refine ks_wpAt_super_base (f := f) (cc := cda) (file := file) (tf := tf) (vs := cvs) (ar := ar) hks hkc (by decide) rfl (X1 _ _ ho) rfl har rfl (X1 _ _ hcda) rfl hvs hfile U.top ?_
  refine ks_loadName_global S.kind hks (loadGlobal_builtin hg1 U.noS hb1 hsu ⟨rfl, ?_⟩)
  refine wpAny_loadName_free S.kind hkc (c := cc) (by show List.lookup _ [(("__class__" : Str), cc)] = _; simp [List.lookup]) ⟨_, X1 _ _ hcc, rfl⟩ ?_
  refine wpAny_loadName_local S.kind (S.par _ (by rw [hps]; exact List.mem_cons_self ..)) hns hself ?_
  refine ks_wpAny_isType_cls hD1 hD2 ⟨rfl, ?_⟩
  refine ks_wpAny_call_super hD1 hD2 hxo rfl (fun c e => by cases e) (looks_mroIn X1 U.mro) (fun h2 e2 g2 => ?_)
  have X2 : K.In h2 := X1.keeps g2
  have I2 : Inv (cxS P w K mg base N qual (fnScope st) f (.ref cda) cc A outer s H) [] (L2.start N (.ref x :: ws)) H { s with heap := h2, toks := s.toks + (ps.zip us).length } := I.kept (t' := s.toks + (ps.zip us).length) g2
  refine ks_wpAny_getMethod_super e2 (looks_opaque X2 U.opq) (l₀ := cd.mro) (fun A Q E s k q => wpAny_bind ((looks_clsIn X2 hcls) A _ E s k (wpAny_pure q))) rfl X2 hal (g2 _ _ hof) hofc hxD (by decide) ?_
  have hq0 : H h2.objs.size = none := I2.hok.fresh (Nat.le_refl _)
  have I3 := I2.laid (t' := s.toks + (ps.zip us).length + 1) (a := h2.objs.size) (o := .met f0 x) (fun b u z => Heap.get?_push_of_some _ z) (Nat.le_refl _)
    (show (h2.push (methodObj (.ref f0) (.ref x))).get? h2.objs.size = some (methodObj (.ref f0) (.ref x)) from Heap.get?_push_size h2 rfl)
  have hq1 := hrun _ hq0
  generalize hq : h2.objs.size = q at *
  refine wpAny_mono (E := fun _ _ => False) (callWith_of (P := MethP K q f0 (.ref x)) (by rw [hse]; show ((false || (backTo p3 (starEach es _)).any (·.1)) || false) = false; rw [hpl]; rfl) (keeps_M U.fi) ?_) (fun _ _ z => z) (fun _ _ z => z.elim)
  rw [hse]
  have hE : ∀ {env : Env} {M : Model} {A : Around} {R : List Value → Shared → Prop} {E : Value → Shared → Prop} {s : Shared}, wpAny M A (spliced (backTo p3 (starEach (e :: es) env))) R E s → wpAny M A (spliced (backTo p3 ((false, eval e env) :: starEach es env))) R E s := fun h => by rw [← hse]; exact h
  refine evalArgs_plain (hE ?_)
  refine thn (hA.run p3 [] _ _ _ _ I3 hq1) fun us2 s4 ⟨vs2, H4, I4, r4, hq4, hsp4⟩ => ?_
  refine ⟨met_P I4 hq4, ?_⟩
  show wpAny _ _ (call (.ref q) us2) _ _ _
  have r2 : Vals ((.ref x :: vs2) ++ dvs0) ((.ref x :: us2) ++ ds0) := Vals.append (.cons rfl r4) d0
  have hl2 : ((Value.ref x :: us2) ++ ds0).length = ps0.length := by rw [← r2.length]; exact F0.len _ _ _ _ hsp4
  refine wpAny_call (method_call (met_P I4 hq4).1 (codeAny_mono (F0.run _ _ s4 H4 ⟨.ref x :: us2, []⟩ ((.ref x :: us2) ++ ds0) ((.ref x :: vs2) ++ dvs0) _ C8.E0 ((hr.deeper _).mono hk) I4.env0 (b0 s4 (.ref x :: us2) I4.kIn hl2) r2 hsp4) (fun rr s5 hq5 => ?_)))
  cases rr with
  | error e => exact hq5.elim
  | ok fl =>
    cases fl with
    | next => exact False.elim hq5
    | brk => exact False.elim hq5
    | cont => exact False.elim hq5
    | ret u =>
      obtain ⟨v5, H5, I5, rv5, htr⟩ := I4.after hq5
      refine wpAt_of_wpAny (wpAny_mono (hS.run [] s5 _ H5 _ I5 htr) (fun fl s6 hs => ?_) (fun _ _ z => z.elim))
      have fin : ∀ {σ' : L2.St} {H' : Hp} {v : V} {u : Value}, Inv (cxS P w K mg base N qual (fnScope st) f (.ref cda) cc A outer s H) [] σ' H' s6 → RelV v u → Q v H' → CE outer P w H s Q u s6 :=
        fun {σ' H' v u} J rv q => ⟨v, H', J.os, J.bare, J.base, J.hok, rv, q⟩
      cases fl with
      | ret u =>
        obtain ⟨v, σ', H', J, rv, q⟩ := hs
        exact fin J rv q
      | next =>
        obtain ⟨σ', H', J, q⟩ := hs
        exact fin (v := V.non) (u := Value.none) J rfl q
      | brk =>
        obtain ⟨_, _, _, q⟩ := hs
        exact False.elim q
      | cont =>
        obtain ⟨_, _, _, q⟩ := hs
        exact False.elim q
end

/-! the text by places -/
def top (i : Nat) : Stmt := PySem.Challenge.pw_bothgain_k75_compiled_brains_think_alike.main.body.getD i (.Pass ⟨0, 0, 0, 0⟩)
abbrev s_Tape___init : Stmt := L2.inClass (top 10) 0
theorem sc_Tape___init : FnScope ["self", "results"] ["self", "results"] (fnScope s_Tape___init) := fnScope_by (by decide +kernel)
abbrev s_Tape_take : Stmt := L2.inClass (top 10) 1
theorem sc_Tape_take : FnScope ["self", "count", "result"] ["self", "count"] (fnScope s_Tape_take) := fnScope_by (by decide +kernel)
abbrev s_Brain___init : Stmt := L2.inClass (top 21) 0
theorem sc_Brain___init : FnScope ["self", "units", "cells", "block", "answer"] ["self", "units", "cells", "block", "answer"] (fnScope s_Brain___init) := fnScope_by (by decide +kernel)
abbrev s_Brain_start : Stmt := L2.inClass (top 21) 2
theorem sc_Brain_start : FnScope ["self", "row"] ["self"] (fnScope s_Brain_start) := fnScope_by (by decide +kernel)
abbrev s_Mind___init : Stmt := L2.inClass (top 38) 0
theorem sc_Mind___init : FnScope ["self", "units", "cells", "code"] ["self", "units", "cells", "code"] (fnScope s_Mind___init) := fnScope_by (by decide +kernel)
abbrev s_Thinker___init : Stmt := L2.inClass (top 14) 0
theorem sc_Thinker___init : FnScope ["self", "brain", "cells", "seen", "tape", "row", "value"] ["self", "brain", "cells", "seen", "tape"] (fnScope s_Thinker___init) := fnScope_by (by decide +kernel)
abbrev s_Thinker_value : Stmt := L2.inClass (top 14) 1
theorem sc_Thinker_value : FnScope ["self", "expression"] ["self", "expression"] (fnScope s_Thinker_value) := fnScope_by (by decide +kernel)
abbrev s_Thinker_unit : Stmt := L2.inClass (top 14) 2
theorem sc_Thinker_unit : FnScope ["self"] ["self"] (fnScope s_Thinker_unit) := fnScope_by (by decide +kernel)
abbrev s_Thinker_run : Stmt := L2.inClass (top 14) 3
theorem sc_Thinker_run : FnScope ["self", "block", "statement"] ["self", "block"] (fnScope s_Thinker_run) := fnScope_by (by decide +kernel)
abbrev s_Thinker_step : Stmt := L2.inClass (top 14) 4
theorem sc_Thinker_step : FnScope ["self", "statement", "kind", "value"] ["self", "statement"] (fnScope s_Thinker_step) := fnScope_by (by decide +kernel)
abbrev s_Thinker_loop : Stmt := L2.inClass (top 14) 5
theorem sc_Thinker_loop : FnScope ["self", "test", "block"] ["self", "test", "block"] (fnScope s_Thinker_loop) := fnScope_by (by decide +kernel)
abbrev s_view_numbers : Stmt := top 13
theorem sc_view_numbers : FnScope ["view", "numbers", "event"] ["view"] (fnScope s_view_numbers) := fnScope_by (by decide +kernel)
abbrev s_think : Stmt := top 15
theorem sc_think : FnScope ["brain", "cells", "view", "count", "tape", "thinker", "answer", "row"] ["brain", "cells", "view", "count", "tape"] (fnScope s_think) := fnScope_by (by decide +kernel)
abbrev s_combine : Stmt := top 7
theorem sc_combine : FnScope ["sign", "left", "right"] ["sign", "left", "right"] (fnScope s_combine) := fnScope_by (by decide +kernel)
abbrev s_value_of : Stmt := top 8
theorem sc_value_of : FnScope ["expression", "table", "on", "seen", "kind", "at", "chosen", "left", "right"] ["expression", "table", "on", "seen"] (fnScope s_value_of) := fnScope_by (by decide +kernel)
abbrev s_expression_code : Stmt := top 33
theorem sc_expression_code : FnScope ["expression", "slots", "on", "kind", "chosen", "left", "right"] ["expression", "slots", "on"] (fnScope s_expression_code) := fnScope_by (by decide +kernel)
abbrev s_branch_code : Stmt := top 34
theorem sc_branch_code : FnScope ["test", "then", "other"] ["test", "then", "other"] (fnScope s_branch_code) := fnScope_by (by decide +kernel)
abbrev s_thoughts_code : Stmt := top 35
theorem sc_thoughts_code : FnScope ["block", "slots", "code", "statement", "kind", "test", "inner"] ["block", "slots"] (fnScope s_thoughts_code) := fnScope_by (by decide +kernel)
abbrev s_brain_code : Stmt := top 36
theorem sc_brain_code : FnScope ["block", "answer", "slots"] ["block", "answer", "slots"] (fnScope s_brain_code) := fnScope_by (by decide +kernel)
abbrev s_names_of : Stmt := top 39
theorem sc_names_of : FnScope ["rows", "row"] ["rows"] (fnScope s_names_of) := fnScope_by (by decide +kernel)
abbrev s_mind_of : Stmt := top 40
theorem sc_mind_of : FnScope ["brain", "code"] ["brain"] (fnScope s_mind_of) := fnScope_by (by decide +kernel)
abbrev s_Frame___init : Stmt := L2.inClass (top 17) 0
theorem sc_Frame___init : FnScope ["self", "code", "table", "tape"] ["self", "code", "table", "tape"] (fnScope s_Frame___init) := fnScope_by (by decide +kernel)
abbrev s_Frame_advance : Stmt := L2.inClass (top 17) 1
theorem sc_Frame_advance : FnScope ["self", "name", "argument", "right", "left"] ["self"] (fnScope s_Frame_advance) := fnScope_by (by decide +kernel)
abbrev s_Thinking___init : Stmt := L2.inClass (top 18) 0
theorem sc_Thinking___init : SScope ["self", "mind", "cells", "view", "tape"] ["self", "mind", "cells", "view", "tape"] (fnScope s_Thinking___init) := sScope_by (by decide +kernel)
abbrev s_Thinking_special : Stmt := L2.inClass (top 18) 1
theorem sc_Thinking_special : FnScope ["self", "name", "argument", "count", "at"] ["self", "name", "argument"] (fnScope s_Thinking_special) := fnScope_by (by decide +kernel)
abbrev s_think_by_code : Stmt := top 19
theorem sc_think_by_code : FnScope ["mind", "cells", "view", "count", "tape", "frame", "answer"] ["mind", "cells", "view", "count", "tape"] (fnScope s_think_by_code) := fnScope_by (by decide +kernel)
abbrev s_argument_fits : Stmt := top 27
theorem sc_argument_fits : FnScope ["instruction", "slots", "moves", "name", "argument"] ["instruction", "slots", "moves"] (fnScope s_argument_fits) := fnScope_by (by decide +kernel)
abbrev s_targets_of : Stmt := top 28
theorem sc_targets_of : FnScope ["at", "instruction", "name", "argument"] ["at", "instruction"] (fnScope s_targets_of) := fnScope_by (by decide +kernel)
abbrev s_Checker___init : Stmt := L2.inClass (top 29) 0
theorem sc_Checker___init : FnScope ["self", "code", "slots", "moves", "thinking"] ["self", "code", "slots", "moves", "thinking"] (fnScope s_Checker___init) := fnScope_by (by decide +kernel)
abbrev s_Checker_reaches : Stmt := L2.inClass (top 29) 3
theorem sc_Checker_reaches : FnScope ["self", "targets", "height", "target"] ["self", "targets", "height"] (fnScope s_Checker_reaches) := fnScope_by (by decide +kernel)
abbrev s_Checker_returns : Stmt := L2.inClass (top 29) 2
theorem sc_Checker_returns : FnScope ["self", "at", "target"] ["self", "at", "target"] (fnScope s_Checker_returns) := fnScope_by (by decide +kernel)
abbrev s_Checker_good : Stmt := L2.inClass (top 29) 1
theorem sc_Checker_good : FnScope ["self", "at", "names", "instruction", "takes", "gives", "height", "after"] ["self", "at"] (fnScope s_Checker_good) := fnScope_by (by decide +kernel)
abbrev s_check_code : Stmt := top 30
theorem sc_check_code : FnScope ["code", "slots", "moves", "thinking", "checker", "at"] ["code", "slots", "moves", "thinking"] (fnScope s_check_code) := fnScope_by (by decide +kernel)
abbrev s_check_mind : Stmt := top 31
theorem sc_check_mind : FnScope ["mind"] ["mind"] (fnScope s_check_mind) := fnScope_by (by decide +kernel)
abbrev s_law_pool : Stmt := top 42
theorem sc_law_pool : FnScope ["script", "budget"] ["script", "budget"] (fnScope s_law_pool) := fnScope_by (by decide +kernel)
abbrev s_law_draw : Stmt := top 43
theorem sc_law_draw : FnScope ["pool", "size", "cell", "value"] ["pool", "size"] (fnScope s_law_draw) := fnScope_by (by decide +kernel)
abbrev s_law_spend : Stmt := top 44
theorem sc_law_spend : FnScope ["pool"] ["pool"] (fnScope s_law_spend) := fnScope_by (by decide +kernel)
abbrev s_law_few : Stmt := top 45
theorem sc_law_few : FnScope ["pool", "most", "few"] ["pool", "most"] (fnScope s_law_few) := fnScope_by (by decide +kernel)
abbrev s_law_number : Stmt := top 46
theorem sc_law_number : FnScope ["pool"] ["pool"] (fnScope s_law_number) := fnScope_by (by decide +kernel)
abbrev s_law_same : Stmt := top 47
theorem sc_law_same : FnScope ["actual", "due", "k"] ["actual", "due"] (fnScope s_law_same) := fnScope_by (by decide +kernel)
abbrev s_law_keys : Stmt := top 48
theorem sc_law_keys : FnScope ["text"] [] (fnScope s_law_keys) := fnScope_by (by decide +kernel)
abbrev s_law_name : Stmt := top 49
theorem sc_law_name : FnScope ["pool", "taken", "signs", "name", "k"] ["pool", "taken"] (fnScope s_law_name) := fnScope_by (by decide +kernel)
abbrev s_law_names : Stmt := top 50
theorem sc_law_names : FnScope ["pool", "most", "names", "k"] ["pool", "most"] (fnScope s_law_names) := fnScope_by (by decide +kernel)
abbrev s_law_expression : Stmt := top 51
theorem sc_law_expression : FnScope ["pool", "names", "deep", "kind", "sign", "left"] ["pool", "names", "deep"] (fnScope s_law_expression) := fnScope_by (by decide +kernel)
abbrev s_law_thoughts : Stmt := top 52
theorem sc_law_thoughts : FnScope ["pool", "names", "deep", "loops", "block", "k"] ["pool", "names", "deep", "loops"] (fnScope s_law_thoughts) := fnScope_by (by decide +kernel)
abbrev s_law_thought : Stmt := top 53
theorem sc_law_thought : FnScope ["pool", "names", "deep", "loops", "kind", "test", "then", "name"] ["pool", "names", "deep", "loops"] (fnScope s_law_thought) := fnScope_by (by decide +kernel)
abbrev s_law_brain : Stmt := top 54
theorem sc_law_brain : FnScope ["pool", "units", "loops", "names", "cells", "block", "name"] ["pool", "units", "loops"] (fnScope s_law_brain) := fnScope_by (by decide +kernel)
abbrev s_law_view : Stmt := top 55
theorem sc_law_view : FnScope ["pool", "view", "k", "kind", "many"] ["pool"] (fnScope s_law_view) := fnScope_by (by decide +kernel)
abbrev s_law_count : Stmt := top 56
theorem sc_law_count : FnScope ["pool", "view", "count"] ["pool", "view"] (fnScope s_law_count) := fnScope_by (by decide +kernel)
abbrev s_law : Stmt := top 57
theorem sc_law : FnScope ["script", "pool", "row", "brain", "mind", "results", "tapes", "cells", "k", "view", "count", "due", "actual"] ["script"] (fnScope s_law) := fnScope_by (by decide +kernel)
/-- what the walk asks of the module -/
structure Txt (K : PySem.W.Frag) (mg : Str → Option Value) (C_Tape : Addr) (C_Thinker : Addr) (C_Brain : Addr) (C_Mind : Addr) (C_Frame : Addr) (C_Thinking : Addr) (C_Checker : Addr) (T_EVENTS : Addr) (T_SIGNS : Addr) (T_ROUND_NAMES : Addr) (T_BRAIN_NAMES : Addr) (T_EFFECTS : Addr) : Prop where
  n_bool : mg "bool" = none
  n_int : mg "int" = none
  n_isinstance : mg "isinstance" = none
  n_len : mg "len" = none
  n_list : mg "list" = none
  n_max : mg "max" = none
  n_min : mg "min" = none
  n_range : mg "range" = none
  n_str : mg "str" = none
  n_tuple : mg "tuple" = none
  n_zip : mg "zip" = none
  cl_Tape : Cls K C_Tape
  m_Tape : mg "Tape" = some (.ref C_Tape)
  i_Tape : InsC K C_Tape
  a_Tape_results : NoAttr K C_Tape "results"
  a_Tape_taken : NoAttr K C_Tape "taken"
  cl_Thinker : Cls K C_Thinker
  m_Thinker : mg "Thinker" = some (.ref C_Thinker)
  i_Thinker : InsC K C_Thinker
  a_Thinker_table : NoAttr K C_Thinker "table"
  a_Thinker_left : NoAttr K C_Thinker "left"
  a_Thinker_seen : NoAttr K C_Thinker "seen"
  a_Thinker_tape : NoAttr K C_Thinker "tape"
  cl_Brain : Cls K C_Brain
  m_Brain : mg "Brain" = some (.ref C_Brain)
  i_Brain : InsC K C_Brain
  a_Brain_units : NoAttr K C_Brain "units"
  a_Brain_cells : NoAttr K C_Brain "cells"
  a_Brain_block : NoAttr K C_Brain "block"
  a_Brain_answer : NoAttr K C_Brain "answer"
  cl_Mind : Cls K C_Mind
  m_Mind : mg "Mind" = some (.ref C_Mind)
  i_Mind : InsC K C_Mind
  a_Mind_units : NoAttr K C_Mind "units"
  a_Mind_cells : NoAttr K C_Mind "cells"
  a_Mind_code : NoAttr K C_Mind "code"
  cl_Frame : Cls K C_Frame
  m_Frame : mg "Frame" = some (.ref C_Frame)
  i_Frame : InsC K C_Frame
  a_Frame_code : NoAttr K C_Frame "code"
  a_Frame_table : NoAttr K C_Frame "table"
  a_Frame_tape : NoAttr K C_Frame "tape"
  a_Frame_at : NoAttr K C_Frame "at"
  a_Frame_stack : NoAttr K C_Frame "stack"
  a_Frame_steps : NoAttr K C_Frame "steps"
  cl_Thinking : Cls K C_Thinking
  m_Thinking : mg "Thinking" = some (.ref C_Thinking)
  i_Thinking : InsC K C_Thinking
  a_Thinking_code : NoAttr K C_Thinking "code"
  a_Thinking_table : NoAttr K C_Thinking "table"
  a_Thinking_tape : NoAttr K C_Thinking "tape"
  a_Thinking_at : NoAttr K C_Thinking "at"
  a_Thinking_stack : NoAttr K C_Thinking "stack"
  a_Thinking_steps : NoAttr K C_Thinking "steps"
  a_Thinking_left : NoAttr K C_Thinking "left"
  a_Thinking_seen : NoAttr K C_Thinking "seen"
  a_Thinking_silent : NoAttr K C_Thinking "silent"
  a_Thinking_done : NoAttr K C_Thinking "done"
  cl_Checker : Cls K C_Checker
  m_Checker : mg "Checker" = some (.ref C_Checker)
  i_Checker : InsC K C_Checker
  a_Checker_code : NoAttr K C_Checker "code"
  a_Checker_slots : NoAttr K C_Checker "slots"
  a_Checker_moves : NoAttr K C_Checker "moves"
  a_Checker_thinking : NoAttr K C_Checker "thinking"
  a_Checker_heights : NoAttr K C_Checker "heights"
  a_Checker_highest : NoAttr K C_Checker "highest"
  v_GREATEST : ∃ u, mg "GREATEST" = some u ∧ RelV (.int 65535) u
  v_EVENTS : ∃ u, mg "EVENTS" = some u ∧ RelV (.ref T_EVENTS) u
  q_EVENTS : ∀ H : Hp, SqT K H T_EVENTS ((["round", "told", "move", "did"] : List Str).map V.str)
  d_EVENTS : ∃ o, K.lookup T_EVENTS = some o ∧ o.cls = .type "tuple" ∧ o.dict = none
  v_SIGNS : ∃ u, mg "SIGNS" = some u ∧ RelV (.ref T_SIGNS) u
  q_SIGNS : ∀ H : Hp, SqT K H T_SIGNS ((["+", "-", "*", "/", "mod", "<", "="] : List Str).map V.str)
  d_SIGNS : ∃ o, K.lookup T_SIGNS = some o ∧ o.cls = .type "tuple" ∧ o.dict = none
  v_HIGHEST : ∃ u, mg "HIGHEST" = some u ∧ RelV (.int 16) u
  v_ROUND_NAMES : ∃ u, mg "ROUND_NAMES" = some u ∧ RelV (.ref T_ROUND_NAMES) u
  q_ROUND_NAMES : ∀ H : Hp, SqT K H T_ROUND_NAMES ((["push", "load", "store", "sign", "jump", "skip", "lot", "end", "ask", "show", "pay", "take"] : List Str).map V.str)
  d_ROUND_NAMES : ∃ o, K.lookup T_ROUND_NAMES = some o ∧ o.cls = .type "tuple" ∧ o.dict = none
  v_BRAIN_NAMES : ∃ u, mg "BRAIN_NAMES" = some u ∧ RelV (.ref T_BRAIN_NAMES) u
  q_BRAIN_NAMES : ∀ H : Hp, SqT K H T_BRAIN_NAMES ((["push", "load", "store", "sign", "jump", "skip", "lot", "end", "view", "long", "unit", "back"] : List Str).map V.str)
  d_BRAIN_NAMES : ∃ o, K.lookup T_BRAIN_NAMES = some o ∧ o.cls = .type "tuple" ∧ o.dict = none
  v_EFFECTS : ∃ u, mg "EFFECTS" = some u ∧ RelV (.ref T_EFFECTS) u
  ok : True
/-! ratios: an own object of two ints -/
theorem kND : ¬ (("num" : Str) = "den") := by decide +kernel
theorem kDN : ¬ (("den" : Str) = "num") := by decide +kernel
def rf (n d : Int) : List (Str × V) := putF "den" (.int d) (putF "num" (.int n) [])
theorem rf_num (n d : Int) : (rf n d).lookup ("num" : Str) = some (.int n) := by
  unfold rf
  rw [lookup_putF, if_neg kND, lookup_putF, if_pos rfl]
theorem rf_den (n d : Int) : (rf n d).lookup ("den" : Str) = some (.int d) := by
  unfold rf
  rw [lookup_putF, if_pos rfl]
theorem rf_no (n d : Int) {m : Str} (h1 : ¬ m = "num") (h2 : ¬ m = "den") : (rf n d).lookup m = none := by
  unfold rf
  rw [lookup_putF, if_neg h2, lookup_putF, if_neg h1]; rfl
/-- a Ratio stands at p -/
def RatAt (C : Addr) (H : Hp) (p : Addr) (n d : Int) : Prop := ∃ dx, H p = some (.ins C dx (rf n d))
theorem RatAt.keep {C p : Addr} {H H' : Hp} {W : List Addr} {n d : Int} (h : RatAt C H p n d) (k : Keep W H H') (w : p ∉ W) : RatAt C H' p n d := by
  obtain ⟨dx, h⟩ := h
  exact ⟨dx, k _ _ h w⟩
theorem RatAt.keep0 {C p : Addr} {H H' : Hp} {n d : Int} (h : RatAt C H p n d) (k : Keep [] H H') : RatAt C H' p n d := h.keep k (by simp)
/-- the sign of the divisor stands with the common part -/
def sg (n d : Int) : Int := if d < 0 then -((Nat.gcd n.natAbs d.natAbs : Nat) : Int) else ((Nat.gcd n.natAbs d.natAbs : Nat) : Int)
def redN (n d : Int) : Int := n.fdiv (sg n d)
def redD (n d : Int) : Int := d.fdiv (sg n d)
theorem gcd_pos_of {n d : Int} (h : d ≠ 0) : 0 < Nat.gcd n.natAbs d.natAbs := Nat.gcd_pos_of_pos_right _ (by omega)
theorem sg_ne {n d : Int} (h : d ≠ 0) : sg n d ≠ 0 := by
  have := gcd_pos_of (n := n) h
  unfold sg
  split <;> omega
theorem sg_dvd_n (n d : Int) : sg n d ∣ n := by
  have h : ((Nat.gcd n.natAbs d.natAbs : Nat) : Int) ∣ n := Int.ofNat_dvd_left.mpr (Nat.gcd_dvd_left _ _)
  unfold sg
  split
  · exact Int.neg_dvd.mpr h
  · exact h
theorem sg_dvd_d (n d : Int) : sg n d ∣ d := by
  have h : ((Nat.gcd n.natAbs d.natAbs : Nat) : Int) ∣ d := Int.ofNat_dvd_left.mpr (Nat.gcd_dvd_right _ _)
  unfold sg
  split
  · exact Int.neg_dvd.mpr h
  · exact h
theorem fdiv_of_mul {m c s : Int} (hs : s ≠ 0) (h : m = s * c) : m.fdiv s = c := by
  subst h; exact Int.mul_fdiv_cancel_left c hs
theorem red_n {n d : Int} (h : d ≠ 0) : redN n d * sg n d = n := by
  obtain ⟨c, hc⟩ := sg_dvd_n n d
  unfold redN
  rw [fdiv_of_mul (sg_ne h) hc, Int.mul_comm]; exact hc.symm
theorem red_d {n d : Int} (h : d ≠ 0) : redD n d * sg n d = d := by
  obtain ⟨c, hc⟩ := sg_dvd_d n d
  unfold redD
  rw [fdiv_of_mul (sg_ne h) hc, Int.mul_comm]; exact hc.symm
theorem redD_pos {n d : Int} (h : d ≠ 0) : 0 < redD n d := by
  have e := red_d (n := n) h
  have g := gcd_pos_of (n := n) h
  have hne : redD n d ≠ 0 := fun z => by rw [z, Int.zero_mul] at e; exact h e.symm
  rcases Int.lt_or_gt_of_ne hne with hl | hl
  · exfalso
    unfold sg at e
    split at e
    · rename_i hd
      have : 0 ≤ redD n d * -((Nat.gcd n.natAbs d.natAbs : Nat) : Int) := Int.mul_nonneg_of_nonpos_of_nonpos (by omega) (by omega)
      omega
    · rename_i hd
      have : redD n d * ((Nat.gcd n.natAbs d.natAbs : Nat) : Int) < 0 := Int.mul_neg_of_neg_of_pos hl (by omega)
      omega
  · exact hl
/-- the same ratio -/
theorem red_cross {n d : Int} (h : d ≠ 0) : redN n d * d = n * redD n d := by
  have e1 := red_n (n := n) h
  have e2 := red_d (n := n) h
  calc redN n d * d = redN n d * (redD n d * sg n d) := by rw [e2]
    _ = redN n d * sg n d * redD n d := by rw [Int.mul_comm (redD n d), Int.mul_assoc]
    _ = n * redD n d := by rw [e1]
theorem red_gcd {n d : Int} (h : d ≠ 0) : Nat.gcd (redN n d).natAbs (redD n d).natAbs = 1 := by
  have e1 : (redN n d).natAbs * (sg n d).natAbs = n.natAbs := by rw [← Int.natAbs_mul, red_n h]
  have e2 : (redD n d).natAbs * (sg n d).natAbs = d.natAbs := by rw [← Int.natAbs_mul, red_d h]
  have e3 : (sg n d).natAbs = Nat.gcd n.natAbs d.natAbs := by unfold sg; split <;> omega
  have e4 := Nat.gcd_mul_right (redN n d).natAbs (sg n d).natAbs (redD n d).natAbs
  rw [e1, e2, e3] at e4
  have g := gcd_pos_of (n := n) h
  exact Nat.eq_of_mul_eq_mul_right g (by omega)
theorem red_abs_n {n d : Int} (h : d ≠ 0) : (redN n d).natAbs ≤ n.natAbs := by
  have e1 : (redN n d).natAbs * (sg n d).natAbs = n.natAbs := by rw [← Int.natAbs_mul, red_n h]
  have : 0 < (sg n d).natAbs := by have := sg_ne (n := n) h; omega
  rw [← e1]
  exact Nat.le_mul_of_pos_right _ this
theorem red_dvd {n d : Int} (h : d ≠ 0) : redD n d ∣ d := ⟨sg n d, (red_d h).symm⟩
/-- what the rules ask of numbers below a power of two -/
theorem log2_lt9 {i : Int} {b : Nat} (h : i.natAbs < 2 ^ b) (h0 : 0 < b) : i.natAbs.log2 < b := PySem.Flt.log2_lt_of h0 h
section
variable {X : Cx}
def CDivG (_ j : Int) : Prop := j ≠ 0 ∧ j.natAbs.log2 < 9000
theorem op_fdivG : OpR X (binaryOp .FloorDiv) (rI CDivG fun i j => .int (i.fdiv j)) := opI fun i j _ _ _ _ _ hc q =>
  PyProof.Rows.floordiv_int hc.1 q (.inl (PyProof.noPylong_of_log2 hc.2))
def CPowB (i j : Int) : Prop := 2 ≤ i.natAbs ∧ 1 ≤ j ∧ (Builtin.Int.intBits i : Int) * j ≤ 100000000
theorem op_mulO : OpR X (binaryOp .Mult) (rI IntMulOk fun i j => .int (i * j)) := opI fun _ _ _ _ _ _ _ hc q => PyProof.Rows.mul_int q hc
end
def sp_rat (C : Addr) : Sp := fun vs H Q _ => ∃ (x dx : Addr) (n d : Int), vs = [.ref x, .int n, .int d] ∧ d ≠ 0 ∧ d.natAbs < 2 ^ 8000 ∧ H x = some (.ins C dx []) ∧
  ∀ H', Keep [x] H H' → H' x = some (.ins C dx (rf (redN n d) (redD n d))) → Q .non H'

/-! the law's draws, the script and the budget in one: what does not spend keeps both -/
abbrev PoolT := List Int × Int
def Pool (H : Hp) (p q : Addr) (ns : PoolT) : Prop := ∃ (i1 i2 i3 i4 : Int), H p = some (.lst [.ref q, .int i1, .int i2, .int i3, .int i4, .int ns.2]) ∧ H q = some (.lst (ns.1.map V.int)) ∧ q ≠ p ∧ 0 ≤ i1
theorem Pool.some {H : Hp} {p q : Addr} {ns : PoolT} (h : Pool H p q ns) : ∃ o, H p = Option.some o := by
  obtain ⟨i1, i2, i3, i4, h, _⟩ := h
  exact ⟨_, h⟩
theorem Pool.some2 {H : Hp} {p q : Addr} {ns : PoolT} (h : Pool H p q ns) : ∃ o, H q = Option.some o := by
  obtain ⟨i1, i2, i3, i4, _, h, _⟩ := h
  exact ⟨_, h⟩
theorem Pool.lst {H : Hp} {p q : Addr} {ns : PoolT} (h : Pool H p q ns) : ∃ xs, H p = Option.some (.lst xs) := by
  obtain ⟨i1, i2, i3, i4, h, _⟩ := h
  exact ⟨_, h⟩
theorem Pool.keep {H H' : Hp} {p q : Addr} {ns : PoolT} {W : List Addr} (h : Pool H p q ns) (k : Keep W H H') (w : ∀ b, b ∈ W → H b = none) : Pool H' p q ns := by
  obtain ⟨i1, i2, i3, i4, h1, h2, h3, h4⟩ := h
  have no : ∀ b o, H b = Option.some o → b ∉ W := fun b o e z => by rw [w b z] at e; cases e
  exact ⟨i1, i2, i3, i4, k _ _ h1 (no _ _ h1), k _ _ h2 (no _ _ h2), h3, h4⟩
theorem Pool.keep0 {H H' : Hp} {p q : Addr} {ns : PoolT} (h : Pool H p q ns) (k : Keep [] H H') : Pool H' p q ns := h.keep k fun _ z => by cases z
theorem Pool.new {H : Hp} {p q a : Addr} {ns : PoolT} {o : HO} (h : Pool H p q ns) (n : H a = none) : Pool (upd H a o) p q ns := h.keep0 (Keep.new n)
theorem Pool.own {H : Hp} {p q a : Addr} {ns : PoolT} {o : HO} (h : Pool H p q ns) (h1 : a ≠ p) (h2 : a ≠ q) : Pool (upd H a o) p q ns := by
  obtain ⟨i1, i2, i3, i4, g1, g2, g3, g4⟩ := h
  exact ⟨i1, i2, i3, i4, by rw [upd_ne h1.symm]; exact g1, by rw [upd_ne h2.symm]; exact g2, g3, g4⟩
theorem Pool.free {H H' : Hp} {p q l : Addr} {ns : PoolT} (P : Pool H' p q ns) (e : Keep [p] H H') (h : H' l = none) : H l = none := by
  obtain ⟨o, ho⟩ := P.some
  exact e.free1 ho h
theorem Pool.nep {H : Hp} {p q l : Addr} {ns : PoolT} (P : Pool H p q ns) (h : H l = none) : l ≠ p := by
  obtain ⟨o, ho⟩ := P.some
  exact (ne_of_none ho h).symm
theorem Pool.neq {H : Hp} {p q l : Addr} {ns : PoolT} (P : Pool H p q ns) (h : H l = none) : l ≠ q := by
  obtain ⟨o, ho⟩ := P.some2
  exact (ne_of_none ho h).symm
def sp_law_pool (K : PySem.W.Frag) : Sp := fun vs H Q _ => ∃ (a : Addr) (ns : PoolT), vs = [.ref a, .int ns.2] ∧ SqL K H a (ns.1.map V.int) ∧
  ∀ p q H', H p = none → Pool H' p q ns → Keep [] H H' → Q (.ref p) H'
def sp_law_draw : Sp := fun vs H Q _ => ∃ (p q : Addr) (ns : PoolT) (size : Int), vs = [.ref p, .int size] ∧ 0 < size ∧ size < 2 ^ 60 ∧ Pool H p q ns ∧
  ∀ r H', 0 ≤ r → r < size → Pool H' p q ns → Keep [p] H H' → Q (.int r) H'
def sp_law_spend : Sp := fun vs H Q _ => ∃ p q ns, vs = [.ref p] ∧ Pool H p q ns ∧ ∀ H', Pool H' p q (ns.1, ns.2 - 1) → Keep [p] H H' → Q (.bl (decide (ns.2 - 1 ≥ 0))) H'
section
variable {P : Program} {w : World} {K : PySem.W.Frag} {mg : Str → Option Value} {base : Heap} {C_Tape : Addr} {C_Thinker : Addr} {C_Brain : Addr} {C_Mind : Addr} {C_Frame : Addr} {C_Thinking : Addr} {C_Checker : Addr} {T_EVENTS : Addr} {T_SIGNS : Addr} {T_ROUND_NAMES : Addr} {T_BRAIN_NAMES : Addr} {T_EFFECTS : Addr}
theorem ok_law_pool {f : Addr} {fd : FuncData} (D : C8.Def K mg "_law_pool" s_law_pool f fd) (b : Binds K fd ["script", "budget"] []) (T : Txt K mg C_Tape C_Thinker C_Brain C_Mind C_Frame C_Thinking C_Checker T_EVENTS T_SIGNS T_ROUND_NAMES T_BRAIN_NAMES T_EFFECTS) : C8.Cal P w K mg base 1 "_law_pool" (sp_law_pool K) [] := by
  refine cal0 D b .nil sc_law_pool (fun vs H Q E h => ?_) (fun cdv A outer s H vs Q E hr h => ?_)
  · obtain ⟨a, ns, rfl, _⟩ := h
    rfl
  · obtain ⟨a, ns, rfl, hS, k⟩ := h
    refine ⟨_, (pss_one (ps_ret (pe_lst (pa_cons (pe_callTy call_list_of (by rfl) T.n_list bo_list (pa_cons (pv 0) pa_nil)) (pa_cons pe_int (pa_cons pe_int (pa_cons pe_int (pa_cons pe_int (pa_cons (pv 1) pa_nil))))))))), ?_⟩
    refine ⟨_, rfl, _, _, rfl, .inl hS, fun l hl => ⟨_, rfl, (by show 6 ≤ sizeLine; decide), fun p hp => ?_⟩⟩
    have hlp : l ≠ p := ne_of_none (H := upd H l (.lst (ns.1.map V.int))) upd_same hp
    have hp0 : H p = none := (Keep.new (W := []) hl).free hp
    refine k p l _ hp0 ⟨_, _, _, _, upd_same, (by rw [upd_ne hlp]; exact upd_same), hlp, Int.le_refl 0⟩ ((Keep.new hl).then_new hp)
theorem ok_law_draw {f : Addr} {fd : FuncData} (D : C8.Def K mg "_law_draw" s_law_draw f fd) (b : Binds K fd ["pool", "size"] []) (T : Txt K mg C_Tape C_Thinker C_Brain C_Mind C_Frame C_Thinking C_Checker T_EVENTS T_SIGNS T_ROUND_NAMES T_BRAIN_NAMES T_EFFECTS) : C8.Cal P w K mg base 1 "_law_draw" sp_law_draw [] := by
  refine cal0 D b .nil sc_law_draw (fun vs H Q E h => ?_) (fun cdv A outer s H vs Q E hr h => ?_)
  · obtain ⟨p, q, ns, size, rfl, _⟩ := h
    rfl
  · obtain ⟨p, q, ns, size, rfl, hs0, hs1, ⟨i1, i2, i3, i4, h1, h2, hqp, hi1⟩, k⟩ := h
    have hbig : (2147483647 : Int) > 0 := by decide
    have cdg : ∀ {i : Int}, CDivG i size := ⟨by omega, Nat.lt_trans (log2_lt9 (b := 60) (by omega) (by decide)) (by decide)⟩
    refine ⟨_, (pss_cut (ps_if (PW.pt (pw_and (pt_cmpR op_le (pe_ix ix_list (pv 0) pe_int (fun _ _ => rfl)) pe_int (nomark _)) (pw_and (pt_cmpR op_le (pe_ix ix_list (pv 0) pe_int (fun _ _ => rfl)) pe_int (nomark _)) (pw_and1 (pt_cmpR op_lt (pe_ix ix_list (pv 0) pe_int (fun _ _ => rfl)) (pe_callB call_len_seq (by rfl) T.n_len bo_len (pa_cons (pe_ix ix_list (pv 0) pe_int (fun _ _ => rfl)) pa_nil)) (nomark _))))))
  (pss_cons (ps_set (i := 2) sc_law_draw.nd rfl (by first | exact Or.inl rfl | exact Or.inr rfl) (pe_ix ix_list (pe_ix ix_list (pv 0) pe_int (fun _ _ => rfl)) (pe_ix ix_list (pv 0) pe_int (fun _ _ => rfl)) (fun _ _ => rfl)))
  (pss_cons (ps_asg (pe_op op_add (pe_ix ix_list (pv 0) pe_int (fun _ _ => rfl)) pe_int) (pg_sub (pv 0) pe_int set_list))
  (pss_cons (ps_asg (pe_op op_mod (pe_callTy call_int1 (by rfl) T.n_int bo_int (pa_cons (pe_op op_add (pe_op op_mul (pe_ix ix_list (pv 0) pe_int (fun _ _ => rfl)) pe_int) (pv 2)) pa_nil)) pe_int) (pg_sub (pv 0) pe_int set_list))
  (pss_cons (ps_asg pe_int (pg_sub (pv 0) pe_int set_list))
  (pss_one (ps_if (pt_cmpR op_ge (pv 2) (pe_op op_pow pe_int pe_int) (nomark _))
    (pss_one (ps_asg (pv 2) (pg_sub (pv 0) pe_int set_list)))
    pss_nil))))))
  pss_nil)
(pss_cons (ps_if (pt_cmpR op_gt (pe_ix ix_list (pv 0) pe_int (fun _ _ => rfl)) pe_int (nomark _))
  (pss_cons (ps_set (i := 3) sc_law_draw.nd rfl (by first | exact Or.inl rfl | exact Or.inr rfl) (pe_op op_mod (pe_callTy call_int1 (by rfl) T.n_int bo_int (pa_cons (pe_ix ix_list (pv 0) pe_int (fun _ _ => rfl)) pa_nil)) (pv 1)))
  (pss_cons (ps_asg (pe_op op_fdivG (pe_ix ix_list (pv 0) pe_int (fun _ _ => rfl)) (pv 1)) (pg_sub (pv 0) pe_int set_list))
  (pss_cons (ps_asg pe_int (pg_sub (pv 0) pe_int set_list))
  (pss_one (ps_ret (pv 3))))))
  pss_nil)
(pss_cons (ps_asg (pe_op op_sub (pe_ix ix_list (pv 0) pe_int (fun _ _ => rfl)) pe_int) (pg_sub (pv 0) pe_int set_list))
(pss_cons (ps_asg (pe_op op_mod (pe_callTy call_int1 (by rfl) T.n_int bo_int (pa_cons (pe_op op_add (pe_op op_mul (pe_ix ix_list (pv 0) pe_int (fun _ _ => rfl)) pe_int) pe_int) pa_nil)) pe_int) (pg_sub (pv 0) pe_int set_list))
(pss_one (ps_ret (pe_op op_mod (pe_op op_mod (pe_callTy call_int1 (by rfl) T.n_int bo_int (pa_cons (pe_op op_add (pe_op op_mul (pe_ix ix_list (pv 0) pe_int (fun _ _ => rfl)) pe_int) pe_int) pa_nil)) pe_int) (pv 1)))))))), ?_⟩
    -- the state between the statements
    refine ⟨fun σ H' => ∃ (c : Option V) (j1 j2 j3 j4 : Int), σ = [some (.ref p), some (.int size), c, none] ∧ H' p = some (.lst [.ref q, .int j1, .int j2, .int j3, .int j4, .int ns.2]) ∧ Keep [p] H H' ∧ 0 ≤ j1, ?_, ?_⟩
    · have stay : ∃ (c : Option V) (j1 j2 j3 j4 : Int), ([some (.ref p), some (.int size), none, none] : List (Option V)) = [some (.ref p), some (.int size), c, none] ∧ H p = some (.lst [.ref q, .int j1, .int j2, .int j3, .int j4, .int ns.2]) ∧ Keep [p] H H ∧ 0 ≤ j1 :=
        ⟨_, i1, i2, i3, i4, rfl, h1, Keep.refl _ _, hi1⟩
      refine ⟨_, rfl, _, _, _, _, rfl, rfl, SqL.of h1, rfl, _, _, rfl, rfl, _, rfl, iteD (fun _ => ?_) (fun _ => stay)⟩
      refine ⟨_, rfl, _, _, _, _, rfl, rfl, SqL.of h1, rfl, _, _, rfl, rfl, _, rfl, iteD (fun _ => ?_) (fun _ => stay)⟩
      refine ⟨_, rfl, _, _, _, _, rfl, rfl, SqL.of h1, rfl, _, rfl, _, _, _, _, rfl, rfl, SqL.of h1, rfl, _, _, rfl, .inl (SqL.of h2), _, _, rfl, rfl, _, rfl, iteD (fun hlt => ?_) (fun _ => stay)⟩
      obtain ⟨j, rfl⟩ : ∃ j : Nat, i1 = (j : Int) := ⟨i1.toNat, by omega⟩
      rw [List.length_map] at hlt
      have hj : j < ns.1.length := by omega
      have hc : (ns.1.map V.int)[j]? = some (.int ns.1[j]) := by rw [List.getElem?_map, List.getElem?_eq_getElem hj]; rfl
      refine ⟨_, rfl, _, _, _, _, rfl, rfl, SqL.of h1, rfl, _, rfl, _, _, _, _, rfl, rfl, SqL.of h1, rfl, _, _, _, _, rfl, rfl, SqL.of h2, atI_nat hc, ?_⟩
      refine ⟨_, rfl, _, _, _, _, rfl, rfl, SqL.of h1, rfl, _, _, rfl, rfl, _, rfl, _, _, _, _, rfl, rfl, h1, rfl, ?_⟩
      refine ⟨_, rfl, _, _, _, _, rfl, rfl, SqL.of upd_same, rfl, _, _, rfl, rfl, .inr ⟨by decide, by decide⟩, _, rfl, _, _, rfl, rfl, .inl ⟨_, rfl, _, _, rfl, rfl, hbig, _, rfl, _, _, _, _, rfl, rfl, upd_same, rfl, ?_⟩⟩
      refine ⟨_, rfl, _, _, _, _, rfl, rfl, upd_same, rfl, ?_⟩
      have kk : Keep [p] H (upd (upd (upd H p (.lst (List.set [.ref q, .int (j : Int), .int i2, .int i3, .int i4, .int ns.2] 1 (.int ((j : Int) + 1))))) p
        (.lst (List.set (List.set [.ref q, .int (j : Int), .int i2, .int i3, .int i4, .int ns.2] 1 (.int ((j : Int) + 1))) 3 (.int ((i3 * 31 + ns.1[j]) % 2147483647))))) p
        (.lst (List.set (List.set (List.set [.ref q, .int (j : Int), .int i2, .int i3, .int i4, .int ns.2] 1 (.int ((j : Int) + 1))) 3 (.int ((i3 * 31 + ns.1[j]) % 2147483647))) 4 (.int 7)))) :=
        ((Keep.at_ (List.mem_singleton.mpr rfl)).then_at (List.mem_singleton.mpr rfl)).then_at (List.mem_singleton.mpr rfl)
      refine ⟨_, rfl, _, _, rfl, rfl, ⟨by decide, by decide, by decide⟩, _, _, rfl, rfl, _, rfl, iteD (fun _ => ?_) (fun _ => ?_)⟩
      · refine ⟨_, rfl, _, rfl, _, _, _, _, rfl, rfl, upd_same, rfl, ?_⟩
        exact ⟨_, _, _, _, _, rfl, upd_same, kk.then_at (List.mem_singleton.mpr rfl), by omega⟩
      · exact ⟨_, _, _, _, _, rfl, upd_same, kk, by omega⟩
    · rintro σ' H' ⟨c, j1, j2, j3, j4, rfl, g1, kk, hj1⟩
      have g2 : H' q = some (.lst (ns.1.map V.int)) := kk q _ h2 (by simpa using hqp)
      refine ⟨_, rfl, _, _, _, _, rfl, rfl, SqL.of g1, rfl, _, _, rfl, rfl, _, rfl, iteD (fun _ => ?_) (fun _ => ?_)⟩
      · refine ⟨_, rfl, _, _, _, _, rfl, rfl, SqL.of g1, rfl, .inl ⟨_, rfl, _, rfl, _, _, rfl, rfl, hs0, ?_⟩⟩
        refine ⟨_, rfl, _, _, _, _, rfl, rfl, SqL.of g1, rfl, _, rfl, _, _, rfl, rfl, cdg, _, rfl, _, _, _, _, rfl, rfl, g1, rfl, ?_⟩
        refine ⟨_, rfl, _, _, _, _, rfl, rfl, upd_same, rfl, ?_⟩
        refine ⟨_, rfl, ?_⟩
        refine k _ _ (Int.emod_nonneg _ (by omega)) (Int.emod_lt_of_pos _ hs0) ⟨_, _, _, _, upd_same, ?_, hqp, hj1⟩ ((kk.then_at (List.mem_singleton.mpr rfl)).then_at (List.mem_singleton.mpr rfl))
        rw [upd_ne hqp, upd_ne hqp]; exact g2
      · refine ⟨_, rfl, _, _, _, _, rfl, rfl, SqL.of g1, rfl, _, _, rfl, rfl, _, rfl, _, _, _, _, rfl, rfl, g1, rfl, ?_⟩
        refine ⟨_, rfl, _, _, _, _, rfl, rfl, SqL.of upd_same, rfl, _, _, rfl, rfl, .inr ⟨by decide, by decide⟩, _, _, rfl, rfl, .inl ⟨_, rfl, _, _, rfl, rfl, hbig, _, rfl, _, _, _, _, rfl, rfl, upd_same, rfl, ?_⟩⟩
        refine ⟨_, rfl, _, _, _, _, rfl, rfl, SqL.of upd_same, rfl, _, _, rfl, rfl, .inr ⟨by decide, by decide⟩, _, _, rfl, rfl, .inl ⟨_, rfl, _, _, rfl, rfl, hbig, _, rfl, _, _, rfl, rfl, hs0, ?_⟩⟩
        refine k _ _ (Int.emod_nonneg _ (by omega)) (Int.emod_lt_of_pos _ hs0) ⟨_, _, _, _, upd_same, ?_, hqp, hj1⟩ ((kk.then_at (List.mem_singleton.mpr rfl)).then_at (List.mem_singleton.mpr rfl))
        rw [upd_ne hqp, upd_ne hqp]; exact g2
theorem ok_law_spend {f : Addr} {fd : FuncData} (D : C8.Def K mg "_law_spend" s_law_spend f fd) (b : Binds K fd ["pool"] []) (T : Txt K mg C_Tape C_Thinker C_Brain C_Mind C_Frame C_Thinking C_Checker T_EVENTS T_SIGNS T_ROUND_NAMES T_BRAIN_NAMES T_EFFECTS) : C8.Cal P w K mg base 1 "_law_spend" sp_law_spend [] := by
  refine cal0 D b .nil sc_law_spend (fun vs H Q E h => ?_) (fun cdv A outer s H vs Q E hr h => ?_)
  · obtain ⟨p, q, ns, rfl, _⟩ := h
    rfl
  · obtain ⟨p, q, ns, rfl, ⟨i1, i2, i3, i4, h1, h2, hqp, hi1⟩, k⟩ := h
    refine ⟨_, (pss_cons (ps_asg (pe_op op_sub (pe_ix ix_list (pv 0) pe_int (fun _ _ => rfl)) pe_int) (pg_sub (pv 0) pe_int set_list))
(pss_one (ps_ret (pe_cmpR op_ge (pe_ix ix_list (pv 0) pe_int (fun _ _ => rfl)) pe_int (nomark _))))), ?_⟩
    refine ⟨_, rfl, _, _, _, _, rfl, rfl, SqL.of h1, rfl, _, _, rfl, rfl, _, rfl, _, _, _, _, rfl, rfl, h1, rfl, ?_⟩
    refine ⟨_, rfl, _, _, _, _, rfl, rfl, SqL.of upd_same, rfl, _, _, rfl, rfl, ?_⟩
    exact k _ ⟨_, _, _, _, upd_same, by rw [upd_ne hqp]; exact h2, hqp, hi1⟩ (Keep.at_ (List.mem_singleton.mpr rfl))
end

/-! the law's small draws -/
def sp_law_few : Sp := fun vs H Q _ => ∃ (p q : Addr) (ns : PoolT) (most : Int), vs = [.ref p, .int most] ∧ 0 ≤ most ∧ most < 1000000 ∧ Pool H p q ns ∧
  ∀ r H', 0 ≤ r → r ≤ most → Pool H' p q ns → Keep [p] H H' → Q (.int r) H'
section
variable {P : Program} {w : World} {K : PySem.W.Frag} {mg : Str → Option Value} {base : Heap} {C_Tape : Addr} {C_Thinker : Addr} {C_Brain : Addr} {C_Mind : Addr} {C_Frame : Addr} {C_Thinking : Addr} {C_Checker : Addr} {T_EVENTS : Addr} {T_SIGNS : Addr} {T_ROUND_NAMES : Addr} {T_BRAIN_NAMES : Addr} {T_EFFECTS : Addr}
theorem ok_law_few {f : Addr} {fd : FuncData} (D : C8.Def K mg "_law_few" s_law_few f fd) (b : Binds K fd ["pool", "most"] []) (T : Txt K mg C_Tape C_Thinker C_Brain C_Mind C_Frame C_Thinking C_Checker T_EVENTS T_SIGNS T_ROUND_NAMES T_BRAIN_NAMES T_EFFECTS) (c_law_draw : C8.Cal P w K mg base 1 "_law_draw" sp_law_draw []) : C8.Cal P w K mg base 2 "_law_few" sp_law_few [] := by
  refine cal0 D b .nil sc_law_few (fun vs H Q E h => ?_) (fun cdv A outer s H vs Q E hr h => ?_)
  · obtain ⟨p, q, ns, m, rfl, _⟩ := h
    rfl
  · obtain ⟨p, q, ns, m, rfl, m0, m1, hP, k⟩ := h
    refine ⟨_, (pss_cons (ps_set (i := 2) sc_law_few.nd rfl (by first | exact Or.inl rfl | exact Or.inr rfl) (pe_c c_law_draw hr (by first | exact Nat.le_refl _ | decide | omega) rfl (pa_cons (pv 0) (pa_cons pe_int pa_nil))))
(pss_cons (ps_if (pt_cmpR op_eq (pv 2) pe_int (nomark _))
  (pss_one (ps_ret (pe_c c_law_draw hr (by first | exact Nat.le_refl _ | decide | omega) rfl (pa_cons (pv 0) (pa_cons (pe_op op_add (pv 1) pe_int) pa_nil)))))
  pss_nil)
(pss_one (ps_ret (pe_callB (call_min2 rfl) (by rfl) T.n_min bo_min (pa_cons (pv 2) (pa_cons (pv 1) pa_nil))))))), ?_⟩
    refine ⟨_, rfl, p, q, ns, 4, rfl, by decide, by decide, hP, fun r H1 r0 r1 P1 K1 => ?_⟩
    refine ⟨_, rfl, rfl, _, rfl, iteD (fun _ => ?_) (fun _ => ?_)⟩
    · refine ⟨_, rfl, _, rfl, _, _, rfl, rfl, p, q, ns, _, rfl, by omega, by omega, P1, fun r2 H2 z0 z1 P2 K2 => ?_⟩
      exact k _ _ z0 (by omega) P2 (K1.trans K2)
    · refine ⟨_, rfl, _, rfl, _, _, rfl, k _ _ ?_ ?_ P1 K1⟩
      · split <;> omega
      · split <;> omega
end

/-- tuples stand -/
def TK (H H' : Hp) : Prop := ∀ b xs, H b = some (.tup xs) → H' b = some (.tup xs)
theorem TK.refl (H : Hp) : TK H H := fun _ _ h => h
theorem TK.trans {H H1 H2 : Hp} (a : TK H H1) (b : TK H1 H2) : TK H H2 := fun c xs h => b c xs (a c xs h)
theorem TK.new {H : Hp} {p : Addr} {o : HO} (h : H p = none) : TK H (upd H p o) := fun b xs q => by rw [upd_ne (ne_of_none q h)]; exact q
theorem TK.lst {H : Hp} {p : Addr} {o : HO} {ys : List V} (h : H p = some (.lst ys)) : TK H (upd H p o) := fun b xs q => by
  rw [upd_ne (ne_of q h (by intro z; cases z))]; exact q
theorem Keep.tk {H H' : Hp} (k : Keep [] H H') : TK H H' := fun b xs q => k b _ q (by simp)
theorem Keep.tk1 {H H' : Hp} {p : Addr} {ys : List V} (k : Keep [p] H H') (h : H p = some (.lst ys)) : TK H H' := fun b xs q => k b _ q (by
  have := ne_of q h (by intro z; cases z)
  simpa using this)

/-! tuples that stand, in the walk's heap or in the module's -/
def KT (K : PySem.W.Frag) (a : Addr) (xs : List V) : Prop := ∃ (o : Obj) (its : Array Value) (n : Nat), K.lookup a = some o ∧ o.cls = .type "tuple" ∧ o.data = .seq its n ∧ its.size ≤ sizeLine ∧ Vals xs its.toList
def At (K : PySem.W.Frag) (H : Hp) (a : Addr) (xs : List V) : Prop := H a = some (.tup xs) ∨ KT K a xs
theorem At.sq {K : PySem.W.Frag} {H : Hp} {a : Addr} {xs : List V} (h : At K H a xs) : SqT K H a xs := by
  rcases h with h | h
  · exact SqT.of h
  · exact .inr h
theorem At.ty {K : PySem.W.Frag} {H : Hp} {a : Addr} {xs : List V} (h : At K H a xs) : TyX K H (.ref a) (.type "tuple") := by
  rcases h with h | ⟨o, its, n, h, c, _⟩
  · exact .base (.tup h)
  · exact .kTuple h c
theorem At.tk {K : PySem.W.Frag} {H H' : Hp} {a : Addr} {xs : List V} (k : TK H H') (h : At K H a xs) : At K H' a xs := by
  rcases h with h | h
  · exact .inl (k _ _ h)
  · exact .inr h
/-! the law's look whether two values are the same: only the answer True is told -/
def SameV (K : PySem.W.Frag) : Nat → Hp → V → V → Prop
  | 0, _, _, _ => False
  | n + 1, H, a, d => (a = d ∧ ((∃ x, d = .str x) ∨ (∃ i, d = .int i) ∨ (∃ b, d = .bl b) ∨ d = .non)) ∨
    ∃ p q xs ys, a = .ref p ∧ d = .ref q ∧ ((H p = some (.lst xs) ∧ H q = some (.lst ys)) ∨ (At K H p xs ∧ At K H q ys)) ∧ xs.length = ys.length ∧ xs.length ≤ sizeLine ∧
      ∀ (i : Nat) x y, xs[i]? = some x → ys[i]? = some y → SameV K n H x y
def sp_law_same (K : PySem.W.Frag) (n : Nat) : Sp := fun vs H Q _ => ∃ a d, vs = [a, d] ∧ SameV K n H a d ∧ Q (.bl true) H
theorem sameV_atom {K : PySem.W.Frag} {n : Nat} {H : Hp} {d : V} (h : (∃ x, d = .str x) ∨ (∃ i, d = .int i) ∨ (∃ b, d = .bl b) ∨ d = .non) : SameV K (n + 1) H d d := .inl ⟨rfl, h⟩
section
variable {K : PySem.W.Frag}
theorem kLT : PySem.W.kitOne K (.type "list") (.type "tuple") = some false := kit_ty (by decide +kernel)
theorem kLL : PySem.W.kitOne K (.type "list") (.type "list") = some true := kit_ty (by decide +kernel)
theorem kTT : PySem.W.kitOne K (.type "tuple") (.type "tuple") = some true := kit_ty (by decide +kernel)
theorem kTL : PySem.W.kitOne K (.type "tuple") (.type "list") = some false := kit_ty (by decide +kernel)
theorem kST : PySem.W.kitOne K (.type "str") (.type "tuple") = some false := kit_ty (by decide +kernel)
theorem kSL : PySem.W.kitOne K (.type "str") (.type "list") = some false := kit_ty (by decide +kernel)
theorem kSB : PySem.W.kitOne K (.type "str") (.type "bool") = some false := kit_ty (by decide +kernel)
theorem kSI : PySem.W.kitOne K (.type "str") (.type "int") = some false := kit_ty (by decide +kernel)
theorem kSS : PySem.W.kitOne K (.type "str") (.type "str") = some true := kit_ty (by decide +kernel)
theorem kIT : PySem.W.kitOne K (.type "int") (.type "tuple") = some false := kit_ty (by decide +kernel)
theorem kIL : PySem.W.kitOne K (.type "int") (.type "list") = some false := kit_ty (by decide +kernel)
theorem kIB : PySem.W.kitOne K (.type "int") (.type "bool") = some false := kit_ty (by decide +kernel)
theorem kII : PySem.W.kitOne K (.type "int") (.type "int") = some true := kit_ty (by decide +kernel)
theorem kBT : PySem.W.kitOne K (.type "bool") (.type "tuple") = some false := kit_ty (by decide +kernel)
theorem kBL : PySem.W.kitOne K (.type "bool") (.type "list") = some false := kit_ty (by decide +kernel)
theorem kBB : PySem.W.kitOne K (.type "bool") (.type "bool") = some true := kit_ty (by decide +kernel)
theorem kBI : PySem.W.kitOne K (.type "bool") (.type "int") = some true := kit_ty (by decide +kernel)
theorem kNT : PySem.W.kitOne K (.type "NoneType") (.type "tuple") = some false := kit_ty (by decide +kernel)
theorem kNL : PySem.W.kitOne K (.type "NoneType") (.type "list") = some false := kit_ty (by decide +kernel)
theorem kNB : PySem.W.kitOne K (.type "NoneType") (.type "bool") = some false := kit_ty (by decide +kernel)
theorem kNI : PySem.W.kitOne K (.type "NoneType") (.type "int") = some false := kit_ty (by decide +kernel)
end

section
variable {P : Program} {w : World} {K : PySem.W.Frag} {mg : Str → Option Value} {base : Heap} {C_Tape : Addr} {C_Thinker : Addr} {C_Brain : Addr} {C_Mind : Addr} {C_Frame : Addr} {C_Thinking : Addr} {C_Checker : Addr} {T_EVENTS : Addr} {T_SIGNS : Addr} {T_ROUND_NAMES : Addr} {T_BRAIN_NAMES : Addr} {T_EFFECTS : Addr}
theorem ok_law_same0 {f : Addr} {fd : FuncData} (D : C8.Def K mg "_law_same" s_law_same f fd) (b : Binds K fd ["actual", "due"] []) : C8.Cal P w K mg base 0 "_law_same" (sp_law_same K 0) [] :=
  ⟨f, fd, ["actual", "due"], [], ⟨fun vs H Q E h => (by obtain ⟨a, d, rfl, _⟩ := h; rfl), fun A outer s H args us vs Q E _ _ _ _ h => (by obtain ⟨a, d, _, z, _⟩ := h; exact z.elim)⟩, D.mgf, D.kp, b, .nil⟩
theorem ok_law_same {f : Addr} {fd : FuncData} (D : C8.Def K mg "_law_same" s_law_same f fd) (b : Binds K fd ["actual", "due"] []) (T : Txt K mg C_Tape C_Thinker C_Brain C_Mind C_Frame C_Thinking C_Checker T_EVENTS T_SIGNS T_ROUND_NAMES T_BRAIN_NAMES T_EFFECTS) {n k : Nat} (c_law_same : C8.Cal P w K mg base k "_law_same" (sp_law_same K n) []) :
    C8.Cal P w K mg base (k + 1) "_law_same" (sp_law_same K (n + 1)) [] := by
  refine cal0 D b .nil sc_law_same (fun vs H Q E h => ?_) (fun cdv A outer s H vs Q E hr h => ?_)
  · obtain ⟨a, d, rfl, _⟩ := h
    rfl
  · obtain ⟨a, d, rfl, hs, k⟩ := h
    have hu := hu_of hr
    refine ⟨_, (pss_cons (ps_if (PW.pt (pw_or (pt_val (pe_callB call_isi (by rfl) T.n_isinstance bo_isinstance (pa_cons (pv 1) (pa_cons (pe_bltn (v := .ty "tuple") (by rfl) T.n_tuple bo_tuple rfl) pa_nil)))) (pw_or1 (pt_val (pe_callB call_isi (by rfl) T.n_isinstance bo_isinstance (pa_cons (pv 1) (pa_cons (pe_bltn (v := .ty "list") (by rfl) T.n_list bo_list rfl) pa_nil)))))))
  (pss_cons (ps_if (PW.pt (pw_or (pt_cmpR op_ne (pe_callB call_isi (by rfl) T.n_isinstance bo_isinstance (pa_cons (pv 1) (pa_cons (pe_bltn (v := .ty "tuple") (by rfl) T.n_tuple bo_tuple rfl) pa_nil))) (pe_callB call_isi (by rfl) T.n_isinstance bo_isinstance (pa_cons (pv 0) (pa_cons (pe_bltn (v := .ty "tuple") (by rfl) T.n_tuple bo_tuple rfl) pa_nil))) (nomark _)) (pw_or1 (pt_cmpR op_ne (pe_callB call_isi (by rfl) T.n_isinstance bo_isinstance (pa_cons (pv 1) (pa_cons (pe_bltn (v := .ty "list") (by rfl) T.n_list bo_list rfl) pa_nil))) (pe_callB call_isi (by rfl) T.n_isinstance bo_isinstance (pa_cons (pv 0) (pa_cons (pe_bltn (v := .ty "list") (by rfl) T.n_list bo_list rfl) pa_nil))) (nomark _)))))
    (pss_one (ps_ret pe_bl))
    pss_nil)
  (pss_cons (ps_if (pt_cmpR op_ne (pe_callB call_len_seq (by rfl) T.n_len bo_len (pa_cons (pv 0) pa_nil)) (pe_callB call_len_seq (by rfl) T.n_len bo_len (pa_cons (pv 1) pa_nil)) (nomark _))
    (pss_one (ps_ret pe_bl))
    pss_nil)
  (pss_cons (ps_for PassesOwn.never rfl (pi_range1 (by rfl) T.n_range (pa_cons (pe_callB call_len_seq (by rfl) T.n_len bo_len (pa_cons (pv 1) pa_nil)) pa_nil)) (pg_name (i := 2) sc_law_same.nd rfl (by first | exact Or.inl rfl | exact Or.inr rfl))
    (pss_one (ps_if (pt_not (pt_val (pe_c c_law_same hr (by first | exact Nat.le_refl _ | decide | omega) rfl (pa_cons (pe_ix ix_seq (pv 0) (pv 2) (fun _ _ => rfl)) (pa_cons (pe_ix ix_seq (pv 1) (pv 2) (fun _ _ => rfl)) pa_nil)))))
      (pss_one (ps_ret pe_bl))
      pss_nil)))
  (pss_one (ps_ret pe_bl)))))
  pss_nil)
(pss_cons (ps_if (PW.pt (pw_or (pt_cmpR op_isN (pv 1) pe_non (nomark _)) (pw_or1 (pt_val (pe_callB call_isi (by rfl) T.n_isinstance bo_isinstance (pa_cons (pv 1) (pa_cons (pe_bltn (v := .ty "bool") (by rfl) T.n_bool bo_bool rfl) pa_nil)))))))
  (pss_one (ps_ret (pe_and (pe_cmpR op_eq (pe_cmpR op_isN (pv 0) pe_non (nomark _)) (pe_cmpR op_isN (pv 1) pe_non (nomark _)) (nomark _)) (pe_and (pe_or (pe_cmpR op_isN (pv 1) pe_non (nomark _)) (pe_one (pe_callB call_isi (by rfl) T.n_isinstance bo_isinstance (pa_cons (pv 0) (pa_cons (pe_bltn (v := .ty "bool") (by rfl) T.n_bool bo_bool rfl) pa_nil))))) (pe_one (pe_cmpR op_eq (pv 0) (pv 1) (nomark _)))))))
  pss_nil)
(pss_cons (ps_if (pt_val (pe_callB call_isi (by rfl) T.n_isinstance bo_isinstance (pa_cons (pv 1) (pa_cons (pe_bltn (v := .ty "int") (by rfl) T.n_int bo_int rfl) pa_nil))))
  (pss_one (ps_ret (pe_and (pe_callB call_isi (by rfl) T.n_isinstance bo_isinstance (pa_cons (pv 0) (pa_cons (pe_bltn (v := .ty "int") (by rfl) T.n_int bo_int rfl) pa_nil))) (pe_and (pe_not (pe_callB call_isi (by rfl) T.n_isinstance bo_isinstance (pa_cons (pv 0) (pa_cons (pe_bltn (v := .ty "bool") (by rfl) T.n_bool bo_bool rfl) pa_nil)))) (pe_one (pe_cmpR op_eq (pv 0) (pv 1) (nomark _)))))))
  pss_nil)
(pss_one (ps_ret (pe_and (pe_callB call_isi (by rfl) T.n_isinstance bo_isinstance (pa_cons (pv 0) (pa_cons (pe_bltn (v := .ty "str") (by rfl) T.n_str bo_str rfl) pa_nil))) (pe_one (pe_cmpR op_eq (pv 0) (pv 1) (nomark _))))))))), ?_⟩
    -- the part behind the lengths, for lists and for tuples
    rcases hs with ⟨rfl, ⟨x, rfl⟩ | ⟨x, rfl⟩ | ⟨x, rfl⟩ | rfl⟩ | ⟨p, q, xs, ys, rfl, rfl, hh, hl, hz, hall⟩
    · refine ⟨_, rfl, _, _, _, _, _, rfl, .ty _, .base (.str x), kST, _, rfl, iteF ⟨_, rfl, _, _, _, _, _, rfl, .ty _, .base (.str x), kSL, _, rfl, iteF ?_⟩⟩
      refine ⟨_, rfl, rfl, _, rfl, iteDF (by simp) ⟨_, rfl, _, _, _, _, _, rfl, .ty _, .base (.str x), kSB, _, rfl, iteF ?_⟩⟩
      refine ⟨_, rfl, _, _, _, _, _, rfl, .ty _, .base (.str x), kSI, _, rfl, iteF ?_⟩
      refine ⟨_, rfl, _, _, _, _, _, rfl, .ty _, .base (.str x), kSS, _, rfl, iteT ⟨_, rfl, _, rfl, rfl, ?_⟩⟩
      rw [decide_eq_true rfl]; exact k
    · refine ⟨_, rfl, _, _, _, _, _, rfl, .ty _, .base (.int x), kIT, _, rfl, iteF ⟨_, rfl, _, _, _, _, _, rfl, .ty _, .base (.int x), kIL, _, rfl, iteF ?_⟩⟩
      refine ⟨_, rfl, rfl, _, rfl, iteDF (by simp) ⟨_, rfl, _, _, _, _, _, rfl, .ty _, .base (.int x), kIB, _, rfl, iteF ?_⟩⟩
      refine ⟨_, rfl, _, _, _, _, _, rfl, .ty _, .base (.int x), kII, _, rfl, iteT ?_⟩
      refine ⟨_, rfl, _, _, _, _, _, rfl, .ty _, .base (.int x), kII, _, rfl, iteT ⟨_, rfl, _, _, _, _, _, rfl, .ty _, .base (.int x), kIB, _, rfl, _, rfl, iteT ⟨_, rfl, _, rfl, rfl, ?_⟩⟩⟩
      rw [decide_eq_true rfl]; exact k
    · refine ⟨_, rfl, _, _, _, _, _, rfl, .ty _, .base (.bl x), kBT, _, rfl, iteF ⟨_, rfl, _, _, _, _, _, rfl, .ty _, .base (.bl x), kBL, _, rfl, iteF ?_⟩⟩
      refine ⟨_, rfl, rfl, _, rfl, iteDF (by simp) ⟨_, rfl, _, _, _, _, _, rfl, .ty _, .base (.bl x), kBB, _, rfl, iteT ?_⟩⟩
      refine ⟨_, rfl, rfl, _, rfl, rfl, rfl, _, rfl, iteDT (by simp) ?_⟩
      refine ⟨_, rfl, rfl, _, rfl, iteDF (by simp) ?_⟩
      refine ⟨_, rfl, _, _, _, _, _, rfl, .ty _, .base (.bl x), kBB, ?_⟩
      refine ⟨_, rfl, iteT ⟨_, rfl, _, rfl, rfl, ?_⟩⟩
      rw [decide_eq_true rfl]; exact k
    · refine ⟨_, rfl, _, _, _, _, _, rfl, .ty _, .base .non, kNT, _, rfl, iteF ⟨_, rfl, _, _, _, _, _, rfl, .ty _, .base .non, kNL, _, rfl, iteF ?_⟩⟩
      refine ⟨_, rfl, rfl, _, rfl, iteDT (by simp) ?_⟩
      refine ⟨_, rfl, rfl, _, rfl, rfl, rfl, _, rfl, iteDT (by simp) ?_⟩
      refine ⟨_, rfl, rfl, _, rfl, iteDT (by simp) ?_⟩
      refine ⟨_, rfl, iteT ⟨_, rfl, _, rfl, rfl, ?_⟩⟩
      rw [decide_eq_true rfl]; exact k
    · obtain ⟨t, b1, b2, ty1, ty2, k1, k2, hb, sq⟩ : ∃ (t : Value) (b1 b2 : Bool), TyX K H (.ref p) t ∧ TyX K H (.ref q) t ∧ PySem.W.kitOne K t (.type "tuple") = some b1 ∧ PySem.W.kitOne K t (.type "list") = some b2 ∧ (b1 = true ∨ b2 = true) ∧
          ((SqL K H p xs ∧ SqL K H q ys) ∨ (SqT K H p xs ∧ SqT K H q ys)) := by
        rcases hh with ⟨h1, h2⟩ | ⟨h1, h2⟩
        · exact ⟨_, _, _, .base (.lst h1), .base (.lst h2), kLT, kLL, .inr rfl, .inl ⟨SqL.of h1, SqL.of h2⟩⟩
        · exact ⟨_, _, _, h1.ty, h2.ty, kTT, kTL, .inl rfl, .inr ⟨h1.sq, h2.sq⟩⟩
      have sqp : SqL K H p xs ∨ SqT K H p xs := sq.elim (fun z => .inl z.1) fun z => .inr z.1
      have sqq : SqL K H q ys ∨ SqT K H q ys := sq.elim (fun z => .inl z.2) fun z => .inr z.2
      have bz : (ys.length : Int) < 2 ^ 62 := by
        have e : sizeLine = 16777216 := sizeLine_eq
        have : ys.length ≤ 16777216 := by omega
        omega
      -- the part behind the first test
      have rest : ∀ {D : Ends} {t1 : TS}, t1 D [some (.ref p), some (.ref q), none] H → t1 D [some (.ref p), some (.ref q), none] H := fun z => z
      refine ⟨_, rfl, _, _, _, _, _, rfl, .ty _, ty2, k1, _, rfl, iteB (fun e1 => ?_) (fun e1 => ⟨_, rfl, _, _, _, _, _, rfl, .ty _, ty2, k2, _, rfl, iteB (fun e2 => ?_) (fun e2 => ?_)⟩)⟩
      rotate_left 2
      · rcases hb with z | z
        · rw [e1] at z; cases z
        · rw [e2] at z; cases z
      all_goals
        refine ⟨_, rfl, _, _, _, _, _, rfl, .ty _, ty2, k1, _, rfl, _, _, _, _, _, rfl, .ty _, ty1, k1, rfl, _, rfl, iteNF (by simp) ?_⟩
        refine ⟨_, rfl, _, _, _, _, _, rfl, .ty _, ty2, k2, _, rfl, _, _, _, _, _, rfl, .ty _, ty1, k2, rfl, _, rfl, iteNF (by simp) ?_⟩
        refine ⟨_, rfl, _, _, rfl, sqp, _, rfl, _, _, rfl, sqq, rfl, _, rfl, iteNF (by rw [hl]) ?_⟩
        refine ⟨_, rfl, _, _, rfl, sqq, _, rfl, by omega, bz, for_range (lo := 0) (n := ys.length) (fun i σ H' => ∃ kv, σ = [some (.ref p), some (.ref q), kv] ∧ H' = H) ⟨none, rfl, rfl⟩ ?_ ?_⟩
        · rintro i σ H' hi ⟨kv, rfl, rfl⟩
          have hx : xs[i]? = some (xs[i]'(by omega)) := List.getElem?_eq_getElem _
          have hy : ys[i]? = some ys[i] := List.getElem?_eq_getElem _
          have e0 : (0 : Int) + (i : Int) = (i : Int) := by omega
          rw [e0]
          rcases sq with ⟨s1, s2⟩ | ⟨s1, s2⟩
          · refine ⟨_, rfl, _, rfl, .inl ⟨_, _, _, _, rfl, rfl, s1, atI_nat hx, _, rfl, _, rfl, .inl ⟨_, _, _, _, rfl, rfl, s2, atI_nat hy, ?_⟩⟩⟩
            exact ⟨_, _, rfl, hall i _ _ hx hy, _, rfl, iteF ⟨_, rfl, rfl⟩⟩
          · refine ⟨_, rfl, _, rfl, .inr (.inl ⟨_, _, _, _, rfl, rfl, s1, atI_nat hx, _, rfl, _, rfl, .inr (.inl ⟨_, _, _, _, rfl, rfl, s2, atI_nat hy, ?_⟩)⟩)⟩
            exact ⟨_, _, rfl, hall i _ _ hx hy, _, rfl, iteF ⟨_, rfl, rfl⟩⟩
        · rintro σ H' ⟨kv, rfl, rfl⟩
          exact k
end

/-! expressions: data, values, folding -/
inductive Ex where
  | num (n : Int)
  | var (x : Str)
  | long
  | view (e : Ex)
  | pick (x : Str) (l r : Ex)
  | op (s : Str) (l r : Ex)
def dEx : Ex → PyData
  | .num n => .tuple [.str "number", .int n]
  | .var x => .tuple [.str "variable", .str x]
  | .long => .tuple [.str "long"]
  | .view e => .tuple [.str "view", dEx e]
  | .pick x l r => .tuple [.str "pick", .str x, dEx l, dEx r]
  | .op s l r => .tuple [.str s, dEx l, dEx r]
def Ex.dep : Ex → Nat
  | .num _ => 1
  | .var _ => 1
  | .long => 1
  | .view e => e.dep + 1
  | .pick _ l r => max l.dep r.dep + 1
  | .op _ l r => max l.dep r.dep + 1
theorem Ex.dep_pos : ∀ e : Ex, 1 ≤ e.dep
  | .num _ => Nat.le_refl _
  | .var _ => Nat.le_refl _
  | .long => Nat.le_refl _
  | .view e => by unfold Ex.dep; omega
  | .pick _ l r => by unfold Ex.dep; omega
  | .op _ l r => by unfold Ex.dep; omega
def sgL : List Str := ["+", "-", "*", "/", "mod", "<", "="]
def strOK (x : Str) : Bool := x.cps.all (· < 0x110000)
def Ex.Ok (ns ps : List Str) : Ex → Prop
  | .num n => 0 ≤ n ∧ n < 65536
  | .var x => x ∈ ns
  | .long => True
  | .view e => e.Ok ns ps
  | .pick x l r => x ∈ ps ∧ l.Ok ns ps ∧ r.Ok ns ps
  | .op s l r => s ∈ sgL ∧ l.Ok ns ps ∧ r.Ok ns ps
inductive EV (K : PySem.W.Frag) (H : Hp) : V → Ex → Prop
  | num {a : Addr} {n : Int} : At K H a [.str "number", .int n] → EV K H (.ref a) (.num n)
  | var {a : Addr} {x : Str} : At K H a [.str "variable", .str x] → EV K H (.ref a) (.var x)
  | long {a : Addr} : At K H a [.str "long"] → EV K H (.ref a) .long
  | view {a : Addr} {v : V} {e : Ex} : At K H a [.str "view", v] → EV K H v e → EV K H (.ref a) (.view e)
  | pick {a : Addr} {x : Str} {v u : V} {l r : Ex} : At K H a [.str "pick", .str x, v, u] → EV K H v l → EV K H u r → EV K H (.ref a) (.pick x l r)
  | op {a : Addr} {s : Str} {v u : V} {l r : Ex} : At K H a [.str s, v, u] → EV K H v l → EV K H u r → EV K H (.ref a) (.op s l r)
theorem EV.tk {K : PySem.W.Frag} {H H' : Hp} (k : TK H H') {v : V} {e : Ex} (h : EV K H v e) : EV K H' v e := by
  induction h with
  | num h => exact .num (h.tk k)
  | var h => exact .var (h.tk k)
  | long h => exact .long (h.tk k)
  | view h _ i => exact .view (h.tk k) i
  | pick h _ _ i j => exact .pick (h.tk k) i j
  | op h _ _ i j => exact .op (h.tk k) i j
theorem EV.dp {K : PySem.W.Frag} {H : Hp} {v : V} {e : Ex} (h : EV K H v e) : Dp K H v (dEx e) := by
  induction h with
  | num h => exact .tup h.sq (.cons (.str _) (.cons (.int _) .nil))
  | var h => exact .tup h.sq (.cons (.str _) (.cons (.str _) .nil))
  | long h => exact .tup h.sq (.cons (.str _) .nil)
  | view h _ i => exact .tup h.sq (.cons (.str _) (.cons i .nil))
  | pick h _ _ i j => exact .tup h.sq (.cons (.str _) (.cons (.str _) (.cons i (.cons j .nil))))
  | op h _ _ i j => exact .tup h.sq (.cons (.str _) (.cons i (.cons j .nil)))
theorem paired_get {F : V → V → Prop} {xs ys : List V} (h : Paired F xs ys) : xs.length = ys.length ∧ ∀ (i : Nat) x y, xs[i]? = some x → ys[i]? = some y → F x y := by
  induction h with
  | nil => exact ⟨rfl, fun i x y h => by simp at h⟩
  | cons h _ ih =>
    refine ⟨by rw [List.length_cons, List.length_cons, ih.1], fun i x y hx hy => ?_⟩
    cases i with
    | zero => simp at hx hy; subst hx hy; exact h
    | succ i => exact ih.2 i x y (by simpa using hx) (by simpa using hy)
theorem sameT {K : PySem.W.Frag} {H : Hp} {n : Nat} {p q : Addr} {xs ys : List V} (h1 : At K H p xs) (h2 : At K H q ys) (h : Paired (SameV K n H) xs ys) (hl : xs.length ≤ 1000000) : SameV K (n + 1) H (.ref p) (.ref q) :=
  .inr ⟨p, q, _, _, rfl, rfl, .inr ⟨h1, h2⟩, (paired_get h).1, smallM hl, (paired_get h).2⟩
theorem same_ev {K : PySem.W.Frag} {H : Hp} {v : V} {e : Ex} (h : EV K H v e) : ∀ {u : V} {n : Nat}, EV K H u e → e.dep ≤ n → SameV K (n + 1) H v u := by
  have st : ∀ {n : Nat} (x : Str), SameV K (n + 1) H (.str x) (.str x) := fun x => .inl ⟨rfl, .inl ⟨x, rfl⟩⟩
  have it : ∀ {n : Nat} (x : Int), SameV K (n + 1) H (.int x) (.int x) := fun x => .inl ⟨rfl, .inr (.inl ⟨x, rfl⟩)⟩
  induction h with
  | num h =>
    intro u n g d
    obtain ⟨n, rfl⟩ : ∃ m, n = m + 1 := ⟨n - 1, by have : (1 : Nat) ≤ n := d; omega⟩
    cases g with
    | num g => exact sameT h g (.cons (st _) (.cons (it _) .nil)) (by simp)
  | var h =>
    intro u n g d
    obtain ⟨n, rfl⟩ : ∃ m, n = m + 1 := ⟨n - 1, by have : (1 : Nat) ≤ n := d; omega⟩
    cases g with
    | var g => exact sameT h g (.cons (st _) (.cons (st _) .nil)) (by simp)
  | long h =>
    intro u n g d
    obtain ⟨n, rfl⟩ : ∃ m, n = m + 1 := ⟨n - 1, by have : (1 : Nat) ≤ n := d; omega⟩
    cases g with
    | long g => exact sameT h g (.cons (st _) .nil) (by simp)
  | view h _ i =>
    intro u n g d
    unfold Ex.dep at d
    obtain ⟨n, rfl⟩ : ∃ m, n = m + 1 := ⟨n - 1, by omega⟩
    cases g with
    | view g g1 => exact sameT h g (.cons (st _) (.cons (i g1 (by omega)) .nil)) (by simp)
  | pick h _ _ i j =>
    intro u n g d
    unfold Ex.dep at d
    obtain ⟨n, rfl⟩ : ∃ m, n = m + 1 := ⟨n - 1, by omega⟩
    cases g with
    | pick g g1 g2 => exact sameT h g (.cons (st _) (.cons (st _) (.cons (i g1 (by omega)) (.cons (j g2 (by omega)) .nil)))) (by simp)
  | op h _ _ i j =>
    intro u n g d
    unfold Ex.dep at d
    obtain ⟨n, rfl⟩ : ∃ m, n = m + 1 := ⟨n - 1, by omega⟩
    cases g with
    | op g g1 g2 => exact sameT h g (.cons (st _) (.cons (i g1 (by omega)) (.cons (j g2 (by omega)) .nil))) (by simp)
def EQ (a b : Ex) : Bool := PyData.eqv (dEx a) (dEx b)
def dL : Ex → List PyData
  | .num n => [.str "number", .int n]
  | .var x => [.str "variable", .str x]
  | .long => [.str "long"]
  | .view e => [.str "view", dEx e]
  | .pick x l r => [.str "pick", .str x, dEx l, dEx r]
  | .op s l r => [.str s, dEx l, dEx r]
theorem dEx_eq (e : Ex) : dEx e = .tuple (dL e) := by cases e <;> rfl
theorem eqvA_cons (x y : PyData) (xs ys : List PyData) : PyData.eqvAll (x :: xs) (y :: ys) = (PyData.eqv x y && PyData.eqvAll xs ys) := by rw [PyData.eqvAll]
theorem eqvA_len : ∀ xs ys : List PyData, PyData.eqvAll xs ys = true → xs.length = ys.length
  | [], [], _ => rfl
  | [], _ :: _, h => by simp [PyData.eqvAll] at h
  | _ :: _, [], h => by simp [PyData.eqvAll] at h
  | x :: xs, y :: ys, h => by
    rw [eqvA_cons, Bool.and_eq_true] at h
    rw [List.length_cons, List.length_cons, eqvA_len xs ys h.2]
theorem eqv_tup (xs ys : List PyData) : PyData.eqv (.tuple xs) (.tuple ys) = PyData.eqvAll xs ys := by rw [PyData.eqv]
theorem eqv_ti (xs : List PyData) (n : Int) : PyData.eqv (.tuple xs) (.int n) = false := by simp [PyData.eqv]
theorem eqv_it (xs : List PyData) (n : Int) : PyData.eqv (.int n) (.tuple xs) = false := by simp [PyData.eqv]
theorem eqv_ts (xs : List PyData) (n : Str) : PyData.eqv (.tuple xs) (.str n) = false := by simp [PyData.eqv]
theorem eqv_st (xs : List PyData) (n : Str) : PyData.eqv (.str n) (.tuple xs) = false := by simp [PyData.eqv]
theorem eqv_is (m : Int) (n : Str) : PyData.eqv (.int m) (.str n) = false := by simp [PyData.eqv]
theorem eqv_si (m : Int) (n : Str) : PyData.eqv (.str n) (.int m) = false := by simp [PyData.eqv]
theorem eqv_ii {m n : Int} (h : PyData.eqv (.int m) (.int n) = true) : m = n := by simpa [PyData.eqv] using h
theorem eqv_ss {m n : Str} (h : PyData.eqv (.str m) (.str n) = true) : m = n := by simpa [PyData.eqv] using h
theorem eq_sound : ∀ a b : Ex, EQ a b = true → a = b := by
  intro a
  have hEQ : ∀ x y : Ex, EQ x y = PyData.eqvAll (dL x) (dL y) := fun x y => by unfold EQ; rw [dEx_eq, dEx_eq, eqv_tup]
  induction a with
  | num n =>
    intro b h
    rw [hEQ] at h
    have hl := eqvA_len _ _ h
    cases b with
    | num m => simp only [dL, eqvA_cons, Bool.and_eq_true] at h; rw [eqv_ii h.2.1]
    | var m => simp only [dL, eqvA_cons, Bool.and_eq_true, eqv_is] at h; exact absurd h.2.1 (by simp)
    | view m => simp only [dL, eqvA_cons, Bool.and_eq_true] at h; rw [dEx_eq, eqv_it] at h; exact absurd h.2.1 (by simp)
    | _ => simp [dL] at hl
  | var n =>
    intro b h
    rw [hEQ] at h
    have hl := eqvA_len _ _ h
    cases b with
    | num m => simp only [dL, eqvA_cons, Bool.and_eq_true, eqv_si] at h; exact absurd h.2.1 (by simp)
    | var m => simp only [dL, eqvA_cons, Bool.and_eq_true] at h; rw [eqv_ss h.2.1]
    | view m => simp only [dL, eqvA_cons, Bool.and_eq_true] at h; rw [dEx_eq, eqv_st] at h; exact absurd h.2.1 (by simp)
    | _ => simp [dL] at hl
  | long =>
    intro b h
    rw [hEQ] at h
    have hl := eqvA_len _ _ h
    cases b with
    | long => rfl
    | _ => simp [dL] at hl
  | view e i =>
    intro b h
    rw [hEQ] at h
    have hl := eqvA_len _ _ h
    cases b with
    | num m => simp only [dL, eqvA_cons, Bool.and_eq_true] at h; rw [dEx_eq, eqv_ti] at h; exact absurd h.2.1 (by simp)
    | var m => simp only [dL, eqvA_cons, Bool.and_eq_true] at h; rw [dEx_eq, eqv_ts] at h; exact absurd h.2.1 (by simp)
    | view m => simp only [dL, eqvA_cons, Bool.and_eq_true] at h; rw [i m h.2.1]
    | _ => simp [dL] at hl
  | pick x l r i j =>
    intro b h
    rw [hEQ] at h
    have hl := eqvA_len _ _ h
    cases b with
    | pick y l' r' => simp only [dL, eqvA_cons, Bool.and_eq_true] at h; rw [eqv_ss h.2.1, i l' h.2.2.1, j r' h.2.2.2.1]
    | _ => simp [dL] at hl
  | op x l r i j =>
    intro b h
    rw [hEQ] at h
    have hl := eqvA_len _ _ h
    cases b with
    | op y l' r' => simp only [dL, eqvA_cons, Bool.and_eq_true] at h; rw [eqv_ss h.1, i l' h.2.1, j r' h.2.2.1]
    | _ => simp [dL] at hl
theorem sg_ok : ∀ s ∈ sgL, PyData.strOk s = true := by decide +kernel
theorem kw_ok : PyData.strOk "number" = true ∧ PyData.strOk "variable" = true ∧ PyData.strOk "long" = true ∧ PyData.strOk "view" = true ∧ PyData.strOk "pick" = true := by decide +kernel
theorem canLay_ex {ns ps : List Str} (hn : ∀ x ∈ ns, PyData.strOk x = true) (hp : ∀ x ∈ ps, PyData.strOk x = true) : ∀ e : Ex, e.Ok ns ps → (dEx e).canLay0 = true
  | .num _, _ => by simp only [dEx, PyData.canLay0, PyData.canLayAll0, Bool.and_true, kw_ok.1]
  | .var x, h => by simp only [dEx, PyData.canLay0, PyData.canLayAll0, Bool.and_true, hn x h, kw_ok.2.1]
  | .long, _ => by simp only [dEx, PyData.canLay0, PyData.canLayAll0, Bool.and_true, kw_ok.2.2.1]
  | .view e, h => by
    simp only [dEx, PyData.canLay0, PyData.canLayAll0, Bool.and_true, canLay_ex hn hp e h, kw_ok.2.2.2.1]
  | .pick x l r, ⟨h1, h2, h3⟩ => by
    simp only [dEx, PyData.canLay0, PyData.canLayAll0, Bool.and_true, canLay_ex hn hp l h2, canLay_ex hn hp r h3, hp x h1, kw_ok.2.2.2.2]
  | .op s l r, ⟨h1, h2, h3⟩ => by
    simp only [dEx, PyData.canLay0, PyData.canLayAll0, Bool.and_true, canLay_ex hn hp l h2, canLay_ex hn hp r h3, sg_ok s h1]
theorem depth_ex : ∀ e : Ex, (dEx e).depth ≤ e.dep + 1
  | .num _ => by simp [dEx, PyData.depth, PyData.depthAll, Ex.dep]
  | .var x => by simp [dEx, PyData.depth, PyData.depthAll, Ex.dep]
  | .long => by simp [dEx, PyData.depth, PyData.depthAll, Ex.dep]
  | .view e => by have := depth_ex e; simp only [dEx, PyData.depth, PyData.depthAll, Ex.dep]; omega
  | .pick x l r => by have := depth_ex l; have := depth_ex r; simp only [dEx, PyData.depth, PyData.depthAll, Ex.dep]; omega
  | .op s l r => by have := depth_ex l; have := depth_ex r; simp only [dEx, PyData.depth, PyData.depthAll, Ex.dep]; omega
def NamesOk (ns : List Str) : Prop := ∀ x ∈ ns, PyData.strOk x = true
theorem shaped_ex {ns ps : List Str} (hn : NamesOk ns) (hp : NamesOk ps) {e : Ex} (h : e.Ok ns ps) (hd : e.dep ≤ 60) : SeqAt.shaped (dEx e) = true := by
  unfold SeqAt.shaped
  rw [Bool.and_eq_true]
  exact ⟨canLay_ex hn hp e h, decide_eq_true (by have := depth_ex e; omega)⟩
def comb (s : Str) (a b : Int) : Int :=
  if s = "+" then (a + b) % 65536 else if s = "-" then (if a - b > 0 then a - b else 0) else if s = "*" then a * b % 65536 else if s = "/" then (if b > 0 then a / b else 0)
  else if s = "mod" then (if b > 0 then a % b else 0) else if s = "<" then (if a < b then 1 else 0) else (if a = b then 1 else 0)
theorem comb_add (a b : Int) : comb "+" a b = (a + b) % 65536 := by unfold comb; rw [if_pos rfl]
theorem comb_sub (a b : Int) : comb "-" a b = if a - b > 0 then a - b else 0 := by unfold comb; rw [if_neg (by decide +kernel), if_pos rfl]
theorem comb_mul (a b : Int) : comb "*" a b = a * b % 65536 := by unfold comb; rw [if_neg (by decide +kernel), if_neg (by decide +kernel), if_pos rfl]
theorem comb_div (a b : Int) : comb "/" a b = if b > 0 then a / b else 0 := by unfold comb; rw [if_neg (by decide +kernel), if_neg (by decide +kernel), if_neg (by decide +kernel), if_pos rfl]
theorem comb_mod (a b : Int) : comb "mod" a b = if b > 0 then a % b else 0 := by unfold comb; rw [if_neg (by decide +kernel), if_neg (by decide +kernel), if_neg (by decide +kernel), if_neg (by decide +kernel), if_pos rfl]
theorem comb_lt (a b : Int) : comb "<" a b = if a < b then 1 else 0 := by unfold comb; rw [if_neg (by decide +kernel), if_neg (by decide +kernel), if_neg (by decide +kernel), if_neg (by decide +kernel), if_neg (by decide +kernel), if_pos rfl]
theorem comb_eq (a b : Int) : comb "=" a b = if a = b then 1 else 0 := by unfold comb; rw [if_neg (by decide +kernel), if_neg (by decide +kernel), if_neg (by decide +kernel), if_neg (by decide +kernel), if_neg (by decide +kernel), if_neg (by decide +kernel)]
theorem sg_cases {s : Str} (h : s ∈ sgL) : s = "+" ∨ s = "-" ∨ s = "*" ∨ s = "/" ∨ s = "mod" ∨ s = "<" ∨ s = "=" := by
  simpa [sgL] using h
theorem comb_range {s : Str} {a b : Int} (h : s ∈ sgL) (a0 : 0 ≤ a) (a1 : a < 65536) (b0 : 0 ≤ b) (b1 : b < 65536) : 0 ≤ comb s a b ∧ comb s a b < 65536 := by
  rcases sg_cases h with rfl | rfl | rfl | rfl | rfl | rfl | rfl
  · rw [comb_add]; omega
  · rw [comb_sub]; split <;> omega
  · rw [comb_mul]; exact ⟨Int.emod_nonneg _ (by decide), Int.emod_lt_of_pos _ (by decide)⟩
  · rw [comb_div]
    split
    · exact ⟨Int.ediv_nonneg a0 b0, Int.lt_of_le_of_lt (Int.ediv_le_self _ a0) a1⟩
    · omega
  · rw [comb_mod]
    split
    · rename_i hb
      have := Int.emod_lt_of_pos a hb
      exact ⟨Int.emod_nonneg _ (by omega), by omega⟩
    · omega
  · rw [comb_lt]; split <;> omega
  · rw [comb_eq]; split <;> omega
def val (tb : Str → Int) (on : Str → Bool) (seen : List Int) : Ex → Int
  | .num n => n
  | .var x => tb x
  | .long => if (65535 : Int) < seen.length then 65535 else seen.length
  | .view e => if val tb on seen e < seen.length then seen.getD (val tb on seen e).toNat 0 else 0
  | .pick x l r => if on x = true then val tb on seen l else val tb on seen r
  | .op s l r => comb s (val tb on seen l) (val tb on seen r)
def TbOk (ns : List Str) (tb : Str → Int) : Prop := ∀ x ∈ ns, 0 ≤ tb x ∧ tb x < 65536
def SeenOk (seen : List Int) : Prop := ∀ x ∈ seen, 0 ≤ x ∧ x < 65536
theorem val_range {ns ps : List Str} {tb : Str → Int} {on : Str → Bool} {seen : List Int} (ht : TbOk ns tb) (hs : SeenOk seen) : ∀ e : Ex, e.Ok ns ps → 0 ≤ val tb on seen e ∧ val tb on seen e < 65536
  | .num n, h => h
  | .var x, h => ht x h
  | .long, _ => by unfold val; split <;> omega
  | .view e, h => by
    unfold val
    split
    · rename_i q
      have := val_range (on := on) ht hs e h
      have hl : (val tb on seen e).toNat < seen.length := by omega
      rw [List.getD_eq_getElem?_getD, List.getElem?_eq_getElem hl]
      exact hs _ (List.getElem_mem hl)
    · omega
  | .pick x l r, ⟨_, h2, h3⟩ => by
    unfold val
    split
    · exact val_range ht hs l h2
    · exact val_range ht hs r h3
  | .op s l r, ⟨h1, h2, h3⟩ => by
    unfold val
    have a := val_range (on := on) ht hs l h2
    have b := val_range (on := on) ht hs r h3
    exact comb_range h1 a.1 a.2 b.1 b.2
/-! the heap's parts for a value -/
def DcB (H : Hp) (a : Addr) (ps : List Str) (on : Str → Bool) : Prop := ∃ kvs : List (Key × V), H a = some (.dK kvs) ∧ ∀ x ∈ ps, valV kvs (.inr x) = some (.bl (on x))
def DcI (H : Hp) (a : Addr) (ns : List Str) (tb : Str → Int) : Prop := ∃ kvs : List (Key × V), H a = some (.dK kvs) ∧ ∀ x ∈ ns, valV kvs (.inr x) = some (.int (tb x))
theorem DcB.get {H : Hp} {a : Addr} {ps : List Str} {on : Str → Bool} (h : DcB H a ps on) {x : Str} (hx : x ∈ ps) : DGet H a (.str x) (some (.bl (on x))) := by
  obtain ⟨kvs, e, q⟩ := h
  rw [← q x hx]
  exact DGet.k (k := .inr x) e
theorem DcI.get {H : Hp} {a : Addr} {ps : List Str} {on : Str → Int} (h : DcI H a ps on) {x : Str} (hx : x ∈ ps) : DGet H a (.str x) (some (.int (on x))) := by
  obtain ⟨kvs, e, q⟩ := h
  rw [← q x hx]
  exact DGet.k (k := .inr x) e

theorem nes {x y : Str} (h : x ≠ y) : ¬ V.str x = V.str y := fun z => h (V.str.inj z)
theorem sg_not : ∀ s ∈ sgL, s ≠ "number" ∧ s ≠ "variable" ∧ s ≠ "long" ∧ s ≠ "view" ∧ s ≠ "pick" := by decide +kernel
def sp_combine : Sp := fun vs H Q _ => ∃ s a b, vs = [.str s, .int a, .int b] ∧ s ∈ sgL ∧ 0 ≤ a ∧ a < 65536 ∧ 0 ≤ b ∧ b < 65536 ∧ Q (.int (comb s a b)) H
structure VEnv (K : PySem.W.Frag) (H : Hp) (td od sa : Addr) (ns ps : List Str) (tb : Str → Int) (on : Str → Bool) (seen : List Int) : Prop where
  t : DcI H td ns tb
  o : DcB H od ps on
  s : SqT K H sa (seen.map V.int)
  tok : TbOk ns tb
  sok : SeenOk seen
  len : seen.length ≤ 1000000
def sp_value (K : PySem.W.Frag) (n : Nat) : Sp := fun vs H Q _ => ∃ v td od sa e ns ps tb on seen, vs = [v, .ref td, .ref od, .ref sa] ∧ EV K H v e ∧ e.Ok ns ps ∧ e.dep ≤ n ∧ VEnv K H td od sa ns ps tb on seen ∧ Q (.int (val tb on seen e)) H
theorem ev_range {K : PySem.W.Frag} {H : Hp} {v : V} {e : Ex} {ns ps : List Str} {tb : Str → Int} {on : Str → Bool} {seen : List Int} (ht : TbOk ns tb) (hs : SeenOk seen) (_ : EV K H v e) (h : e.Ok ns ps) : 0 ≤ val tb on seen e ∧ val tb on seen e < 65536 := val_range ht hs e h
theorem seen_at {seen : List Int} {z : Int} (h0 : 0 ≤ z) (h : z < seen.length) : atI (seen.map V.int) z = some (.int (seen.getD z.toNat 0)) := by
  obtain ⟨m, rfl⟩ : ∃ m : Nat, z = (m : Int) := ⟨z.toNat, by omega⟩
  have hm : m < seen.length := by omega
  refine atI_nat ?_
  rw [List.getElem?_map, List.getD_eq_getElem?_getD, Int.toNat_natCast, List.getElem?_eq_getElem hm]; rfl
section
variable {P : Program} {w : World} {K : PySem.W.Frag} {mg : Str → Option Value} {base : Heap} {C_Tape : Addr} {C_Thinker : Addr} {C_Brain : Addr} {C_Mind : Addr} {C_Frame : Addr} {C_Thinking : Addr} {C_Checker : Addr} {T_EVENTS : Addr} {T_SIGNS : Addr} {T_ROUND_NAMES : Addr} {T_BRAIN_NAMES : Addr} {T_EFFECTS : Addr}
theorem ok_combine {f : Addr} {fd : FuncData} (D : C8.Def K mg "combine" s_combine f fd) (b : Binds K fd ["sign", "left", "right"] []) (T : Txt K mg C_Tape C_Thinker C_Brain C_Mind C_Frame C_Thinking C_Checker T_EVENTS T_SIGNS T_ROUND_NAMES T_BRAIN_NAMES T_EFFECTS) {k : Nat} : C8.Cal P w K mg base (k + 1) "combine" sp_combine [] := by
  refine cal0 D b .nil sc_combine (fun vs H Q E h => ?_) (fun cdv A outer s H vs Q E hr h => ?_)
  · obtain ⟨s, a, b, rfl, _⟩ := h
    rfl
  · obtain ⟨s, x, y, rfl, hs, x0, x1, y0, y1, k⟩ := h
    refine ⟨_, (pss_cons (ps_if (pt_cmpR op_eq (pv 0) pe_str (nomark _))
  (pss_one (ps_ret (pe_op op_mod (pe_op op_add (pv 1) (pv 2)) (pe_op op_add (pe_gc rfl T.v_GREATEST) pe_int))))
  pss_nil)
(pss_cons (ps_if (pt_cmpR op_eq (pv 0) pe_str (nomark _))
  (pss_one (ps_ret (pe_callB (call_max2 rfl) (by rfl) T.n_max bo_max (pa_cons pe_int (pa_cons (pe_op op_sub (pv 1) (pv 2)) pa_nil)))))
  pss_nil)
(pss_cons (ps_if (pt_cmpR op_eq (pv 0) pe_str (nomark _))
  (pss_one (ps_ret (pe_op op_mod (pe_op op_mul (pv 1) (pv 2)) (pe_op op_add (pe_gc rfl T.v_GREATEST) pe_int))))
  pss_nil)
(pss_cons (ps_if (pt_cmpR op_eq (pv 0) pe_str (nomark _))
  (pss_one (ps_ret (pe_ifExp (pt_cmpR op_gt (pv 2) pe_int (nomark _)) (pe_op op_fdiv (pv 1) (pv 2)) pe_int)))
  pss_nil)
(pss_cons (ps_if (pt_cmpR op_eq (pv 0) pe_str (nomark _))
  (pss_one (ps_ret (pe_ifExp (pt_cmpR op_gt (pv 2) pe_int (nomark _)) (pe_op op_mod (pv 1) (pv 2)) pe_int)))
  pss_nil)
(pss_cons (ps_if (pt_cmpR op_eq (pv 0) pe_str (nomark _))
  (pss_one (ps_ret (pe_callTy call_int1 (by rfl) T.n_int bo_int (pa_cons (pe_cmpR op_lt (pv 1) (pv 2) (nomark _)) pa_nil))))
  pss_nil)
(pss_one (ps_ret (pe_callTy call_int1 (by rfl) T.n_int bo_int (pa_cons (pe_cmpR op_eq (pv 1) (pv 2) (nomark _)) pa_nil)))))))))), ?_⟩
    refine ⟨_, rfl, rfl, _, rfl, iteD (fun e => ?_) (fun e1 => ?_)⟩
    · rw [V.str.inj e, comb_add] at k
      exact ⟨_, rfl, _, rfl, _, _, rfl, rfl, _, _, rfl, rfl, _, _, rfl, rfl, (by show (0 : Int) < _; decide), k⟩
    refine ⟨_, rfl, rfl, _, rfl, iteD (fun e => ?_) (fun e2 => ?_)⟩
    · rw [V.str.inj e, comb_sub] at k
      exact ⟨_, rfl, _, rfl, _, _, rfl, rfl, _, _, rfl, k⟩
    refine ⟨_, rfl, rfl, _, rfl, iteD (fun e => ?_) (fun e3 => ?_)⟩
    · rw [V.str.inj e, comb_mul] at k
      exact ⟨_, rfl, _, rfl, _, _, rfl, rfl, .inl ⟨by omega, by omega⟩, _, _, rfl, rfl, _, _, rfl, rfl, (by show (0 : Int) < _; decide), k⟩
    refine ⟨_, rfl, rfl, _, rfl, iteD (fun e => ?_) (fun e4 => ?_)⟩
    · rw [V.str.inj e, comb_div] at k
      refine ⟨_, rfl, _, _, rfl, rfl, _, rfl, iteD (fun h => ?_) (fun h => ?_)⟩
      · rw [if_pos h] at k
        exact ⟨_, rfl, _, rfl, _, _, rfl, rfl, ⟨h, by omega⟩, k⟩
      · rw [if_neg h] at k
        exact k
    refine ⟨_, rfl, rfl, _, rfl, iteD (fun e => ?_) (fun e5 => ?_)⟩
    · rw [V.str.inj e, comb_mod] at k
      refine ⟨_, rfl, _, _, rfl, rfl, _, rfl, iteD (fun h => ?_) (fun h => ?_)⟩
      · rw [if_pos h] at k
        exact ⟨_, rfl, _, rfl, _, _, rfl, rfl, h, k⟩
      · rw [if_neg h] at k
        exact k
    refine ⟨_, rfl, rfl, _, rfl, iteD (fun e => ?_) (fun e6 => ?_)⟩
    · rw [V.str.inj e, comb_lt] at k
      refine ⟨_, rfl, _, rfl, _, _, rfl, rfl, .inr ⟨_, rfl, ?_⟩⟩
      by_cases h : x < y
      · rw [if_pos h] at k; rw [decide_eq_true h]; exact k
      · rw [if_neg h] at k; rw [decide_eq_false h]; exact k
    · have hs7 : s = "=" := by
        rcases sg_cases hs with rfl | rfl | rfl | rfl | rfl | rfl | rfl
        · exact absurd rfl e1
        · exact absurd rfl e2
        · exact absurd rfl e3
        · exact absurd rfl e4
        · exact absurd rfl e5
        · exact absurd rfl e6
        · rfl
      rw [hs7, comb_eq] at k
      refine ⟨_, rfl, _, rfl, rfl, .inr ⟨_, rfl, ?_⟩⟩
      by_cases h : x = y
      · rw [if_pos h] at k; rw [decide_eq_true (congrArg V.int h)]; exact k
      · rw [if_neg h] at k; rw [decide_eq_false (fun z => h (V.int.inj z))]; exact k
theorem ok_value0 {f : Addr} {fd : FuncData} (D : C8.Def K mg "value_of" s_value_of f fd) {ds : List Value} (d : Vals [] ds) (b : Binds K fd ["expression", "table", "on", "seen"] ds) : C8.Cal P w K mg base 1 "value_of" (sp_value K 0) [] :=
  ⟨f, fd, ["expression", "table", "on", "seen"], ds, ⟨fun vs H Q E h => (by obtain ⟨v, td, od, sa, e, ns, ps, tb, on, seen, rfl, _⟩ := h; rfl), fun A outer s H args us vs Q E _ _ _ _ h => (by obtain ⟨v, td, od, sa, e, ns, ps, tb, on, seen, _, _, _, z, _⟩ := h; have := e.dep_pos; omega)⟩, D.mgf, D.kp, b, d⟩
theorem ok_value {f : Addr} {fd : FuncData} (D : C8.Def K mg "value_of" s_value_of f fd) {ds : List Value} {dvs : List V} (d : Vals dvs ds) (b : Binds K fd ["expression", "table", "on", "seen"] ds) (T : Txt K mg C_Tape C_Thinker C_Brain C_Mind C_Frame C_Thinking C_Checker T_EVENTS T_SIGNS T_ROUND_NAMES T_BRAIN_NAMES T_EFFECTS) {n k : Nat}
    (c_value_of : C8.Cal P w K mg base k "value_of" (sp_value K n) []) (c_combine : C8.Cal P w K mg base k "combine" sp_combine []) : C8.Cal P w K mg base (k + 1) "value_of" (sp_value K (n + 1)) dvs := by
  refine cal0 D b d sc_value_of (fun vs H Q E h => ?_) (fun cdv A outer s H vs Q E hr h => ?_)
  · obtain ⟨v, td, od, sa, e, ns, ps, tb, on, seen, rfl, _⟩ := h
    rfl
  · obtain ⟨v, td, od, sa, e, ns, ps, tb, on, seen, rfl, he, hok, hd, V, k⟩ := h
    have hu := hu_of hr
    refine ⟨_, (pss_cons (ps_set (i := 4) sc_value_of.nd rfl (by first | exact Or.inl rfl | exact Or.inr rfl) (pe_ix ix_tup (pv 0) pe_int (fun _ _ => rfl)))
(pss_cons (ps_if (pt_cmpR op_eq (pv 4) pe_str (nomark _))
  (pss_one (ps_ret (pe_ix ix_tup (pv 0) pe_int (fun _ _ => rfl))))
  pss_nil)
(pss_cons (ps_if (pt_cmpR op_eq (pv 4) pe_str (nomark _))
  (pss_one (ps_ret (pe_dget hu (pv 1) (pe_ix ix_tup (pv 0) pe_int (fun _ _ => rfl)) (fun _ _ => rfl))))
  pss_nil)
(pss_cons (ps_if (pt_cmpR op_eq (pv 4) pe_str (nomark _))
  (pss_one (ps_ret (pe_callB (call_min2 rfl) (by rfl) T.n_min bo_min (pa_cons (pe_callB call_len_seq (by rfl) T.n_len bo_len (pa_cons (pv 3) pa_nil)) (pa_cons (pe_gc rfl T.v_GREATEST) pa_nil)))))
  pss_nil)
(pss_cons (ps_if (pt_cmpR op_eq (pv 4) pe_str (nomark _))
  (pss_cons (ps_set (i := 5) sc_value_of.nd rfl (by first | exact Or.inl rfl | exact Or.inr rfl) (pe_c c_value_of hr (by first | exact Nat.le_refl _ | decide | omega) rfl (pa_cons (pe_ix ix_tup (pv 0) pe_int (fun _ _ => rfl)) (pa_cons (pv 1) (pa_cons (pv 2) (pa_cons (pv 3) pa_nil))))))
  (pss_one (ps_ret (pe_ifExp (pt_cmpR op_lt (pv 5) (pe_callB call_len_seq (by rfl) T.n_len bo_len (pa_cons (pv 3) pa_nil)) (nomark _)) (pe_ix ix_tup (pv 3) (pv 5) (fun _ _ => rfl)) pe_int))))
  pss_nil)
(pss_cons (ps_if (pt_cmpR op_eq (pv 4) pe_str (nomark _))
  (pss_cons (ps_set (i := 6) sc_value_of.nd rfl (by first | exact Or.inl rfl | exact Or.inr rfl) (pe_ifExp (pt_val (pe_dget hu (pv 2) (pe_ix ix_tup (pv 0) pe_int (fun _ _ => rfl)) (fun _ _ => rfl))) (pe_ix ix_tup (pv 0) pe_int (fun _ _ => rfl)) (pe_ix ix_tup (pv 0) pe_int (fun _ _ => rfl))))
  (pss_one (ps_ret (pe_c c_value_of hr (by first | exact Nat.le_refl _ | decide | omega) rfl (pa_cons (pv 6) (pa_cons (pv 1) (pa_cons (pv 2) (pa_cons (pv 3) pa_nil))))))))
  pss_nil)
(pss_cons (ps_set (i := 7) sc_value_of.nd rfl (by first | exact Or.inl rfl | exact Or.inr rfl) (pe_c c_value_of hr (by first | exact Nat.le_refl _ | decide | omega) rfl (pa_cons (pe_ix ix_tup (pv 0) pe_int (fun _ _ => rfl)) (pa_cons (pv 1) (pa_cons (pv 2) (pa_cons (pv 3) pa_nil))))))
(pss_cons (ps_set (i := 8) sc_value_of.nd rfl (by first | exact Or.inl rfl | exact Or.inr rfl) (pe_c c_value_of hr (by first | exact Nat.le_refl _ | decide | omega) rfl (pa_cons (pe_ix ix_tup (pv 0) pe_int (fun _ _ => rfl)) (pa_cons (pv 1) (pa_cons (pv 2) (pa_cons (pv 3) pa_nil))))))
(pss_one (ps_ret (pe_c c_combine hr (by first | exact Nat.le_refl _ | decide | omega) rfl (pa_cons (pv 4) (pa_cons (pv 7) (pa_cons (pv 8) pa_nil)))))))))))))), ?_⟩
    cases he with
    | num h =>
      refine ⟨_, rfl, _, _, _, _, rfl, rfl, h.sq, rfl, _, rfl, rfl, _, rfl, iteDT rfl ?_⟩
      exact ⟨_, rfl, _, _, _, _, rfl, rfl, h.sq, rfl, k⟩
    | var h =>
      refine ⟨_, rfl, _, _, _, _, rfl, rfl, h.sq, rfl, _, rfl, rfl, _, rfl, iteDF (nes (by decide +kernel)) ?_⟩
      refine ⟨_, rfl, rfl, _, rfl, iteDT rfl ?_⟩
      exact ⟨_, rfl, _, rfl, _, _, _, _, rfl, rfl, h.sq, rfl, _, _, rfl, V.t.get hok, k⟩
    | long h =>
      refine ⟨_, rfl, _, _, _, _, rfl, rfl, h.sq, rfl, _, rfl, rfl, _, rfl, iteDF (nes (by decide +kernel)) ?_⟩
      refine ⟨_, rfl, rfl, _, rfl, iteDF (nes (by decide +kernel)) ?_⟩
      refine ⟨_, rfl, rfl, _, rfl, iteDT rfl ?_⟩
      refine ⟨_, rfl, _, _, rfl, .inr V.s, _, _, rfl, ?_⟩
      rw [List.length_map]; exact k
    | view h h1 =>
      refine ⟨_, rfl, _, _, _, _, rfl, rfl, h.sq, rfl, _, rfl, rfl, _, rfl, iteDF (nes (by decide +kernel)) ?_⟩
      refine ⟨_, rfl, rfl, _, rfl, iteDF (nes (by decide +kernel)) ?_⟩
      refine ⟨_, rfl, rfl, _, rfl, iteDF (nes (by decide +kernel)) ?_⟩
      refine ⟨_, rfl, rfl, _, rfl, iteDT rfl ?_⟩
      have hr2 := ev_range (on := on) V.tok V.sok h1 hok
      refine ⟨_, rfl, _, _, _, _, rfl, rfl, h.sq, rfl, _, rfl, _, rfl, _, rfl, _, td, od, sa, _, ns, ps, tb, on, seen, rfl, h1, hok, (by unfold Ex.dep at hd; omega), V, ?_⟩
      refine ⟨_, rfl, _, rfl, _, _, rfl, .inr V.s, _, _, rfl, rfl, _, rfl, iteD (fun q => ?_) (fun q => ?_)⟩
      · rw [List.length_map] at q
        refine ⟨_, rfl, _, rfl, _, _, _, _, rfl, rfl, V.s, seen_at hr2.1 q, ?_⟩
        unfold val at k
        rw [if_pos q] at k
        exact k
      · rw [List.length_map] at q
        unfold val at k
        rw [if_neg q] at k
        exact k
    | pick h h1 h2 =>
      refine ⟨_, rfl, _, _, _, _, rfl, rfl, h.sq, rfl, _, rfl, rfl, _, rfl, iteDF (nes (by decide +kernel)) ?_⟩
      refine ⟨_, rfl, rfl, _, rfl, iteDF (nes (by decide +kernel)) ?_⟩
      refine ⟨_, rfl, rfl, _, rfl, iteDF (nes (by decide +kernel)) ?_⟩
      refine ⟨_, rfl, rfl, _, rfl, iteDF (nes (by decide +kernel)) ?_⟩
      refine ⟨_, rfl, rfl, _, rfl, iteDT rfl ?_⟩
      unfold val at k
      unfold Ex.dep at hd
      refine ⟨_, rfl, _, rfl, _, _, _, _, rfl, rfl, h.sq, rfl, _, _, rfl, V.o.get hok.1, _, rfl, iteB (fun q => ?_) (fun q => ?_)⟩
      · rw [if_pos q] at k
        refine ⟨_, rfl, _, _, _, _, rfl, rfl, h.sq, rfl, ?_⟩
        exact ⟨_, rfl, _, rfl, _, rfl, _, rfl, _, td, od, sa, _, ns, ps, tb, on, seen, rfl, h1, hok.2.1, (by omega), V, k⟩
      · rw [if_neg (by simp [q])] at k
        refine ⟨_, rfl, _, _, _, _, rfl, rfl, h.sq, rfl, ?_⟩
        exact ⟨_, rfl, _, rfl, _, rfl, _, rfl, _, td, od, sa, _, ns, ps, tb, on, seen, rfl, h2, hok.2.2, (by omega), V, k⟩
    | op h h1 h2 =>
      obtain ⟨n1, n2, n3, n4, n5⟩ := sg_not _ hok.1
      refine ⟨_, rfl, _, _, _, _, rfl, rfl, h.sq, rfl, _, rfl, rfl, _, rfl, iteDF (nes n1) ?_⟩
      refine ⟨_, rfl, rfl, _, rfl, iteDF (nes n2) ?_⟩
      refine ⟨_, rfl, rfl, _, rfl, iteDF (nes n3) ?_⟩
      refine ⟨_, rfl, rfl, _, rfl, iteDF (nes n4) ?_⟩
      refine ⟨_, rfl, rfl, _, rfl, iteDF (nes n5) ?_⟩
      unfold val at k
      unfold Ex.dep at hd
      have ha := val_range (on := on) V.tok V.sok _ hok.2.1
      have hb := val_range (on := on) V.tok V.sok _ hok.2.2
      refine ⟨_, rfl, _, _, _, _, rfl, rfl, h.sq, rfl, _, rfl, _, rfl, _, rfl, _, td, od, sa, _, ns, ps, tb, on, seen, rfl, h1, hok.2.1, (by omega), V, ?_⟩
      refine ⟨_, rfl, _, _, _, _, rfl, rfl, h.sq, rfl, _, rfl, _, rfl, _, rfl, _, td, od, sa, _, ns, ps, tb, on, seen, rfl, h2, hok.2.2, (by omega), V, ?_⟩
      exact ⟨_, rfl, _, rfl, _, rfl, _, _, _, rfl, hok.1, ha.1, ha.2, hb.1, hb.2, k⟩
end

/-! names that are drawn -/
def kwL : List Str := ["option", "on", "off", "var", "round", "end", "set", "if", "else", "when", "draw", "first", "second", "show", "both", "pay", "take", "pick", "mod", "player", "keep", "lot", "while", "answer", "view", "long"]
theorem keys_text : Txt.split (("option on off var round end set if else when draw first second show both pay take pick mod player keep lot" : Str) ++ (" while answer view long" : Str)) " " = kwL := by decide +kernel
def sp_law_keys : Sp := fun vs H Q _ => vs = [] ∧ ∀ l H', H l = none → H' l = some (.lst (kwL.map V.str)) → Keep [] H H' → Q (.ref l) H'
theorem strOk_tl (z : Str) : PyData.strOk z = (TL.tl z).all (fun c => decide (c < 0x110000)) := by
  unfold PyData.strOk TL.tl
  rw [Array.all_toList]
theorem strOk_app (a b : Str) : PyData.strOk (a ++ b) = (PyData.strOk a && PyData.strOk b) := by
  rw [strOk_tl, strOk_tl, strOk_tl, TL.tl_append, List.all_append]
theorem strOk_sign {sg : Str} (h : PyData.strOk sg = true) {i : Nat} {c : Nat} (hc : (TL.tl sg)[i]? = some c) : PyData.strOk ⟨#[c]⟩ = true := by
  rw [strOk_tl] at h
  have := List.all_eq_true.mp h c (List.mem_of_getElem? hc)
  rw [strOk_tl]
  show ([c].all _) = true
  simpa using this
theorem len_appN (a b : Str) : (a ++ b).length = a.length + b.length := by rw [TL.len_tl, TL.tl_append, List.length_append, ← TL.len_tl, ← TL.len_tl]
theorem inV_strs (z : Str) : ∀ ys : List Str, inV (.str z) (ys.map V.str) = decide (z ∈ ys)
  | [] => rfl
  | y :: r => by
    have ih := inV_strs z r
    unfold inV at ih ⊢
    rw [List.map_cons, List.any_cons, ih]
    show ((y == z) || decide (z ∈ r)) = decide (z ∈ y :: r)
    by_cases h : y = z
    · subst h; simp
    · have : (y == z) = false := by simpa using h
      rw [this, Bool.false_or]
      simp only [List.mem_cons]
      exact decide_eq_decide.mpr ⟨.inr, fun q => q.elim (fun q => absurd q.symm h) id⟩
theorem flat_strs (ys : List Str) : (ys.map V.str).all flatV = true := by
  rw [List.all_eq_true]
  intro x hx
  obtain ⟨y, _, rfl⟩ := List.mem_map.mp hx
  rfl
def vN (k : Nat) : Str := ("v" : Str) ++ Str.ofString (toString ((k : Nat) : Int))
theorem vN_ok : ∀ k, k < 20 → PyData.strOk (vN k) = true ∧ (vN k).length ≤ 10 := by decide +kernel
theorem vN_nodup : ((List.range 20).map vN).Nodup := by decide +kernel
theorem nodup_le {α : Type} [DecidableEq α] : ∀ (l t : List α), l.Nodup → (∀ x ∈ l, x ∈ t) → l.length ≤ t.length
  | [], t, _, _ => Nat.zero_le _
  | a :: r, t, h, hs => by
    have hn := List.nodup_cons.mp h
    have ha : a ∈ t := hs a (List.mem_cons_self ..)
    have := nodup_le r (t.erase a) hn.2 fun x hx => (List.mem_erase_of_ne (by intro q; subst q; exact hn.1 hx)).mpr (hs x (List.mem_cons_of_mem _ hx))
    rw [List.length_erase_of_mem ha] at this
    have hp : 0 < t.length := List.length_pos_of_mem ha
    rw [List.length_cons]; omega
theorem vN_free {ys : List Str} (h : ys.length < 20) (hall : ∀ j, j < 20 → vN j ∈ ys) : False := by
  have := nodup_le _ ys vN_nodup (fun x hx => by
    obtain ⟨j, hj, rfl⟩ := List.mem_map.mp hx
    exact hall j (List.mem_range.mp hj))
  rw [List.length_map, List.length_range] at this
  omega
def sp_law_number : Sp := fun vs H Q _ => ∃ p q ns, vs = [.ref p] ∧ Pool H p q ns ∧ ∀ r H', 0 ≤ r → r < 65536 → Pool H' p q ns → Keep [p] H H' → Q (.int r) H'
def sp_law_name : Sp := fun vs H Q _ => ∃ (p q l : Addr) (ns : PoolT) (ys : List Str), vs = [.ref p, .ref l] ∧ H l = some (.lst (ys.map V.str)) ∧ l ≠ p ∧ ys.length < 20 ∧ Pool H p q ns ∧
  ∀ z H', z ∉ ys → PyData.strOk z = true → z.length ≤ 20 → Pool H' p q ns → Keep [p] H H' → Q (.str z) H'
def sp_law_names : Sp := fun vs H Q _ => ∃ (p q : Addr) (ns : PoolT) (m : Int), vs = [.ref p, .int m] ∧ 0 ≤ m ∧ m < 20 ∧ Pool H p q ns ∧
  ∀ l (ys : List Str) H', H l = none → H' l = some (.lst (ys.map V.str)) → ys.length ≤ m.toNat → ys.Nodup → NamesOk ys → (∀ y ∈ ys, y.length ≤ 20) → Pool H' p q ns → Keep [p] H H' → Q (.ref l) H'
section
variable {P : Program} {w : World} {K : PySem.W.Frag} {mg : Str → Option Value} {base : Heap} {C_Tape : Addr} {C_Thinker : Addr} {C_Brain : Addr} {C_Mind : Addr} {C_Frame : Addr} {C_Thinking : Addr} {C_Checker : Addr} {T_EVENTS : Addr} {T_SIGNS : Addr} {T_ROUND_NAMES : Addr} {T_BRAIN_NAMES : Addr} {T_EFFECTS : Addr}
theorem ok_law_keys {f : Addr} {fd : FuncData} (D : C8.Def K mg "_law_keys" s_law_keys f fd) (b : Binds K fd [] []) (T : Txt K mg C_Tape C_Thinker C_Brain C_Mind C_Frame C_Thinking C_Checker T_EVENTS T_SIGNS T_ROUND_NAMES T_BRAIN_NAMES T_EFFECTS) : C8.Cal P w K mg base 1 "_law_keys" sp_law_keys [] := by
  refine cal0 D b .nil sc_law_keys (fun vs H Q E h => ?_) (fun cdv A outer s H vs Q E hr h => ?_)
  · obtain ⟨rfl, _⟩ := h
    rfl
  · obtain ⟨rfl, k⟩ := h
    refine ⟨_, (pss_cons (ps_set (i := 0) sc_law_keys.nd rfl (by first | exact Or.inl rfl | exact Or.inr rfl) pe_str)
(pss_one (ps_ret (pe_split (pe_op op_add_str (pv 0) pe_str) pe_str)))), ?_⟩
    refine ⟨_, rfl, _, _, rfl, rfl, by decide +kernel, ⟨_, rfl⟩, _, _, rfl, rfl, by decide +kernel, by decide +kernel, fun p hp => k p _ hp ?_ (Keep.new hp)⟩
    rw [keys_text]; exact upd_same
theorem ok_law_number {f : Addr} {fd : FuncData} (D : C8.Def K mg "_law_number" s_law_number f fd) (b : Binds K fd ["pool"] []) (T : Txt K mg C_Tape C_Thinker C_Brain C_Mind C_Frame C_Thinking C_Checker T_EVENTS T_SIGNS T_ROUND_NAMES T_BRAIN_NAMES T_EFFECTS) {k : Nat} (c_law_draw : C8.Cal P w K mg base k "_law_draw" sp_law_draw []) : C8.Cal P w K mg base (k + 1) "_law_number" sp_law_number [] := by
  refine cal0 D b .nil sc_law_number (fun vs H Q E h => ?_) (fun cdv A outer s H vs Q E hr h => ?_)
  · obtain ⟨p, q, ns, rfl, _⟩ := h
    rfl
  · obtain ⟨p, q, ns, rfl, hP, k⟩ := h
    refine ⟨_, (pss_cons (ps_if (pt_cmpR op_eq (pe_c c_law_draw hr (by first | exact Nat.le_refl _ | decide | omega) rfl (pa_cons (pv 0) (pa_cons pe_int pa_nil))) pe_int (nomark _))
  (pss_one (ps_ret (pe_c c_law_draw hr (by first | exact Nat.le_refl _ | decide | omega) rfl (pa_cons (pv 0) (pa_cons pe_int pa_nil)))))
  pss_nil)
(pss_one (ps_ret (pe_c c_law_draw hr (by first | exact Nat.le_refl _ | decide | omega) rfl (pa_cons (pv 0) (pa_cons pe_int pa_nil)))))), ?_⟩
    refine ⟨_, rfl, p, q, ns, 3, rfl, by decide, by decide, hP, fun r H1 r0 r1 P1 K1 => ?_⟩
    refine ⟨rfl, _, rfl, iteD (fun _ => ?_) (fun _ => ?_)⟩
    · exact ⟨_, rfl, p, q, ns, _, rfl, by decide, by decide, P1, fun r2 H2 z0 z1 P2 K2 => k _ _ z0 z1 P2 (K1.trans K2)⟩
    · exact ⟨_, rfl, p, q, ns, _, rfl, by decide, by decide, P1, fun r2 H2 z0 z1 P2 K2 => k _ _ z0 (by omega) P2 (K1.trans K2)⟩
theorem ok_law_name {f : Addr} {fd : FuncData} (D : C8.Def K mg "_law_name" s_law_name f fd) (b : Binds K fd ["pool", "taken"] []) (T : Txt K mg C_Tape C_Thinker C_Brain C_Mind C_Frame C_Thinking C_Checker T_EVENTS T_SIGNS T_ROUND_NAMES T_BRAIN_NAMES T_EFFECTS) (c_law_draw : C8.Cal P w K mg base 1 "_law_draw" sp_law_draw []) (c_law_few : C8.Cal P w K mg base 2 "_law_few" sp_law_few [])
    (c_law_keys : C8.Cal P w K mg base 1 "_law_keys" sp_law_keys []) : C8.Cal P w K mg base 3 "_law_name" sp_law_name [] := by
  refine cal0 D b .nil sc_law_name (fun vs H Q E h => ?_) (fun cdv A outer s H vs Q E hr h => ?_)
  · obtain ⟨p, q, l, ns, ys, rfl, _⟩ := h
    rfl
  · obtain ⟨p, q, l, ns, ys, rfl, hl, nlp, hlen, hP, k⟩ := h
    refine ⟨_, (pss_cons (ps_set (i := 2) sc_law_name.nd rfl (by first | exact Or.inl rfl | exact Or.inr rfl) pe_str)
(pss_cons (ps_set (i := 3) sc_law_name.nd rfl (by first | exact Or.inl rfl | exact Or.inr rfl) (pe_ix ix_str (pv 2) (pe_c c_law_draw hr (by first | exact Nat.le_refl _ | decide | omega) rfl (pa_cons (pv 0) (pa_cons pe_int pa_nil))) (fun _ _ => rfl)))
(pss_cons (ps_for PassesOwn.never rfl (pi_range1 (by rfl) T.n_range (pa_cons (pe_c c_law_few hr (by first | exact Nat.le_refl _ | decide | omega) rfl (pa_cons (pv 0) (pa_cons pe_int pa_nil))) pa_nil)) (pg_name (i := 4) sc_law_name.nd rfl (by first | exact Or.inl rfl | exact Or.inr rfl))
  (pss_one (ps_set (i := 3) sc_law_name.nd rfl (by first | exact Or.inl rfl | exact Or.inr rfl) (pe_op op_add_str (pv 3) (pe_ix ix_str (pv 2) (pe_c c_law_draw hr (by first | exact Nat.le_refl _ | decide | omega) rfl (pa_cons (pv 0) (pa_cons pe_int pa_nil))) (fun _ _ => rfl))))))
(pss_cut (ps_if (PW.pt (pw_or (pt_cmpR op_in_seq (pv 3) (pv 1) (by rfl)) (pw_or1 (pt_cmpR op_in_seq (pv 3) (pe_c0 c_law_keys hr (by first | exact Nat.le_refl _ | decide | omega) rfl) (by rfl)))))
  (pss_one (ps_for PassesOwn.never rfl (pi_range1 (by rfl) T.n_range (pa_cons pe_int pa_nil)) (pg_name (i := 4) sc_law_name.nd rfl (by first | exact Or.inl rfl | exact Or.inr rfl))
    (pss_one (ps_if (pt_cmpR op_notIn_seq (pe_op op_add_str pe_str (pe_callTy call_str_int (by rfl) T.n_str bo_str (pa_cons (pv 4) pa_nil))) (pv 1) (by rfl))
      (pss_one (ps_set (i := 3) sc_law_name.nd rfl (by first | exact Or.inl rfl | exact Or.inr rfl) (pe_op op_add_str pe_str (pe_callTy call_str_int (by rfl) T.n_str bo_str (pa_cons (pv 4) pa_nil)))))
      pss_nil))))
  pss_nil)
(pss_one (ps_ret (pv 3))))))), ?_⟩
    obtain ⟨sg, hsgv, hsg, hso⟩ : ∃ sg : Str, sg = ("abcdefghijklmnopqrstuvwxyz0123456789" : Str) ∧ sg.length = 36 ∧ PyData.strOk sg = true := ⟨_, rfl, by decide +kernel, by decide +kernel⟩
    rw [← hsgv]
    have hsl : (TL.tl sg).length = 36 := by rw [← TL.len_tl]; exact hsg
    have l1 : ∀ c : Nat, (⟨#[c]⟩ : Str).length = 1 := fun _ => rfl
    refine ⟨_, rfl, _, rfl, p, q, ns, 26, rfl, by decide, by decide, hP, fun r H1 r0 r1 P1 K1 => ?_⟩
    obtain ⟨m, rfl⟩ : ∃ m : Nat, r = (m : Int) := ⟨r.toNat, by omega⟩
    have hm := List.getElem?_eq_getElem (show m < (TL.tl sg).length by omega)
    refine ⟨_, _, _, rfl, rfl, smallM (by omega), atI_nat hm, ?_⟩
    have ok0 := strOk_sign hso hm
    refine ⟨_, rfl, p, q, ns, 11, rfl, by decide, by decide, P1, fun f H2 f0 f1 P2 K2 => ?_⟩
    refine ⟨_, rfl, by omega, by omega, for_range (lo := 0) (n := f.toNat) (fun i σ H' => ∃ (z : Str) (o : Option V), σ = [some (.ref p), some (.ref l), some (.str sg), some (.str z), o] ∧ PyData.strOk z = true ∧ z.length = i + 1 ∧ Pool H' p q ns ∧ Keep [p] H H')
      ⟨_, none, rfl, ok0, l1 _, P2, K1.trans K2⟩ ?_ ?_⟩
    · rintro i σ H3 hi ⟨z, o, rfl, hz, hzl, P3, K3⟩
      refine ⟨_, rfl, _, rfl, _, rfl, p, q, ns, 36, rfl, by decide, by decide, P3, fun r H4 r0 r1 P4 K4 => ?_⟩
      obtain ⟨m, rfl⟩ : ∃ m : Nat, r = (m : Int) := ⟨r.toNat, by omega⟩
      have hm := List.getElem?_eq_getElem (show m < (TL.tl sg).length by omega)
      refine ⟨_, _, _, rfl, rfl, smallM (by omega), atI_nat hm, _, _, rfl, rfl, smallM (by rw [l1]; omega), ?_⟩
      exact ⟨_, _, rfl, by rw [strOk_app, hz, strOk_sign hso hm]; rfl, by rw [len_appN, l1, hzl], P4, K3.trans K4⟩
    · rintro σ H3 ⟨z, o, rfl, hz, hzl, P3, K3⟩
      have hl3 := K3 _ _ hl (by simpa using nlp)
      refine ⟨fun σ H' => ∃ (z : Str) (o : Option V), σ = [some (.ref p), some (.ref l), some (.str sg), some (.str z), o] ∧ z ∉ ys ∧ PyData.strOk z = true ∧ z.length ≤ 20 ∧ Pool H' p q ns ∧ Keep [p] H H', ?_, ?_⟩
      · have rest : ∀ (H4 : Hp), Pool H4 p q ns → Keep [p] H H4 → (fun (D : Ends) => True) = (fun (D : Ends) => True) := fun _ _ _ => rfl
        have inv : ∀ {H4 : Hp}, Pool H4 p q ns → Keep [p] H H4 → (fun (i : Nat) (σ : List (Option V)) (H' : Hp) => ∃ (z : Str) (o : Option V), σ = [some (.ref p), some (.ref l), some (.str sg), some (.str z), o] ∧ (z ∉ ys ∨ ∀ j, j < i → vN j ∈ ys) ∧ PyData.strOk z = true ∧ z.length ≤ 20 ∧ H' = H4) 0 [some (.ref p), some (.ref l), some (.str sg), some (.str z), o] H4 :=
          fun _ _ => ⟨_, _, rfl, .inr fun j hj => absurd hj (Nat.not_lt_zero _), hz, by omega, rfl⟩
        refine ⟨_, rfl, _, rfl, _, _, rfl, .inl (SqL.of hl3), rfl, flat_strs ys, _, rfl, iteB (fun e => ?_) (fun e => ?_)⟩
        · refine ⟨20, rfl, by decide, by decide, for_range (lo := 0) (n := 20) (fun (i : Nat) (σ : List (Option V)) (H' : Hp) => ∃ (z : Str) (o : Option V), σ = [some (.ref p), some (.ref l), some (.str sg), some (.str z), o] ∧ (z ∉ ys ∨ ∀ j, j < i → vN j ∈ ys) ∧ PyData.strOk z = true ∧ z.length ≤ 20 ∧ H' = H3) (inv P3 K3) ?_ ?_⟩
          · rintro i σ H' hi ⟨z, o, rfl, hzz, hz, hzl, rfl⟩
            have e0 : (0 : Int) + (i : Int) = (i : Int) := by omega
            rw [e0]
            have hv := vN_ok i hi
            have hlog : ((i : Nat) : Int).natAbs.log2 < 1920 := by
              rw [Int.natAbs_natCast]; exact PySem.Flt.log2_lt_of (by decide) (Nat.lt_trans (show i < 20 from hi) (by decide +kernel))
            have hvl : ("v" : Str).length + (Str.ofString (toString ((i : Nat) : Int))).length ≤ sizeLine := by
              have := hv.2; unfold vN at this; rw [len_appN] at this; exact smallM (by omega)
            refine ⟨_, rfl, _, rfl, hlog, _, _, rfl, rfl, hvl, _, rfl, _, _, rfl, .inl (SqL.of hl3), rfl, flat_strs ys, _, rfl, iteB (fun e => ?_) (fun e => ?_)⟩
            · have e' : (!inV (.str (vN i)) (ys.map V.str)) = true := e
              rw [inV_strs] at e'
              exact ⟨_, rfl, _, rfl, hlog, _, _, rfl, rfl, hvl, vN i, _, rfl, .inl (by simpa using e'), hv.1, by omega, rfl⟩
            · have e' : (!inV (.str (vN i)) (ys.map V.str)) = false := e
              rw [inV_strs] at e'
              refine ⟨z, _, rfl, ?_, hz, hzl, rfl⟩
              rcases hzz with hzz | hzz
              · exact .inl hzz
              · refine .inr fun j hj => ?_
                by_cases q : j = i
                · subst q; simpa using e'
                · exact hzz j (by omega)
          · rintro σ H' ⟨z, o, rfl, hzz, hz, hzl, rfl⟩
            exact ⟨z, o, rfl, hzz.elim id (fun g => (vN_free hlen g).elim), hz, hzl, P3, K3⟩
        · have e' : inV (.str z) (ys.map V.str) = false := e
          rw [inV_strs] at e'
          have hzy : z ∉ ys := by simpa using e'
          refine ⟨_, rfl, rfl, fun a H4 na ha K4 => ⟨_, _, rfl, .inl (SqL.of ha), rfl, flat_strs kwL, _, rfl, iteB (fun e => ?_) (fun e => ?_)⟩⟩
          · have P4 := P3.keep0 K4
            have K4' : Keep [p] H H4 := K3.trans (K4.mono (by simp))
            have hl4 := K4 _ _ hl3 (by simp)
            refine ⟨20, rfl, by decide, by decide, for_range (lo := 0) (n := 20) (fun (i : Nat) (σ : List (Option V)) (H' : Hp) => ∃ (z : Str) (o : Option V), σ = [some (.ref p), some (.ref l), some (.str sg), some (.str z), o] ∧ (z ∉ ys ∨ ∀ j, j < i → vN j ∈ ys) ∧ PyData.strOk z = true ∧ z.length ≤ 20 ∧ H' = H4) (inv P4 K4') ?_ ?_⟩
            · rintro i σ H' hi ⟨z, o, rfl, hzz, hz, hzl, rfl⟩
              have e0 : (0 : Int) + (i : Int) = (i : Int) := by omega
              rw [e0]
              have hv := vN_ok i hi
              have hlog : ((i : Nat) : Int).natAbs.log2 < 1920 := by
                rw [Int.natAbs_natCast]; exact PySem.Flt.log2_lt_of (by decide) (Nat.lt_trans (show i < 20 from hi) (by decide +kernel))
              have hvl : ("v" : Str).length + (Str.ofString (toString ((i : Nat) : Int))).length ≤ sizeLine := by
                have := hv.2; unfold vN at this; rw [len_appN] at this; exact smallM (by omega)
              refine ⟨_, rfl, _, rfl, hlog, _, _, rfl, rfl, hvl, _, rfl, _, _, rfl, .inl (SqL.of hl4), rfl, flat_strs ys, _, rfl, iteB (fun e => ?_) (fun e => ?_)⟩
              · have e' : (!inV (.str (vN i)) (ys.map V.str)) = true := e
                rw [inV_strs] at e'
                exact ⟨_, rfl, _, rfl, hlog, _, _, rfl, rfl, hvl, vN i, _, rfl, .inl (by simpa using e'), hv.1, by omega, rfl⟩
              · have e' : (!inV (.str (vN i)) (ys.map V.str)) = false := e
                rw [inV_strs] at e'
                refine ⟨z, _, rfl, ?_, hz, hzl, rfl⟩
                rcases hzz with hzz | hzz
                · exact .inl hzz
                · refine .inr fun j hj => ?_
                  by_cases q : j = i
                  · subst q; simpa using e'
                  · exact hzz j (by omega)
            · rintro σ H' ⟨z, o, rfl, hzz, hz, hzl, rfl⟩
              exact ⟨z, o, rfl, hzz.elim id (fun g => (vN_free hlen g).elim), hz, hzl, P4, K4'⟩
          · exact ⟨z, o, rfl, hzy, hz, by omega, P3.keep0 K4, K3.trans (K4.mono (by simp))⟩
      · rintro σ H4 ⟨z, o, rfl, hzy, hz, hzl, P4, K4⟩
        exact ⟨_, rfl, k _ _ hzy hz hzl P4 K4⟩
theorem ok_law_names {f : Addr} {fd : FuncData} (D : C8.Def K mg "_law_names" s_law_names f fd) (b : Binds K fd ["pool", "most"] []) (T : Txt K mg C_Tape C_Thinker C_Brain C_Mind C_Frame C_Thinking C_Checker T_EVENTS T_SIGNS T_ROUND_NAMES T_BRAIN_NAMES T_EFFECTS) (c_law_few : C8.Cal P w K mg base 2 "_law_few" sp_law_few []) (c_law_name : C8.Cal P w K mg base 3 "_law_name" sp_law_name []) : C8.Cal P w K mg base 4 "_law_names" sp_law_names [] := by
  refine cal0 D b .nil sc_law_names (fun vs H Q E h => ?_) (fun cdv A outer s H vs Q E hr h => ?_)
  · obtain ⟨p, q, ns, m, rfl, _⟩ := h
    rfl
  · obtain ⟨p, q, ns, m, rfl, m0, m1, hP, k⟩ := h
    refine ⟨_, (pss_cons (ps_set (i := 2) sc_law_names.nd rfl (by first | exact Or.inl rfl | exact Or.inr rfl) (pe_lst pa_nil))
(pss_cons (ps_for PassesOwn.never rfl (pi_range1 (by rfl) T.n_range (pa_cons (pe_c c_law_few hr (by first | exact Nat.le_refl _ | decide | omega) rfl (pa_cons (pv 0) (pa_cons (pv 1) pa_nil))) pa_nil)) (pg_name (i := 3) sc_law_names.nd rfl (by first | exact Or.inl rfl | exact Or.inr rfl))
  (pss_one (ps_expr (pe_bm PySem.F.plainAttrs_list PySem.F.slot_list_append PySem.F.type_list_append mt_append (pv 2) (pa_cons (pe_c c_law_name hr (by first | exact Nat.le_refl _ | decide | omega) rfl (pa_cons (pv 0) (pa_cons (pv 2) pa_nil))) pa_nil)))))
(pss_one (ps_ret (pv 2))))), ?_⟩
    refine ⟨by show 0 ≤ sizeLine; decide, fun l hl => ?_⟩
    have P1 := hP.new (o := .lst []) hl
    have nlp := hP.nep hl
    have nlq := hP.neq hl
    refine ⟨_, rfl, _, rfl, p, q, ns, m, rfl, m0, by omega, P1, fun f H2 f0 f1 P2 K2 => ?_⟩
    refine ⟨_, rfl, by omega, by omega, for_range (lo := 0) (n := f.toNat) (fun i σ H' => ∃ (ys : List Str) (o : Option V), σ = [some (.ref p), some (.int m), some (.ref l), o] ∧ H' l = some (.lst (ys.map V.str)) ∧ ys.length = i ∧ ys.Nodup ∧ NamesOk ys ∧ (∀ y ∈ ys, y.length ≤ 20) ∧ Pool H' p q ns ∧ Keep [p] H H')
      ⟨[], none, rfl, K2 _ _ upd_same (by simpa using nlp), rfl, List.nodup_nil, (fun _ h => by cases h), (fun _ h => by cases h), P2, (Keep.new hl).trans K2⟩ ?_ ?_⟩
    · rintro i σ H3 hi ⟨ys, o, rfl, hy, hyl, hnd, hno, hle, P3, K3⟩
      refine ⟨_, rfl, .inl ⟨rfl, _, SqL.of hy⟩, _, rfl, _, rfl, p, q, l, ns, ys, rfl, hy, nlp, by omega, P3, fun z H4 hz1 hz2 hz3 P4 K4 => ?_⟩
      have hy4 := K4 _ _ hy (by simpa using nlp)
      refine ⟨_, _, _, rfl, rfl, hy4, (by rw [List.length_map]; exact smallL (by omega)), ?_⟩
      refine ⟨ys ++ [z], _, rfl, by rw [List.map_append]; exact upd_same, by rw [List.length_append, hyl]; rfl, ?_, ?_, ?_, P4.own nlp nlq, (K3.trans K4).then_own hl⟩
      · rw [List.nodup_append]
        refine ⟨hnd, by simp, fun a ha b hb => ?_⟩
        rw [List.mem_singleton] at hb
        subst hb
        exact fun q => hz1 (q ▸ ha)
      · intro y hy
        rcases List.mem_append.mp hy with h | h
        · exact hno y h
        · rw [List.mem_singleton.mp h]; exact hz2
      · intro y hy
        rcases List.mem_append.mp hy with h | h
        · exact hle y h
        · rw [List.mem_singleton.mp h]; exact hz3
    · rintro σ H3 ⟨ys, o, rfl, hy, hyl, hnd, hno, hle, P3, K3⟩
      exact ⟨_, rfl, k l ys _ hl hy (by omega) hnd hno hle P3 K3⟩
end

theorem calUp {P : Program} {w : World} {K : PySem.W.Frag} {mg : Str → Option Value} {base : Heap} {j k : Nat} {x : Str} {sp : Sp} {dvs : List V} (c : C8.Cal P w K mg base j x sp dvs) (h : j ≤ k) : C8.Cal P w K mg base k x sp dvs := by
  obtain ⟨f, fd, ps, ds, F, hm, kp, b, d⟩ := c.ex
  exact ⟨f, fd, ps, ds, F.mono h, hm, kp, b, d⟩
theorem Pool.tk {H H' : Hp} {p q : Addr} {ns : PoolT} (h : Pool H p q ns) (k : Keep [p] H H') : TK H H' := by
  obtain ⟨_, h1⟩ := h.lst
  exact k.tk1 h1
theorem DcB.keep {H H' : Hp} {a : Addr} {ps : List Str} {on : Str → Bool} (h : DcB H a ps on) (k : Keep [] H H') : DcB H' a ps on := by
  obtain ⟨kvs, e, q⟩ := h
  exact ⟨kvs, k _ _ e (by simp), q⟩

/-! addresses that all stand and are unlike one another -/
structure Liv (H : Hp) (L : List Addr) : Prop where
  nd : L.Nodup
  on : ∀ a ∈ L, ∃ o, H a = some o
theorem Liv.nil {H : Hp} : Liv H [] := ⟨List.nodup_nil, fun _ h => by cases h⟩
theorem Liv.cons {H : Hp} {L : List Addr} {a : Addr} {o : HO} (h : Liv H L) (n : H a = none) : Liv (upd H a o) (a :: L) := by
  have hne : ∀ b ∈ L, b ≠ a := fun b hb => by obtain ⟨u, hu⟩ := h.on b hb; exact ne_of_none hu n
  refine ⟨List.nodup_cons.mpr ⟨fun z => hne a z rfl, h.nd⟩, fun b hb => ?_⟩
  rcases List.mem_cons.mp hb with rfl | hb
  · exact ⟨_, upd_same⟩
  · obtain ⟨u, hu⟩ := h.on b hb
    exact ⟨u, by rw [upd_ne (hne b hb)]; exact hu⟩
/-- one that stands, new since a heap in which the others stand -/
theorem Liv.cons' {H H' : Hp} {L : List Addr} {a : Addr} {o : HO} (h : Liv H L) (n : H a = none) (h' : Liv H' L) (ha : H' a = some o) : Liv H' (a :: L) :=
  ⟨List.nodup_cons.mpr ⟨fun z => (by obtain ⟨u, hu⟩ := h.on a z; rw [n] at hu; cases hu), h.nd⟩, fun b hb => by
    rcases List.mem_cons.mp hb with rfl | hb
    · exact ⟨_, ha⟩
    · exact h'.on b hb⟩
theorem Liv.keep {H H' : Hp} {L W : List Addr} (h : Liv H L) (k : Keep W H H') (w : ∀ a ∈ W, ∃ o, H' a = some o) : Liv H' L :=
  ⟨h.nd, fun a ha => by
    by_cases z : a ∈ W
    · exact w a z
    · obtain ⟨o, ho⟩ := h.on a ha
      exact ⟨o, k _ _ ho z⟩⟩
theorem Liv.keep0 {H H' : Hp} {L : List Addr} (h : Liv H L) (k : Keep [] H H') : Liv H' L := h.keep k fun _ z => by cases z
theorem Liv.keep1 {H H' : Hp} {L : List Addr} {p : Addr} {o : HO} (h : Liv H L) (k : Keep [p] H H') (hp : H' p = some o) : Liv H' L := h.keep k fun a z => by
  rw [List.mem_singleton] at z; exact ⟨o, by rw [z]; exact hp⟩
theorem nodup_ne {L : List Addr} (h : L.Nodup) {i j : Nat} {a b : Addr} (ha : L[i]? = some a) (hb : L[j]? = some b) (hij : i ≠ j) : a ≠ b := by
  obtain ⟨h1, e1⟩ := List.getElem?_eq_some_iff.mp ha
  obtain ⟨h2, e2⟩ := List.getElem?_eq_some_iff.mp hb
  have hp := List.pairwise_iff_getElem.mp h
  rcases Nat.lt_or_gt_of_ne hij with z | z
  · have := hp i j h1 h2 z
    rwa [e1, e2] at this
  · have := hp j i h2 h1 z
    rw [e1, e2] at this
    exact fun w => this w.symm
theorem Liv.ne {H : Hp} {L : List Addr} (h : Liv H L) (i j : Nat) {a b : Addr} (ha : L[i]? = some a) (hb : L[j]? = some b) (hij : i ≠ j := by decide) : a ≠ b := nodup_ne h.nd ha hb hij
theorem Liv.notNew {H : Hp} {L : List Addr} (h : Liv H L) {a : Addr} (n : H a = none) : a ∉ L := fun z => by
  obtain ⟨u, hu⟩ := h.on a z; rw [n] at hu; cases hu
theorem Liv.cons2 {H H' : Hp} {L : List Addr} {a b : Addr} {o u : HO} (h : Liv H L) (na : H a = none) (nb : H b = none) (ne : a ≠ b) (h' : Liv H' L) (ha : H' a = some o) (hb : H' b = some u) : Liv H' (b :: a :: L) := by
  have h1 := h.cons' na h' ha
  refine ⟨List.nodup_cons.mpr ⟨fun z => ?_, h1.nd⟩, fun c hc => ?_⟩
  · rcases List.mem_cons.mp z with z | z
    · exact ne z.symm
    · exact h.notNew nb z
  · rcases List.mem_cons.mp hc with rfl | hc
    · exact ⟨_, hb⟩
    · exact h1.on c hc
/-- a new instance and its dict -/
theorem Liv.made {H : Hp} {L : List Addr} {x d : Addr} {o : HO} (h : Liv H L) (nx : H x = none) (nd : H d = none) (ne : d ≠ x) : Liv (upd (upd H d (.own x)) x o) (x :: L) :=
  (h.keep0 (Keep.new nd)).cons (by rw [upd_ne ne.symm]; exact nx)
theorem made_at {H : Hp} {x d b : Addr} {o u : HO} (hx : H x = none) (hd : H d = none) (h : H b = some u) : upd (upd H d (.own x)) x o b = some u := by
  rw [upd_ne (ne_of_none h hx), upd_ne (ne_of_none h hd)]; exact h
theorem Keep.made {H : Hp} {x d : Addr} {o : HO} (hx : H x = none) (hd : H d = none) : Keep [] H (upd (upd H d (.own x)) x o) := fun _ _ h _ => made_at hx hd h
theorem Keep.tkL {H H' : Hp} {W : List Addr} (k : Keep W H H') (h : ∀ a ∈ W, ∃ ys, H a = some (.lst ys)) : TK H H' := fun b xs q => k b _ q fun z => by
  obtain ⟨ys, hy⟩ := h b z
  rw [q] at hy; cases hy

/-! tapes -/
inductive PL (H : Hp) : List V → List (Int × Int) → Prop
  | nil : PL H [] []
  | cons {t : Addr} {r c : Int} {vs : List V} {l : List (Int × Int)} : H t = some (.tup [.int r, .int c]) → PL H vs l → PL H (.ref t :: vs) ((r, c) :: l)
theorem PL.tk {H H' : Hp} (k : TK H H') {vs : List V} {l : List (Int × Int)} (h : PL H vs l) : PL H' vs l := by
  induction h with
  | nil => exact .nil
  | cons h _ ih => exact .cons (k _ _ h) ih
theorem PL.snoc {H : Hp} {vs : List V} {l : List (Int × Int)} {t : Addr} {r c : Int} (h : PL H vs l) (ht : H t = some (.tup [.int r, .int c])) : PL H (vs ++ [.ref t]) (l ++ [(r, c)]) := by
  induction h with
  | nil => exact .cons ht .nil
  | cons h _ ih => exact .cons h ih
theorem PL.len {H : Hp} {vs : List V} {l : List (Int × Int)} (h : PL H vs l) : vs.length = l.length := by
  induction h with
  | nil => rfl
  | cons _ _ ih => rw [List.length_cons, List.length_cons, ih]
theorem PL.get {H : Hp} {vs : List V} {l : List (Int × Int)} (h : PL H vs l) : ∀ {i : Nat} {v : V}, vs[i]? = some v → ∃ t r c, v = .ref t ∧ l[i]? = some (r, c) ∧ H t = some (.tup [.int r, .int c]) := by
  induction h with
  | nil => intro i v h; simp at h
  | cons h _ ih =>
    intro i v hv
    cases i with
    | zero => simp at hv; subst hv; exact ⟨_, _, _, rfl, rfl, h⟩
    | succ i => simpa using ih (by simpa using hv)
structure TapeAt (C : Addr) (H : Hp) (x rx tx : Addr) (rs : List Int) (tk : List (Int × Int)) : Prop where
  o : ∃ dx, H x = some (.ins C dx [("results", .ref rx), ("taken", .ref tx)])
  r : H rx = some (.lst (rs.map V.int))
  t : ∃ xs, H tx = some (.lst xs) ∧ PL H xs tk
  ne : rx ≠ tx
theorem TapeAt.keep {C : Addr} {H H' : Hp} {x rx tx : Addr} {rs : List Int} {tk : List (Int × Int)} {W : List Addr} (h : TapeAt C H x rx tx rs tk) (k : Keep W H H') (kt : TK H H') (w1 : x ∉ W) (w2 : rx ∉ W) (w3 : tx ∉ W) : TapeAt C H' x rx tx rs tk := by
  obtain ⟨dx, o⟩ := h.o
  obtain ⟨xs, t1, t2⟩ := h.t
  exact ⟨⟨dx, k _ _ o w1⟩, k _ _ h.r w2, ⟨xs, k _ _ t1 w3, t2.tk kt⟩, h.ne⟩
def nextR (rs : List Int) (tk : List (Int × Int)) (c : Int) : Int := if tk.length < rs.length then (rs.getD tk.length 0) % c else 0
def sp_tape (K : PySem.W.Frag) (C : Addr) : Sp := fun vs H Q _ => ∃ (x dx src : Addr) (rs : List Int), vs = [.ref x, .ref src] ∧ SqL K H src (rs.map V.int) ∧ H x = some (.ins C dx []) ∧ ∀ rx tx H', H rx = none → H tx = none → Keep [x] H H' → TapeAt C H' x rx tx rs [] → Q .non H'
def sp_take (C : Addr) : Sp := fun vs H Q _ => ∃ (x rx tx : Addr) (rs : List Int) (tk : List (Int × Int)) (c : Int), vs = [.ref x, .int c] ∧ 0 < c ∧ c < 1073741824 ∧ tk.length ≤ 100000 ∧ TapeAt C H x rx tx rs tk ∧
  ∀ H', Keep [tx] H H' → TapeAt C H' x rx tx rs (tk ++ [(nextR rs tk c, c)]) → Q (.int (nextR rs tk c)) H'
section
variable {P : Program} {w : World} {K : PySem.W.Frag} {mg : Str → Option Value} {base : Heap} {C_Tape : Addr} {C_Thinker : Addr} {C_Brain : Addr} {C_Mind : Addr} {C_Frame : Addr} {C_Thinking : Addr} {C_Checker : Addr} {T_EVENTS : Addr} {T_SIGNS : Addr} {T_ROUND_NAMES : Addr} {T_BRAIN_NAMES : Addr} {T_EFFECTS : Addr}
theorem ok_tape_init {f : Addr} {fd : FuncData} (M : Mk K C_Tape f) (F : C8.Fun K "__init__" "Tape.__init__" s_Tape___init f fd) (b : Binds K fd ["self", "results"] []) (T : Txt K mg C_Tape C_Thinker C_Brain C_Mind C_Frame C_Thinking C_Checker T_EVENTS T_SIGNS T_ROUND_NAMES T_BRAIN_NAMES T_EFFECTS) :
    C8.Mak P w K mg base 1 "Tape" C_Tape (sp_tape K C_Tape) [] := by
  refine mak0 M T.m_Tape F b .nil sc_Tape___init (fun vs H Q E h => ?_) (fun cdv A outer s H vs Q E hr h => ?_)
  · obtain ⟨x, dx, src, rs, rfl, _⟩ := h
    rfl
  · obtain ⟨x, dx, src, rs, rfl, hS, hx, k⟩ := h
    refine ⟨_, (pss_cons (ps_fld (pv 0) (pe_callTy call_list_of (by rfl) T.n_list bo_list (pa_cons (pv 1) pa_nil)) rfl)
(pss_one (ps_fld (pv 0) (pe_lst pa_nil) rfl))), ?_⟩
    refine ⟨_, rfl, _, _, rfl, .inl hS, fun rx nrx => ?_⟩
    have exr : x ≠ rx := ne_of_none hx nrx
    refine ⟨_, rfl, x, C_Tape, dx, [], rfl, by rw [upd_ne exr]; exact hx, T.cl_Tape, T.a_Tape_results, by show 0 < 1000; decide, ?_⟩
    refine ⟨by show 0 ≤ sizeLine; decide, fun tx ntx => ?_⟩
    have ext : x ≠ tx := ne_of_none (H := upd (upd H rx (.lst (rs.map V.int))) x _) upd_same ntx
    have ert : rx ≠ tx := ne_of_none (H := upd (upd H rx (.lst (rs.map V.int))) x _) (by rw [upd_ne exr.symm]; exact upd_same) ntx
    refine ⟨_, rfl, x, C_Tape, dx, _, rfl, by rw [upd_ne ext]; exact upd_same, T.cl_Tape, T.a_Tape_taken, by show 1 < 1000; decide, ?_⟩
    have ntx' : H tx = none := by
      rw [upd_ne ext.symm, upd_ne ert.symm] at ntx
      exact ntx
    refine k rx tx _ nrx ntx' ?_ ⟨⟨dx, upd_same⟩, ?_, ⟨[], ?_, .nil⟩, ert⟩
    · exact (((Keep.new nrx).then_at (List.mem_singleton.mpr rfl)).then_own ntx').then_at (List.mem_singleton.mpr rfl)
    · rw [upd_ne exr.symm, upd_ne ert, upd_ne exr.symm]; exact upd_same
    · rw [upd_ne ext.symm]; exact upd_same
theorem ok_tape_take {f : Addr} {fd : FuncData} (me : Meth K C_Tape "take" f) (F : C8.Fun K "take" "Tape.take" s_Tape_take f fd) (b : Binds K fd ["self", "count"] []) (T : Txt K mg C_Tape C_Thinker C_Brain C_Mind C_Frame C_Thinking C_Checker T_EVENTS T_SIGNS T_ROUND_NAMES T_BRAIN_NAMES T_EFFECTS) : C8.Met P w K mg base 1 C_Tape "take" (sp_take C_Tape) [] := by
  refine met0 T.cl_Tape me F b sc_Tape_take (fun vs H Q E h => ?_) (fun cdv A outer s H vs Q E hr h => ?_)
  · obtain ⟨x, rx, tx, rs, tk, c, rfl, _⟩ := h
    rfl
  · obtain ⟨x, rx, tx, rs, tk, c, rfl, c0, c1, hl, ⟨⟨dx, ho⟩, hr1, ⟨xs, ht, pl⟩, hne⟩, k⟩ := h
    refine ⟨_, (pss_cons (ps_set (i := 2) sc_Tape_take.nd rfl (by first | exact Or.inl rfl | exact Or.inr rfl) pe_int)
(pss_cut (ps_if (pt_cmpR op_lt (pe_callB call_len_seq (by rfl) T.n_len bo_len (pa_cons (pe_fld (pv 0) rfl) pa_nil)) (pe_callB call_len_seq (by rfl) T.n_len bo_len (pa_cons (pe_fld (pv 0) rfl) pa_nil)) (nomark _))
  (pss_one (ps_set (i := 2) sc_Tape_take.nd rfl (by first | exact Or.inl rfl | exact Or.inr rfl) (pe_op op_mod (pe_ix ix_list (pe_fld (pv 0) rfl) (pe_callB call_len_seq (by rfl) T.n_len bo_len (pa_cons (pe_fld (pv 0) rfl) pa_nil)) (fun _ _ => rfl)) (pv 1))))
  pss_nil)
(pss_cons (ps_expr (pe_bm PySem.F.plainAttrs_list PySem.F.slot_list_append PySem.F.type_list_append mt_append (pe_fld (pv 0) rfl) (pa_cons (pe_tup (pa_cons (pv 2) (pa_cons (pv 1) pa_nil))) pa_nil)))
(pss_one (ps_ret (pv 2)))))), ?_⟩
    refine ⟨fun σ H' => H' = H ∧ σ = [some (.ref x), some (.int c), some (.int (nextR rs tk c))], ?_, ?_⟩
    · have hlen := pl.len
      refine ⟨_, rfl, x, C_Tape, dx, _, _, rfl, ho, T.cl_Tape, T.a_Tape_taken, rfl, _, _, rfl, .inl (SqL.of ht), _, rfl, x, C_Tape, dx, _, _, rfl, ho, T.cl_Tape, T.a_Tape_results, rfl, _, _, rfl, .inl (SqL.of hr1), _, _, rfl, rfl, _, rfl, iteD (fun h => ?_) (fun h => ⟨rfl, ?_⟩)⟩
      · rw [List.length_map, hlen] at h
        have h' : tk.length < rs.length := by omega
        have hget : (rs.map V.int)[xs.length]? = some (.int (rs.getD tk.length 0)) := by
          rw [hlen, List.getElem?_map, List.getD_eq_getElem?_getD, List.getElem?_eq_getElem h']; rfl
        refine ⟨_, rfl, x, C_Tape, dx, _, _, rfl, ho, T.cl_Tape, T.a_Tape_results, rfl, _, rfl, x, C_Tape, dx, _, _, rfl, ho, T.cl_Tape, T.a_Tape_taken, rfl, _, _, rfl, .inl (SqL.of ht), _, _, _, _, rfl, rfl, SqL.of hr1, atI_nat hget, _, rfl, _, _, rfl, rfl, c0, rfl, ?_⟩
        unfold nextR
        rw [if_pos h']; rfl
      · rw [List.length_map, hlen] at h
        unfold nextR
        rw [if_neg (by omega)]; rfl
    rintro σ H' ⟨rfl, rfl⟩
    refine ⟨_, rfl, x, C_Tape, dx, _, _, rfl, ho, T.cl_Tape, T.a_Tape_taken, rfl, .inl ⟨rfl, _, SqL.of ht⟩, _, rfl, _, rfl, by show 2 ≤ sizeLine; decide, fun u nu => ?_⟩
    have ku : Keep [] H' (upd H' u (.tup [.int (nextR rs tk c), .int c])) := Keep.new nu
    have ht' := ku _ _ ht (by simp)
    have eut : u ≠ tx := (ne_of_none ht nu).symm
    have ext : x ≠ tx := ne_of ho ht (by intro z; cases z)
    refine ⟨_, _, _, rfl, rfl, ht', by rw [pl.len]; exact smallL (by omega), ?_⟩
    have kk : Keep [tx] H' (upd (upd H' u (.tup [.int (nextR rs tk c), .int c])) tx (.lst (xs ++ [.ref u]))) := (ku.mono (by simp)).then_at (List.mem_singleton.mpr rfl)
    have kt : TK H' (upd (upd H' u (.tup [.int (nextR rs tk c), .int c])) tx (.lst (xs ++ [.ref u]))) := (TK.new nu).trans (TK.lst ht')
    exact ⟨_, rfl, k _ kk ⟨⟨dx, kk _ _ ho (by simpa using ext)⟩, kk _ _ hr1 (by simpa using hne), ⟨_, upd_same, (pl.tk kt).snoc (by rw [upd_ne eut]; exact upd_same)⟩, hne⟩⟩
end

/-! a def that lets nothing out, called with keywords -/
structure CalK0 (P : Program) (w : World) (K : PySem.W.Frag) (mg : Str → Option Value) (base : Heap) (k : Nat) (x : Str) (sp : Sp) (n : Nat) (ks : List Str) (gV : List V → List V → List V) : Prop where
  ex : ∃ (f : Addr) (fd : FuncData) (ps : List Str) (g : List Value → List Value → List Value), FnOk P w K mg base C8.CX0 k f fd ps sp ∧ mg x = some (.ref f) ∧ PySem.W.keepIn K (.ref f) = true ∧ KBn K fd ps n ks g gV
section
variable {X : Cx} {k j n : Nat} {x : Str} {sp : Sp} {p pos : Pos} {e : Expr} {es : List Expr} {t tk : TA} {ks : List Str} {gV : List V → List V → List V} {kws : List Keyword}
def tCallK0 (sp : Sp) (n : Nat) (ks : List Str) (gV : List V → List V → List V) (t tk : TA) : TE := fun σ H Q => t σ H fun vs H1 => tk σ H1 fun zs H2 => vs.length = n ∧ zs.length = ks.length ∧ sp (gV vs zs) H2 Q C8.E0
theorem pe_cK (c : CalK0 X.prog X.w X.K X.mg X.base k x sp n ks gV) (hr : Room j X.A) (hk : k ≤ j) (hg : Gl X x) (ha : PA X (e :: es) t) (hkw : PK X kws tk)
    (hall : (backToKw pos (keywordEach kws X.env)).all (·.1.isSome) = true := by rfl) (hks : (backToKw pos (keywordEach kws X.env)).filterMap (·.1) = ks := by rfl)
    (hdb : (x == ("__debug__" : Str)) = false := by decide) (he : starEach (e :: es) X.env = (false, eval e X.env) :: starEach es X.env := by rfl)
    (hpl : ((backTo pos (starEach (e :: es) X.env)).any (·.1) || (backToKw pos (keywordEach kws X.env)).any (·.1.isNone)) = false := by rfl) :
    PE X (.Call (.Name x p) (e :: es) kws pos) (tCallK0 sp n ks gV t tk) := by
  obtain ⟨f, fd, ps, g, F, hm, kp, b⟩ := c.ex
  refine ⟨fun pins s σ H Q I h => wpAny_Call_Name_kw (ld_glob I hg hm (PySem.W.callWith_KW (h₀ := X.base) I.ok.mod.kin kp hall (thn (ha.run pos pins s σ H _ I h) fun us s1 ⟨vs, H1, I1, r, q⟩ => ?_) hpl he) hdb)⟩
  refine thn (hkw.run pos pins s1 σ H1 _ I1 q) fun ws s2 ⟨zs, H2, I2, rz, l1, l2, q2⟩ => ⟨I2.kIn, ?_⟩
  rw [hks]
  have r2 := b.rel r rz
  refine wpAny_call (codeAny_mono (F.run X.A X.stack s2 H2 ⟨us, ks.zip ws⟩ (g us ws) (gV vs zs) Q C8.E0 (hr.mono hk) I2.env0 (b.to s2 us ws I2.kIn (r.length.symm.trans l1) (rz.length.symm.trans l2)) r2 q2) fun r s' hq => ?_)
  cases r with
  | error er => exact C8.pass0 (E := C8.E0) pins σ H2 s2 er s' I2 hq
  | ok fl =>
    cases fl with
    | ret u => exact I2.after hq
    | next => exact hq.elim
    | brk => exact hq.elim
    | cont => exact hq.elim
end

/-! codes of expressions, in plain words -/
inductive Ins where
  | push (n : Int)
  | load (x : Str)
  | long
  | view
  | sign (s : Str)
def idx : List Str → Str → Nat
  | [], _ => 0
  | y :: r, x => if y = x then 0 else idx r x + 1
theorem idx_get : ∀ {ys : List Str} {x : Str}, x ∈ ys → ys[idx ys x]? = some x ∧ ∀ m, m < idx ys x → ys[m]? ≠ some x
  | [], x, h => by cases h
  | y :: r, x, h => by
    unfold idx
    by_cases e : y = x
    · rw [if_pos e]
      exact ⟨by rw [e]; rfl, fun m hm => absurd hm (Nat.not_lt_zero _)⟩
    · rw [if_neg e]
      have hx : x ∈ r := by
        rcases List.mem_cons.mp h with q | q
        · exact absurd q.symm e
        · exact q
      have ih := idx_get hx
      refine ⟨by simpa using ih.1, fun m hm => ?_⟩
      cases m with
      | zero => simpa using e
      | succ m => simpa using ih.2 m (by omega)
theorem idx_lt {ys : List Str} {x : Str} (h : x ∈ ys) : idx ys x < ys.length := (List.getElem?_eq_some_iff.mp (idx_get h).1).1
def tagI : Ins → Str
  | .push _ => "push"
  | .load _ => "load"
  | .long => "long"
  | .view => "view"
  | .sign _ => "sign"
def numI (ns : List Str) : Ins → Int
  | .push n => n
  | .load x => (idx ns x : Nat)
  | .long => 0
  | .view => 0
  | .sign s => (idx sgL s : Nat)
def code (on : Str → Bool) : Ex → List Ins
  | .num n => [.push n]
  | .var x => [.load x]
  | .long => [.long]
  | .view e => code on e ++ [.view]
  | .pick x l r => if on x = true then code on l else code on r
  | .op s l r => code on l ++ code on r ++ [.sign s]
theorem code_len (on : Str → Bool) : ∀ e : Ex, (code on e).length + 1 ≤ 2 ^ e.dep
  | .num _ => by show 1 + 1 ≤ 2 ^ 1; decide
  | .var _ => by show 1 + 1 ≤ 2 ^ 1; decide
  | .long => by show 1 + 1 ≤ 2 ^ 1; decide
  | .view e => by
    have := code_len on e
    have h1 : 1 ≤ 2 ^ e.dep := Nat.one_le_two_pow
    show (code on e ++ [Ins.view]).length + 1 ≤ 2 ^ (e.dep + 1)
    rw [List.length_append, Nat.pow_succ]
    simp only [List.length_cons, List.length_nil]; omega
  | .pick x l r => by
    have a := code_len on l
    have b := code_len on r
    have hl : 2 ^ l.dep ≤ 2 ^ (max l.dep r.dep + 1) := Nat.pow_le_pow_right (by decide) (by omega)
    have hr : 2 ^ r.dep ≤ 2 ^ (max l.dep r.dep + 1) := Nat.pow_le_pow_right (by decide) (by omega)
    show (if on x = true then code on l else code on r).length + 1 ≤ 2 ^ (max l.dep r.dep + 1)
    split <;> omega
  | .op s l r => by
    have a := code_len on l
    have b := code_len on r
    have hl : 2 ^ l.dep ≤ 2 ^ max l.dep r.dep := Nat.pow_le_pow_right (by decide) (by omega)
    have hr : 2 ^ r.dep ≤ 2 ^ max l.dep r.dep := Nat.pow_le_pow_right (by decide) (by omega)
    show (code on l ++ code on r ++ [Ins.sign s]).length + 1 ≤ 2 ^ (max l.dep r.dep + 1)
    rw [List.length_append, List.length_append, Nat.pow_succ]
    simp only [List.length_cons, List.length_nil]; omega
theorem code_small (on : Str → Bool) {e : Ex} (h : e.dep ≤ 13) : (code on e).length ≤ 8192 := by
  have := code_len on e
  have h2 : 2 ^ e.dep ≤ 2 ^ 13 := Nat.pow_le_pow_right (by decide) h
  have h3 : (2 : Nat) ^ 13 = 8192 := by decide
  omega
def Ins.Ok (ns : List Str) : Ins → Prop
  | .push n => 0 ≤ n ∧ n < 65536
  | .load x => x ∈ ns
  | .long => True
  | .view => True
  | .sign s => s ∈ sgL
theorem code_ok {ns ps : List Str} (on : Str → Bool) : ∀ e : Ex, e.Ok ns ps → ∀ i ∈ code on e, i.Ok ns
  | .num n, h, i, hi => by rw [List.mem_singleton.mp hi]; exact h
  | .var n, h, i, hi => by rw [List.mem_singleton.mp hi]; exact h
  | .long, h, i, hi => by rw [List.mem_singleton.mp hi]; trivial
  | .view e, h, i, hi => by
    rcases List.mem_append.mp hi with q | q
    · exact code_ok on e h i q
    · rw [List.mem_singleton.mp q]; trivial
  | .pick x l r, ⟨_, h2, h3⟩, i, hi => by
    have hi' : i ∈ if on x = true then code on l else code on r := hi
    split at hi'
    · exact code_ok on l h2 i hi'
    · exact code_ok on r h3 i hi'
  | .op s l r, ⟨h1, h2, h3⟩, i, hi => by
    rcases List.mem_append.mp hi with q | q
    · rcases List.mem_append.mp q with q | q
      · exact code_ok on l h2 i q
      · exact code_ok on r h3 i q
    · rw [List.mem_singleton.mp q]; exact h1
def vw (seen : List Int) (a : Int) : Int := if a < seen.length then seen.getD a.toNat 0 else 0
/-- one step; the stack from the top -/
def step (tb : Str → Int) (seen : List Int) : Ins → List Int → Option (List Int)
  | .push n, R => some (n :: R)
  | .load x, R => some (tb x :: R)
  | .long, R => some ((seen.length : Int) :: R)
  | .view, a :: r => some (vw seen a :: r)
  | .view, [] => none
  | .sign s, b :: a :: r => some (comb s a b :: r)
  | .sign _, _ => none
def runI (tb : Str → Int) (seen : List Int) : List Ins → List Int → Option (List Int)
  | [], R => some R
  | i :: r, R => (step tb seen i R).bind (runI tb seen r)
theorem run_app (tb : Str → Int) (seen : List Int) : ∀ (a b : List Ins) (R : List Int), runI tb seen (a ++ b) R = (runI tb seen a R).bind (runI tb seen b)
  | [], b, R => rfl
  | i :: a, b, R => by
    show (step tb seen i R).bind (runI tb seen (a ++ b)) = ((step tb seen i R).bind (runI tb seen a)).bind _
    cases step tb seen i R with
    | none => rfl
    | some R' => exact run_app tb seen a b R'
theorem run_code {tb : Str → Int} {on : Str → Bool} {seen : List Int} (hs : seen.length ≤ 65535) : ∀ (e : Ex) (R : List Int), runI tb seen (code on e) R = some (val tb on seen e :: R)
  | .num _, R => rfl
  | .var _, R => rfl
  | .long, R => by
    show some ((seen.length : Int) :: R) = some ((if (65535 : Int) < seen.length then 65535 else (seen.length : Int)) :: R)
    rw [if_neg (by omega)]
  | .view e, R => by
    show runI tb seen (code on e ++ [.view]) R = _
    rw [run_app, run_code hs e R]; rfl
  | .pick x l r, R => by
    show runI tb seen (if on x = true then code on l else code on r) R = some ((if on x = true then val tb on seen l else val tb on seen r) :: R)
    split
    · exact run_code hs l R
    · exact run_code hs r R
  | .op s l r, R => by
    show runI tb seen (code on l ++ code on r ++ [.sign s]) R = _
    rw [run_app, run_app, run_code hs l R]
    show ((runI tb seen (code on r) (val tb on seen l :: R)).bind _) = _
    rw [run_code hs r _]; rfl
def InR (R : List Int) : Prop := ∀ x ∈ R, 0 ≤ x ∧ x < 65536
theorem step_range {ns : List Str} {tb : Str → Int} {seen : List Int} (ht : TbOk ns tb) (hs : SeenOk seen) (hl : seen.length ≤ 65535) {i : Ins} (hi : i.Ok ns) {R R' : List Int} (hR : InR R) (h : step tb seen i R = some R') : InR R' := by
  have tl : ∀ {a : Int} {r : List Int}, InR (a :: r) → InR r := fun h x hx => h x (List.mem_cons_of_mem _ hx)
  have cn : ∀ {a : Int} {r : List Int}, (0 ≤ a ∧ a < 65536) → InR r → InR (a :: r) := fun h h2 x hx => by
    rcases List.mem_cons.mp hx with q | q
    · rw [q]; exact h
    · exact h2 x q
  cases i with
  | push n => cases h; exact cn hi hR
  | load x => cases h; exact cn (ht x hi) hR
  | long => cases h; exact cn (by omega) hR
  | view =>
    cases R with
    | nil => cases h
    | cons a r =>
      cases h
      refine cn ?_ (tl hR)
      have ha := hR a (List.mem_cons_self ..)
      unfold vw
      split
      · have : a.toNat < seen.length := by omega
        rw [List.getD_eq_getElem?_getD, List.getElem?_eq_getElem this]
        exact hs _ (List.getElem_mem this)
      · omega
  | sign s =>
    match R, h with
    | b :: a :: r, h =>
      cases h
      have hb := hR b (List.mem_cons_self ..)
      have ha := tl hR a (List.mem_cons_self ..)
      exact cn (comb_range hi ha.1 ha.2 hb.1 hb.2) (tl (tl hR))
theorem run_take {tb : Str → Int} {seen : List Int} {c : List Ins} {R : List Int} (h : runI tb seen c [] = some R) {i : Nat} {x : Ins} (hx : c[i]? = some x) {Ri : List Int} (hi : runI tb seen (c.take i) [] = some Ri) : ∃ R', step tb seen x Ri = some R' ∧ runI tb seen (c.take (i + 1)) [] = some R' := by
  obtain ⟨hlt, he⟩ := List.getElem?_eq_some_iff.mp hx
  have e : c = c.take (i + 1) ++ c.drop (i + 1) := (List.take_append_drop _ _).symm
  have e2 : c.take (i + 1) = c.take i ++ [x] := by rw [List.take_succ_eq_append_getElem hlt, he]
  rw [e, e2, run_app, run_app, hi] at h
  cases q : step tb seen x Ri with
  | none =>
    have : (Option.some Ri).bind (runI tb seen [x]) = none := by
      show (step tb seen x Ri).bind _ = none
      rw [q]; rfl
    rw [this] at h; cases h
  | some R' =>
    refine ⟨R', rfl, ?_⟩
    rw [e2, run_app, hi]
    show (step tb seen x Ri).bind _ = _
    rw [q]; rfl
/-- a tuple that was made at work -/
def Ad (K : PySem.W.Frag) (H : Hp) (a : Addr) (xs : List V) : Prop := H a = some (.tup xs) ∨ False
theorem Ad.get {K : PySem.W.Frag} {H : Hp} {a : Addr} {xs : List V} (h : Ad K H a xs) : H a = some (.tup xs) := h.elim id False.elim
theorem Ad.at {K : PySem.W.Frag} {H : Hp} {a : Addr} {xs : List V} (h : Ad K H a xs) : At K H a xs := .inl h.get
theorem Ad.sq {K : PySem.W.Frag} {H : Hp} {a : Addr} {xs : List V} (h : Ad K H a xs) : SqT K H a xs := SqT.of h.get
theorem Ad.tk {K : PySem.W.Frag} {H H' : Hp} {a : Addr} {xs : List V} (k : TK H H') (h : Ad K H a xs) : Ad K H' a xs := .inl (k _ _ h.get)
inductive CL (K : PySem.W.Frag) (H : Hp) (ns : List Str) : List V → List Ins → Prop
  | nil : CL K H ns [] []
  | cons {t : Addr} {i : Ins} {vs : List V} {c : List Ins} : Ad K H t [.str (tagI i), .int (numI ns i)] → CL K H ns vs c → CL K H ns (.ref t :: vs) (i :: c)
section
variable {K : PySem.W.Frag} {ns : List Str}
theorem CL.tk {H H' : Hp} (k : TK H H') {vs : List V} {c : List Ins} (h : CL K H ns vs c) : CL K H' ns vs c := by
  induction h with
  | nil => exact .nil
  | cons h _ ih => exact .cons (h.tk k) ih
theorem CL.app {H : Hp} {vs ws : List V} {c d : List Ins} (h : CL K H ns vs c) (g : CL K H ns ws d) : CL K H ns (vs ++ ws) (c ++ d) := by
  induction h with
  | nil => exact g
  | cons h _ ih => exact .cons h ih
theorem CL.len {H : Hp} {vs : List V} {c : List Ins} (h : CL K H ns vs c) : vs.length = c.length := by
  induction h with
  | nil => rfl
  | cons h _ ih => rw [List.length_cons, List.length_cons, ih]
theorem CL.get {H : Hp} {vs : List V} {c : List Ins} (h : CL K H ns vs c) : ∀ {i : Nat} {v : V}, vs[i]? = some v → ∃ t x, v = .ref t ∧ c[i]? = some x ∧ Ad K H t [.str (tagI x), .int (numI ns x)] := by
  induction h with
  | nil => intro i v h; simp at h
  | cons h _ ih =>
    intro i v hv
    cases i with
    | zero => simp at hv; subst hv; exact ⟨_, _, rfl, rfl, h⟩
    | succ i => simpa using ih (by simpa using hv)
theorem CL.same {H : Hp} {n : Nat} {vs : List V} {c : List Ins} (h : CL K H ns vs c) : ∀ {ws : List V}, CL K H ns ws c → Paired (SameV K (n + 2) H) vs ws := by
  induction h with
  | nil => intro ws g; cases g; exact .nil
  | cons h _ ih =>
    intro ws g
    cases g with
    | cons g g2 => exact .cons (sameT h.at g.at (.cons (.inl ⟨rfl, .inl ⟨_, rfl⟩⟩) (.cons (.inl ⟨rfl, .inr (.inl ⟨_, rfl⟩)⟩) .nil)) (by simp)) (ih g2)
end
/-! tuples whose object is known: their methods -/
def TupD (H : Hp) (a : Addr) (xs : List V) : Prop := ∃ o : Obj, H a = some (.frz o (.tup xs)) ∧ o.cls = .type "tuple" ∧ o.dict = none
theorem TupD.sq {K : PySem.W.Frag} {H : Hp} {a : Addr} {xs : List V} (h : TupD H a xs) : SqT K H a xs := by
  obtain ⟨o, e, _⟩ := h
  exact .inl (.inr ⟨o, e⟩)
theorem TupD.keep {H H' : Hp} {W : List Addr} {a : Addr} {xs : List V} (h : TupD H a xs) (k : Keep W H H') (w : a ∉ W) : TupD H' a xs := by
  obtain ⟨o, e, c, d⟩ := h
  exact ⟨o, k _ _ e w, c, d⟩
section
open PySem.Spec PyProof.Rows
variable {X : Cx} {T id : String} {r : V → List V → Hp → VK → Prop} {o e : Expr} {es : List Expr} {to : TE} {t : TA} {name : Str} {apos cpos pos : Pos}
theorem tupD_is {pins : List (Addr × Obj)} {σ : L2.St} {H : Hp} {s : Shared} {a : Addr} {xs : List V} (I : Inv X pins σ H s) (h : TupD H a xs) :
    s.TypeIs (.ref a) "tuple" ∧ ∀ b, Value.ref a = .ref b → ∃ ob, s.heap.get? b = some ob ∧ ob.dict = none := by
  obtain ⟨o, e, c, d⟩ := h
  obtain ⟨g, _⟩ := I.hok _ _ e
  exact ⟨⟨o, g, c⟩, fun b q => by cases q; exact ⟨o, g, d⟩⟩
theorem pe_bmZ (pa : PlainAttrs "tuple") (slot : Slot "tuple" name id) (hty : typeOf (.builtin id) = pure (.type "method_descriptor")) (hm : MtR X id r) (ho : PE X o to) (ha : PA X (e :: es) t)
    (hbase : attributeBase o name X.env (eval o X.env) = eval o X.env := by rfl)
    (hfew : ((backTo cpos (starEach (e :: es) X.env)).all (fun x => !x.1) && (backToKw cpos (keywordEach [] X.env)).all (fun x => x.1.isSome)
      && decide ((e :: es).length + ([] : List Keyword).length + (if ([] : List Keyword).isEmpty then 0 else 1) < 30)) = true := by rfl)
    (hline : (apos.endLine == cpos.line) = true := by rfl) (hs : starEach (e :: es) X.env = (false, eval e X.env) :: starEach es X.env := by rfl) (hplain : (backTo cpos (starEach es X.env)).any (·.1) = false := by rfl) :
    PE X (.Call (.Attribute o name apos) (e :: es) [] cpos) (fun σ H Q => to σ H fun x H1 => ∃ a xs, x = .ref a ∧ TupD H1 a xs ∧ t σ H1 fun ys H2 => r x ys H2 Q) := by
  refine ⟨fun pins s σ H Q I h => ?_⟩
  refine wpAny_Call_method_late hbase hfew hline rfl (thn (ho.run pins s σ H _ I h) fun v s1 ⟨x, H1, I1, r1, a, xs, hx, ty, q1⟩ => ?_)
  subst hx
  obtain rfl : v = Value.ref a := r1
  obtain ⟨h1, h2⟩ := tupD_is I1 ty
  refine ⟨"tuple", id, pa, slot, hty, h1, h2, ?_⟩
  have hA := ha.run cpos pins s1 σ H1 _ I1 q1
  rw [hs] at hA ⊢
  refine Calls.callWith_builtin (by show (false || (backTo cpos (starEach es X.env)).any (·.1)) = false; rw [hplain] <;> rfl) (Calls.evalArgs_plain ?_)
  exact thn hA fun us s2 ⟨vs, H2, I2, r2, q2⟩ => hm pins s2 σ H2 (.ref a) vs (.ref a) us Q I2 rfl r2 q2
theorem pe_tupZ {x1} (h : PA X es t) : PE X (.Tuple es x1 pos) (fun σ H Q => t σ H fun xs H1 => xs.length ≤ sizeLine ∧ ∀ p o, H1 p = none → o.cls = .type "tuple" → o.dict = none → Q (.ref p) (upd H1 p (.frz o (.tup xs)))) := by
  refine ⟨fun pins s σ H Q I hq => ?_⟩
  refine wpAny_Tuple_spliced (thn (h.run pos pins s σ H _ I hq) fun us s1 ⟨xs, H1, I1, r, z, q⟩ => ⟨by rw [← r.length]; exact z, ?_⟩)
  have hf : H1 s1.heap.objs.size = none := I1.hok.fresh (Nat.le_refl _)
  refine ⟨.ref s1.heap.objs.size, upd H1 s1.heap.objs.size (.frz { cls := .type "tuple", data := .seq us.toArray } (.tup xs)), I1.laid (t' := s1.toks) (fun b u e => Heap.get?_push_of_some _ e) (Nat.le_refl _) ?_, rfl, q _ _ hf rfl rfl⟩
  exact ⟨Heap.get?_push_size _ rfl, z, us, r, ⟨_, Heap.get?_push_size _ rfl, rfl, _, rfl⟩⟩
theorem call_tuple_ofZ : CallR X (.type "tuple") (fun xs H Q => ∃ p ys, xs = [.ref p] ∧ SqL X.K H p ys ∧ ∀ l o, H l = none → o.cls = .type "tuple" → o.dict = none → Q (.ref l) (upd H l (.frz o (.tup ys)))) := by
  intro pins s σ H xs us Q I r h
  obtain ⟨p, ys, rfl, hq, q⟩ := h
  obtain ⟨u, rfl, rx⟩ := vals1 r
  cases rx
  obtain ⟨its, r', pl, hz⟩ := I.list hq
  have hlen := r'.length
  refine call_tuple_list pl.isList (fun h' kp => ?_) (by simp only [List.size_toArray] <;> omega)
  have I1 : Inv X pins σ H { s with heap := h' } := I.kept (t' := s.toks) kp
  have I2 : Inv X pins σ (upd H h'.objs.size (.frz { cls := .type "tuple", data := .seq its.toArray } (.tup ys))) { s with heap := h'.push { cls := .type "tuple", data := .seq its.toArray } } :=
    I1.laid (t' := s.toks) (fun b o e => Heap.get?_push_of_some _ e) (Nat.le_refl _) (show ObjOk X.prog X.w _ _ _ (.frz _ (.tup ys)) from ⟨Heap.get?_push_size _ rfl, hz, its, r', IsTup.new _ _⟩)
  exact ⟨.ref h'.objs.size, _, I2, rfl, q _ _ (I1.hok.fresh (Nat.le_refl _)) rfl rfl⟩
end

def sp_code (K : PySem.W.Frag) (n : Nat) : Sp := fun vs H Q _ => ∃ v sl od e ns ps on, vs = [v, .ref sl, .ref od] ∧ EV K H v e ∧ e.Ok ns ps ∧ e.dep ≤ n ∧ n ≤ 13 ∧ TupD H sl (ns.map V.str) ∧ DcB H od ps on ∧
  ∀ l xs H', H' l = some (.lst xs) → CL K H' ns xs (code on e) → Keep [] H H' → Q (.ref l) H'
theorem at_one {K : PySem.W.Frag} {H : Hp} {t l : Addr} {xs ys : List V} (nt : H t = none) (nl : upd H t (.tup xs) l = none) : Ad K (upd (upd H t (.tup xs)) l (.lst ys)) t xs := by
  have h : t ≠ l := ne_of_none (H := upd H t (.tup xs)) upd_same nl
  exact .inl (by rw [upd_ne h]; exact upd_same)
theorem nei {a b : Int} (h : a ≠ b) : ¬ V.int a = V.int b := fun z => h (V.int.inj z)
theorem flat_sgs (ys : List Str) : (ys.map V.str).all flatV = true := flat_strs ys
theorem str_ne_eqV {ys : List Str} {z : Str} {j : Nat} (h : ∀ m, m < j → ys[m]? ≠ some z) : ∀ (m : Nat) (z' : V), m < j → (ys.map V.str)[m]? = some z' → eqV z' (.str z) = false := fun m z' hm hz => by
  obtain ⟨y, hy, rfl⟩ := strs_get hz
  have : y ≠ z := fun q => h m hm (by rw [hy, q])
  show (y == z) = false
  simpa using this
section
variable {P : Program} {w : World} {K : PySem.W.Frag} {mg : Str → Option Value} {base : Heap} {C_Tape : Addr} {C_Thinker : Addr} {C_Brain : Addr} {C_Mind : Addr} {C_Frame : Addr} {C_Thinking : Addr} {C_Checker : Addr} {T_EVENTS : Addr} {T_SIGNS : Addr} {T_ROUND_NAMES : Addr} {T_BRAIN_NAMES : Addr} {T_EFFECTS : Addr}
theorem ok_code0 {f : Addr} {fd : FuncData} (D : C8.Def K mg "expression_code" s_expression_code f fd) (b : Binds K fd ["expression", "slots", "on"] []) : C8.Cal P w K mg base 1 "expression_code" (sp_code K 0) [] :=
  ⟨f, fd, ["expression", "slots", "on"], [], ⟨fun vs H Q E h => (by obtain ⟨v, sl, od, e, ns, ps, on, rfl, _⟩ := h; rfl), fun A outer s H args us vs Q E _ _ _ _ h => (by obtain ⟨v, sl, od, e, ns, ps, on, _, _, _, z, _⟩ := h; have := e.dep_pos; omega)⟩, D.mgf, D.kp, b, .nil⟩
theorem ok_code {f : Addr} {fd : FuncData} (D : C8.Def K mg "expression_code" s_expression_code f fd) (b : Binds K fd ["expression", "slots", "on"] []) (T : Txt K mg C_Tape C_Thinker C_Brain C_Mind C_Frame C_Thinking C_Checker T_EVENTS T_SIGNS T_ROUND_NAMES T_BRAIN_NAMES T_EFFECTS) {n k : Nat} (c_expression_code : C8.Cal P w K mg base k "expression_code" (sp_code K n) []) :
    C8.Cal P w K mg base (k + 1) "expression_code" (sp_code K (n + 1)) [] := by
  refine cal0 D b .nil sc_expression_code (fun vs H Q E h => ?_) (fun cdv A outer s H vs Q E hr h => ?_)
  · obtain ⟨v, sl, od, e, ns, ps, on, rfl, _⟩ := h
    rfl
  · obtain ⟨v, sl, od, e, ns, ps, on, rfl, he, hok, hd, hn, S, O, k⟩ := h
    have hu := hu_of hr
    refine ⟨_, (pss_cons (ps_set (i := 3) sc_expression_code.nd rfl (by first | exact Or.inl rfl | exact Or.inr rfl) (pe_ix ix_tup (pv 0) pe_int (fun _ _ => rfl)))
(pss_cons (ps_if (pt_cmpR op_eq (pv 3) pe_str (nomark _))
  (pss_one (ps_ret (pe_lst (pa_cons (pe_tup (pa_cons pe_str (pa_cons (pe_ix ix_tup (pv 0) pe_int (fun _ _ => rfl)) pa_nil))) pa_nil))))
  pss_nil)
(pss_cons (ps_if (pt_cmpR op_eq (pv 3) pe_str (nomark _))
  (pss_one (ps_ret (pe_lst (pa_cons (pe_tup (pa_cons pe_str (pa_cons (pe_bmZ PySem.F.plainAttrs_tuple PySem.F.slot_tuple_index PySem.F.type_tuple_index mt_tup_index (pv 1) (pa_cons (pe_ix ix_tup (pv 0) pe_int (fun _ _ => rfl)) pa_nil)) pa_nil))) pa_nil))))
  pss_nil)
(pss_cons (ps_if (pt_cmpR op_eq (pv 3) pe_str (nomark _))
  (pss_one (ps_ret (pe_lst (pa_cons (pe_tup (pa_cons pe_str (pa_cons pe_int pa_nil))) pa_nil))))
  pss_nil)
(pss_cons (ps_if (pt_cmpR op_eq (pv 3) pe_str (nomark _))
  (pss_one (ps_ret (pe_lst (StX.pa_star (pe_c c_expression_code hr (by first | exact Nat.le_refl _ | decide | omega) rfl (pa_cons (pe_ix ix_tup (pv 0) pe_int (fun _ _ => rfl)) (pa_cons (pv 1) (pa_cons (pv 2) pa_nil)))) (pa_cons (pe_tup (pa_cons pe_str (pa_cons pe_int pa_nil))) pa_nil)))))
  pss_nil)
(pss_cons (ps_if (pt_cmpR op_eq (pv 3) pe_str (nomark _))
  (pss_cons (ps_set (i := 4) sc_expression_code.nd rfl (by first | exact Or.inl rfl | exact Or.inr rfl) (pe_ifExp (pt_val (pe_dget hu (pv 2) (pe_ix ix_tup (pv 0) pe_int (fun _ _ => rfl)) (fun _ _ => rfl))) (pe_ix ix_tup (pv 0) pe_int (fun _ _ => rfl)) (pe_ix ix_tup (pv 0) pe_int (fun _ _ => rfl))))
  (pss_one (ps_ret (pe_c c_expression_code hr (by first | exact Nat.le_refl _ | decide | omega) rfl (pa_cons (pv 4) (pa_cons (pv 1) (pa_cons (pv 2) pa_nil)))))))
  pss_nil)
(pss_cons (ps_set (i := 5) sc_expression_code.nd rfl (by first | exact Or.inl rfl | exact Or.inr rfl) (pe_c c_expression_code hr (by first | exact Nat.le_refl _ | decide | omega) rfl (pa_cons (pe_ix ix_tup (pv 0) pe_int (fun _ _ => rfl)) (pa_cons (pv 1) (pa_cons (pv 2) pa_nil)))))
(pss_cons (ps_set (i := 6) sc_expression_code.nd rfl (by first | exact Or.inl rfl | exact Or.inr rfl) (pe_c c_expression_code hr (by first | exact Nat.le_refl _ | decide | omega) rfl (pa_cons (pe_ix ix_tup (pv 0) pe_int (fun _ _ => rfl)) (pa_cons (pv 1) (pa_cons (pv 2) pa_nil)))))
(pss_one (ps_ret (pe_lst (StX.pa_star (pv 5) (StX.pa_star (pv 6) (pa_cons (pe_tup (pa_cons pe_str (pa_cons (pe_bm PySem.F.plainAttrs_tuple PySem.F.slot_tuple_index PySem.F.type_tuple_index mt_tup_index (pe_gc rfl T.v_SIGNS) (pa_cons (pv 3) pa_nil)) pa_nil))) pa_nil)))))))))))))), ?_⟩
    cases he with
    | num h =>
      refine ⟨_, rfl, _, _, _, _, rfl, rfl, h.sq, rfl, _, rfl, rfl, _, rfl, iteDT rfl ?_⟩
      exact ⟨_, rfl, _, _, _, _, rfl, rfl, h.sq, rfl, by show 2 ≤ sizeLine; decide, fun t nt => ⟨by show 1 ≤ sizeLine; decide, fun l nl => k l _ _ upd_same (.cons (at_one nt nl) .nil) ((Keep.new nt).then_new nl)⟩⟩
    | var h =>
      refine ⟨_, rfl, _, _, _, _, rfl, rfl, h.sq, rfl, _, rfl, rfl, _, rfl, iteDF (nes (by decide +kernel)) ?_⟩
      refine ⟨_, rfl, rfl, _, rfl, iteDT rfl ?_⟩
      have hi := idx_get hok
      exact ⟨_, rfl, _, _, rfl, S, _, rfl, _, _, _, _, rfl, rfl, h.sq, rfl, _, ns, _, _, rfl, rfl, S.sq, hi.1, hi.2, by show 2 ≤ sizeLine; decide, fun t nt => ⟨by show 1 ≤ sizeLine; decide, fun l nl => k l _ _ upd_same (.cons (at_one nt nl) .nil) ((Keep.new nt).then_new nl)⟩⟩
    | long h =>
      refine ⟨_, rfl, _, _, _, _, rfl, rfl, h.sq, rfl, _, rfl, rfl, _, rfl, iteDF (nes (by decide +kernel)) ?_⟩
      refine ⟨_, rfl, rfl, _, rfl, iteDF (nes (by decide +kernel)) ?_⟩
      refine ⟨_, rfl, rfl, _, rfl, iteDT rfl ?_⟩
      exact ⟨by show 2 ≤ sizeLine; decide, fun t nt => ⟨by show 1 ≤ sizeLine; decide, fun l nl => k l _ _ upd_same (.cons (at_one nt nl) .nil) ((Keep.new nt).then_new nl)⟩⟩
    | @view _ _ e1 h h1 =>
      refine ⟨_, rfl, _, _, _, _, rfl, rfl, h.sq, rfl, _, rfl, rfl, _, rfl, iteDF (nes (by decide +kernel)) ?_⟩
      refine ⟨_, rfl, rfl, _, rfl, iteDF (nes (by decide +kernel)) ?_⟩
      refine ⟨_, rfl, rfl, _, rfl, iteDF (nes (by decide +kernel)) ?_⟩
      refine ⟨_, rfl, rfl, _, rfl, iteDT rfl ?_⟩
      have hsz := code_small on (e := .view e1) (by omega)
      unfold Ex.dep at hd
      refine ⟨_, rfl, _, _, _, _, rfl, rfl, h.sq, rfl, _, rfl, _, rfl, _, _, _, _, ns, ps, on, rfl, h1, hok, by omega, by omega, S, O, fun l1 xs H1 hl1 C1 K1 => ?_⟩
      refine ⟨_, _, rfl, .inr (SqL.of hl1), by show 2 ≤ sizeLine; decide, fun t nt => ⟨?_, fun l nl => ?_⟩⟩
      · rw [List.length_append, C1.len]
        have : (code on (.view e1)).length = (code on e1).length + 1 := by show (code on e1 ++ [Ins.view]).length = _; rw [List.length_append]; rfl
        exact smallM (by simp; omega)
      · exact k l _ _ upd_same ((C1.tk ((TK.new nt).trans (TK.new nl))).app (.cons (at_one nt nl) .nil)) ((K1.then_new nt).then_new nl)
    | pick h h1 h2 =>
      refine ⟨_, rfl, _, _, _, _, rfl, rfl, h.sq, rfl, _, rfl, rfl, _, rfl, iteDF (nes (by decide +kernel)) ?_⟩
      refine ⟨_, rfl, rfl, _, rfl, iteDF (nes (by decide +kernel)) ?_⟩
      refine ⟨_, rfl, rfl, _, rfl, iteDF (nes (by decide +kernel)) ?_⟩
      refine ⟨_, rfl, rfl, _, rfl, iteDF (nes (by decide +kernel)) ?_⟩
      refine ⟨_, rfl, rfl, _, rfl, iteDT rfl ?_⟩
      unfold Ex.dep at hd
      unfold code at k
      refine ⟨_, rfl, _, rfl, _, _, _, _, rfl, rfl, h.sq, rfl, _, _, rfl, O.get hok.1, _, rfl, iteB (fun q => ?_) (fun q => ?_)⟩
      · rw [if_pos q] at k
        exact ⟨_, rfl, _, _, _, _, rfl, rfl, h.sq, rfl, _, rfl, _, rfl, _, rfl, _, _, _, _, ns, ps, on, rfl, h1, hok.2.1, by omega, by omega, S, O, k⟩
      · rw [if_neg (by simp [q])] at k
        exact ⟨_, rfl, _, _, _, _, rfl, rfl, h.sq, rfl, _, rfl, _, rfl, _, rfl, _, _, _, _, ns, ps, on, rfl, h2, hok.2.2, by omega, by omega, S, O, k⟩
    | @op _ sg _ _ e1 e2 h h1 h2 =>
      obtain ⟨n1, n2, n3, n4, n5⟩ := sg_not _ hok.1
      refine ⟨_, rfl, _, _, _, _, rfl, rfl, h.sq, rfl, _, rfl, rfl, _, rfl, iteDF (nes n1) ?_⟩
      refine ⟨_, rfl, rfl, _, rfl, iteDF (nes n2) ?_⟩
      refine ⟨_, rfl, rfl, _, rfl, iteDF (nes n3) ?_⟩
      refine ⟨_, rfl, rfl, _, rfl, iteDF (nes n4) ?_⟩
      refine ⟨_, rfl, rfl, _, rfl, iteDF (nes n5) ?_⟩
      have hsz := code_small on (e := .op sg e1 e2) (by omega)
      unfold Ex.dep at hd
      refine ⟨_, rfl, _, _, _, _, rfl, rfl, h.sq, rfl, _, rfl, _, rfl, _, _, _, _, ns, ps, on, rfl, h1, hok.2.1, by omega, by omega, S, O, fun l1 xs H1 hl1 C1 K1 => ?_⟩
      refine ⟨_, rfl, _, _, _, _, rfl, rfl, (h.tk K1.tk).sq, rfl, _, rfl, _, rfl, _, _, _, _, ns, ps, on, rfl, h2.tk K1.tk, hok.2.2, by omega, by omega, S.keep K1 (by simp), O.keep K1, fun l2 ys H2 hl2 C2 K2 => ?_⟩
      have hi := idx_get hok.1
      have hl1' := K2 _ _ hl1 (by simp)
      refine ⟨_, rfl, _, _, rfl, .inr (SqL.of hl1'), _, rfl, _, _, rfl, .inr (SqL.of hl2), .inr (.inl ⟨rfl, T.d_SIGNS⟩), _, rfl, _, sgL, _, _, rfl, rfl, T.q_SIGNS _, hi.1, hi.2, by show 2 ≤ sizeLine; decide, fun t nt => ⟨?_, fun l nl => ?_⟩⟩
      · have : (code on (.op sg e1 e2)).length = (code on e1).length + (code on e2).length + 1 := by show (code on e1 ++ code on e2 ++ [Ins.sign sg]).length = _; rw [List.length_append, List.length_append]; rfl
        rw [List.length_append, List.length_append, C1.len, C2.len]
        exact smallM (by simp; omega)
      · have kk := (TK.new nt).trans (TK.new (o := .lst (xs ++ (ys ++ [.ref t]))) nl)
        refine k l _ _ upd_same ?_ (((K1.trans K2).then_new nt).then_new nl)
        show CL K _ ns (xs ++ (ys ++ [.ref t])) (code on e1 ++ code on e2 ++ [Ins.sign sg])
        rw [List.append_assoc]
        exact (((C1.tk K2.tk).tk kk).app ((C2.tk kk).app (.cons (at_one nt nl) .nil)))
end

theorem DcI.keep {H H' : Hp} {a : Addr} {ns : List Str} {tb : Str → Int} {W : List Addr} (h : DcI H a ns tb) (k : Keep W H H') (w : a ∉ W) : DcI H' a ns tb := by
  obtain ⟨kvs, e, q⟩ := h
  exact ⟨kvs, k _ _ e w, q⟩

/-! statements of a brain -/
mutual
inductive Th where
  | set (x : Str) (e : Ex)
  | lot (x : Str) (e : Ex)
  | iff (t : Ex) (a b : Bl)
  | whl (t : Ex) (b : Bl)
inductive Bl where
  | nil
  | cons (t : Th) (b : Bl)
end
def ExOk (ns : List Str) (e : Ex) : Prop := e.Ok ns [] ∧ e.dep ≤ 12
mutual
def Th.Ok (ns : List Str) : Th → Prop
  | .set x e => x ∈ ns ∧ ExOk ns e
  | .lot x e => x ∈ ns ∧ ExOk ns e
  | .iff t a b => ExOk ns t ∧ a.Ok ns ∧ b.Ok ns
  | .whl t b => ExOk ns t ∧ b.Ok ns
def Bl.Ok (ns : List Str) : Bl → Prop
  | .nil => True
  | .cons t b => t.Ok ns ∧ b.Ok ns
end
mutual
def Th.dep : Th → Nat
  | .set _ _ => 0
  | .lot _ _ => 0
  | .iff _ a b => max a.dep b.dep + 1
  | .whl _ b => b.dep + 1
def Bl.dep : Bl → Nat
  | .nil => 0
  | .cons t b => max t.dep b.dep
end
def Bl.len : Bl → Nat
  | .nil => 0
  | .cons _ b => b.len + 1
mutual
def Th.Sm : Th → Prop
  | .set _ _ => True
  | .lot _ _ => True
  | .iff _ a b => (a.len ≤ 5 ∧ a.Sm) ∧ b.len ≤ 5 ∧ b.Sm
  | .whl _ b => b.len ≤ 5 ∧ b.Sm
def Bl.Sm : Bl → Prop
  | .nil => True
  | .cons t b => t.Sm ∧ b.Sm
end
def Bl.app : Bl → Bl → Bl
  | .nil, c => c
  | .cons t b, c => .cons t (b.app c)
theorem Bl.app_ok {ns : List Str} : ∀ {b c : Bl}, b.Ok ns → c.Ok ns → (b.app c).Ok ns
  | .nil, _, _, h => h
  | .cons _ b, _, h, g => ⟨h.1, Bl.app_ok h.2 g⟩
theorem Bl.app_sm : ∀ {b c : Bl}, b.Sm → c.Sm → (b.app c).Sm
  | .nil, _, _, h => h
  | .cons _ b, _, h, g => ⟨h.1, Bl.app_sm h.2 g⟩
theorem Bl.app_dep : ∀ (b c : Bl), (b.app c).dep = max b.dep c.dep
  | .nil, c => by show c.dep = max 0 c.dep; omega
  | .cons t b, c => by show max t.dep (b.app c).dep = max (max t.dep b.dep) c.dep; rw [Bl.app_dep b c]; omega
theorem Bl.app_len : ∀ (b c : Bl), (b.app c).len = b.len + c.len
  | .nil, c => by show c.len = 0 + c.len; omega
  | .cons t b, c => by show (b.app c).len + 1 = b.len + 1 + c.len; rw [Bl.app_len b c]; omega
mutual
def TV (K : PySem.W.Frag) (H : Hp) : Th → V → Prop
  | .set x e, v => ∃ a u, v = .ref a ∧ At K H a [.str "set", .str x, u] ∧ EV K H u e
  | .lot x e, v => ∃ a u, v = .ref a ∧ At K H a [.str "lot", .str x, u] ∧ EV K H u e
  | .iff t a b, v => ∃ p u q r xs ys, v = .ref p ∧ At K H p [.str "if", u, .ref q, .ref r] ∧ EV K H u t ∧ At K H q xs ∧ TVs K H a xs ∧ At K H r ys ∧ TVs K H b ys
  | .whl t b, v => ∃ p u q xs, v = .ref p ∧ At K H p [.str "while", u, .ref q] ∧ EV K H u t ∧ At K H q xs ∧ TVs K H b xs
def TVs (K : PySem.W.Frag) (H : Hp) : Bl → List V → Prop
  | .nil, xs => xs = []
  | .cons t b, xs => ∃ v r, xs = v :: r ∧ TV K H t v ∧ TVs K H b r
end
def BV (K : PySem.W.Frag) (H : Hp) (b : Bl) (q : Addr) : Prop := ∃ xs, At K H q xs ∧ TVs K H b xs
mutual
theorem TV.tk {K : PySem.W.Frag} {H H' : Hp} (k : TK H H') : ∀ (t : Th) {v : V}, TV K H t v → TV K H' t v
  | .set _ _, _, ⟨a, u, e, h1, h2⟩ => ⟨a, u, e, h1.tk k, h2.tk k⟩
  | .lot _ _, _, ⟨a, u, e, h1, h2⟩ => ⟨a, u, e, h1.tk k, h2.tk k⟩
  | .iff _ a b, _, ⟨p, u, q, r, xs, ys, e, h1, h2, h3, h4, h5, h6⟩ => ⟨p, u, q, r, xs, ys, e, h1.tk k, h2.tk k, h3.tk k, TVs.tk k a h4, h5.tk k, TVs.tk k b h6⟩
  | .whl _ b, _, ⟨p, u, q, xs, e, h1, h2, h3, h4⟩ => ⟨p, u, q, xs, e, h1.tk k, h2.tk k, h3.tk k, TVs.tk k b h4⟩
theorem TVs.tk {K : PySem.W.Frag} {H H' : Hp} (k : TK H H') : ∀ (b : Bl) {xs : List V}, TVs K H b xs → TVs K H' b xs
  | .nil, _, h => h
  | .cons t b, _, ⟨v, r, e, h1, h2⟩ => ⟨v, r, e, TV.tk k t h1, TVs.tk k b h2⟩
end
theorem BV.tk {K : PySem.W.Frag} {H H' : Hp} (k : TK H H') {b : Bl} {q : Addr} (h : BV K H b q) : BV K H' b q := by
  obtain ⟨xs, h1, h2⟩ := h
  exact ⟨xs, h1.tk k, TVs.tk k b h2⟩
theorem TVs.app {K : PySem.W.Frag} {H : Hp} : ∀ {b c : Bl} {xs ys : List V}, TVs K H b xs → TVs K H c ys → TVs K H (b.app c) (xs ++ ys)
  | .nil, _, _, _, h, g => by cases h; exact g
  | .cons _ b, _, _, _, ⟨v, r, e, h1, h2⟩, g => by
    subst e
    exact ⟨v, r ++ _, rfl, h1, TVs.app h2 g⟩
theorem TVs.len {K : PySem.W.Frag} {H : Hp} : ∀ {b : Bl} {xs : List V}, TVs K H b xs → xs.length = b.len
  | .nil, _, h => by cases h; rfl
  | .cons _ b, _, ⟨v, r, e, h1, h2⟩ => by
    subst e
    show r.length + 1 = b.len + 1
    rw [TVs.len h2]
/-! what they do -/
structure MS where
  left : Int
  tb : Str → Int
  tk : List (Int × Int)
def MS.put (s : MS) (x : Str) (v : Int) : MS := { s with tb := fun y => if y = x then v else s.tb y }
def offs : Str → Bool := fun _ => false
def MS.ev (seen : List Int) (s : MS) (e : Ex) : Int := val s.tb offs seen e
def loopM (test : MS → Bool) (f : MS → Bool × MS) : Nat → MS → Bool × MS
  | 0, s => (false, s)
  | n + 1, s => if test s = false then (true, s) else if (f s).1 = false then (false, (f s).2) else if (f s).2.left = 0 then (false, (f s).2) else loopM test f n { (f s).2 with left := (f s).2.left - 1 }
def lotS (seen rs : List Int) (s : MS) (x : Str) (e : Ex) : MS :=
  if s.ev seen e > 0 then MS.put { s with tk := s.tk ++ [(nextR rs s.tk (s.ev seen e), s.ev seen e)] } x (nextR rs s.tk (s.ev seen e)) else s.put x (s.ev seen e)
mutual
def runT (seen rs : List Int) : Th → MS → Bool × MS
  | .set x e, s => (true, s.put x (s.ev seen e))
  | .lot x e, s => (true, lotS seen rs s x e)
  | .iff t a b, s => if s.ev seen t ≠ 0 then runB seen rs a s else runB seen rs b s
  | .whl t b, s => loopM (fun s => decide (s.ev seen t ≠ 0)) (fun s => runB seen rs b s) (s.left.toNat + 1) s
def runB (seen rs : List Int) : Bl → MS → Bool × MS
  | .nil, s => (true, s)
  | .cons t b, s => if s.left = 0 then (false, s) else if (runT seen rs t { s with left := s.left - 1 }).1 = false then runT seen rs t { s with left := s.left - 1 } else runB seen rs b (runT seen rs t { s with left := s.left - 1 }).2
end
/-- a state that stays in its bounds -/
structure MOk (ns : List Str) (s : MS) : Prop where
  l : 0 ≤ s.left
  t : TbOk ns s.tb
/-- what a run may do to it -/
structure Mv (ns : List Str) (g : Nat) (s r : MS) : Prop where
  ok : MOk ns r
  l : r.left ≤ s.left
  k : r.left.toNat + r.tk.length ≤ s.left.toNat + s.tk.length + g
theorem Mv.refl {ns : List Str} {s : MS} (h : MOk ns s) : Mv ns 0 s s := ⟨h, Int.le_refl _, Nat.le_refl _⟩
theorem Mv.trans {ns : List Str} {g h : Nat} {s r q : MS} (a : Mv ns g s r) (b : Mv ns h r q) : Mv ns (g + h) s q := ⟨b.ok, Int.le_trans b.l a.l, by have := a.k; have := b.k; omega⟩
theorem Mv.mono {ns : List Str} {g h : Nat} {s r : MS} (a : Mv ns g s r) (e : g ≤ h) : Mv ns h s r := ⟨a.ok, a.l, by have := a.k; omega⟩
theorem MOk.dec {ns : List Str} {s : MS} (h : MOk ns s) (z : ¬ s.left = 0) : MOk ns { s with left := s.left - 1 } := ⟨by have := h.l; show 0 ≤ s.left - 1; omega, h.t⟩
theorem MOk.put {ns : List Str} {s : MS} (h : MOk ns s) {x : Str} {v : Int} (v0 : 0 ≤ v) (v1 : v < 65536) : MOk ns (s.put x v) := ⟨h.l, fun y hy => by
  show 0 ≤ (if y = x then v else s.tb y) ∧ (if y = x then v else s.tb y) < 65536
  split
  · exact ⟨v0, v1⟩
  · exact h.t y hy⟩
theorem MOk.ev {ns : List Str} {s : MS} {seen : List Int} (h : MOk ns s) (hs : SeenOk seen) {e : Ex} (he : ExOk ns e) : 0 ≤ s.ev seen e ∧ s.ev seen e < 65536 := val_range h.t hs e he.1
theorem nextR_range {rs : List Int} {tk : List (Int × Int)} {c : Int} (h : 0 < c) : 0 ≤ nextR rs tk c ∧ nextR rs tk c < c := by
  unfold nextR
  split
  · exact ⟨Int.emod_nonneg _ (by omega), Int.emod_lt_of_pos _ h⟩
  · exact ⟨Int.le_refl _, h⟩
theorem lotS_mv {ns : List Str} {seen rs : List Int} {s : MS} (h : MOk ns s) (hs : SeenOk seen) {x : Str} {e : Ex} (he : ExOk ns e) : Mv ns 1 s (lotS seen rs s x e) := by
  have hv := h.ev hs he
  unfold lotS
  split
  · rename_i q
    have hn := nextR_range (rs := rs) (tk := s.tk) q
    refine ⟨?_, Int.le_refl _, ?_⟩
    · exact MOk.put (s := { s with tk := s.tk ++ [(nextR rs s.tk (s.ev seen e), s.ev seen e)] }) ⟨h.l, h.t⟩ hn.1 (by omega)
    · show s.left.toNat + (s.tk ++ [_]).length ≤ _
      rw [List.length_append]; simp; omega
  · exact ⟨h.put hv.1 hv.2, Int.le_refl _, Nat.le_succ _⟩
theorem loopM_mv {ns : List Str} {test : MS → Bool} {f : MS → Bool × MS} (hf : ∀ s, MOk ns s → Mv ns 0 s (f s).2) : ∀ (n : Nat) (s : MS), MOk ns s → Mv ns 0 s (loopM test f n s).2
  | 0, s, h => Mv.refl h
  | n + 1, s, h => by
    have h1 := hf s h
    unfold loopM
    split
    · exact Mv.refl h
    · split
      · exact h1
      · split
        · exact h1
        · rename_i z
          have hd : Mv ns 0 (f s).2 { (f s).2 with left := (f s).2.left - 1 } := ⟨h1.ok.dec z, by show (f s).2.left - 1 ≤ _; omega, by show ((f s).2.left - 1).toNat + (f s).2.tk.length ≤ (f s).2.left.toNat + (f s).2.tk.length + 0; omega⟩
          exact (h1.trans hd).trans (loopM_mv hf n _ hd.ok)
mutual
theorem runT_mv {ns : List Str} {seen rs : List Int} (hs : SeenOk seen) : ∀ (t : Th), t.Ok ns → ∀ s, MOk ns s → Mv ns 1 s (runT seen rs t s).2
  | .set x e, ok, s, h => ⟨h.put (h.ev hs ok.2).1 (h.ev hs ok.2).2, Int.le_refl _, Nat.le_succ _⟩
  | .lot x e, ok, s, h => by unfold runT; exact lotS_mv h hs ok.2
  | .iff t a b, ok, s, h => by
    unfold runT
    split
    · exact (runB_mv hs a ok.2.1 s h).mono (by omega)
    · exact (runB_mv hs b ok.2.2 s h).mono (by omega)
  | .whl t b, ok, s, h => by
    unfold runT
    exact (loopM_mv (fun s h => runB_mv hs b ok.2 s h) _ s h).mono (by omega)
theorem runB_mv {ns : List Str} {seen rs : List Int} (hs : SeenOk seen) : ∀ (b : Bl), b.Ok ns → ∀ s, MOk ns s → Mv ns 0 s (runB seen rs b s).2
  | .nil, _, s, h => by unfold runB; exact Mv.refl h
  | .cons t b, ok, s, h => by
    unfold runB
    split
    · exact Mv.refl h
    · rename_i z
      have h1 := h.dec z
      have h2 := runT_mv (rs := rs) hs t ok.1 _ h1
      have h3 : Mv ns 0 s (runT seen rs t { s with left := s.left - 1 }).2 := by
        refine ⟨h2.ok, Int.le_trans h2.l (by show s.left - 1 ≤ s.left; omega), ?_⟩
        have h2k := h2.k
        have h2l := h.l
        change _ ≤ (s.left - 1).toNat + s.tk.length + 1 at h2k
        omega
      split
      · exact h3
      · exact h3.trans (runB_mv hs b ok.2 _ h2.ok)
end
/-! how they are drawn -/
section
variable {P : Program} {w : World} {K : PySem.W.Frag} {mg : Str → Option Value} {base : Heap} {C_Tape : Addr} {C_Thinker : Addr} {C_Brain : Addr} {C_Mind : Addr} {C_Frame : Addr} {C_Thinking : Addr} {C_Checker : Addr} {T_EVENTS : Addr} {T_SIGNS : Addr} {T_ROUND_NAMES : Addr} {T_BRAIN_NAMES : Addr} {T_EFFECTS : Addr}
end

section
variable {P : Program} {w : World} {K : PySem.W.Frag} {mg : Str → Option Value} {base : Heap} {C_Tape : Addr} {C_Thinker : Addr} {C_Brain : Addr} {C_Mind : Addr} {C_Frame : Addr} {C_Thinking : Addr} {C_Checker : Addr} {T_EVENTS : Addr} {T_SIGNS : Addr} {T_ROUND_NAMES : Addr} {T_BRAIN_NAMES : Addr} {T_EFFECTS : Addr}
theorem value_all {f : Addr} {fd : FuncData} (D : C8.Def K mg "value_of" s_value_of f fd) {ds : List Value} (d : Vals [] ds) (b : Binds K fd ["expression", "table", "on", "seen"] ds) (T : Txt K mg C_Tape C_Thinker C_Brain C_Mind C_Frame C_Thinking C_Checker T_EVENTS T_SIGNS T_ROUND_NAMES T_BRAIN_NAMES T_EFFECTS) (c : C8.Cal P w K mg base 1 "combine" sp_combine []) : ∀ n, C8.Cal P w K mg base (n + 1) "value_of" (sp_value K n) []
  | 0 => ok_value0 D d b
  | n + 1 => ok_value D d b T (value_all D d b T c n) (calUp c (by omega))
end
/-! dicts filled to the end -/
def Full (H : Hp) (d : Addr) (ys : List Str) (f : Str → V) : Prop := ∃ kvs : List (Key × V), H d = some (.dK kvs) ∧ kvs.length = ys.length ∧ ∀ x, valV kvs (.inr x) = if x ∈ ys then some (f x) else none
theorem Full.keep {H H' : Hp} {W : List Addr} {d : Addr} {ys : List Str} {f : Str → V} (h : Full H d ys f) (k : Keep W H H') (w : d ∉ W) : Full H' d ys f := by
  obtain ⟨kvs, e, l, v⟩ := h
  exact ⟨kvs, k _ _ e w, l, v⟩
theorem Full.dcI {H : Hp} {d : Addr} {ys : List Str} {tb : Str → Int} (h : Full H d ys fun x => .int (tb x)) : DcI H d ys tb := by
  obtain ⟨kvs, e, _, v⟩ := h
  exact ⟨kvs, e, fun x hx => by rw [v x, if_pos hx]⟩
theorem putK_old {kvs : List (Key × V)} {k : Key} {v u : V} (h : valV kvs k = some u) : (putK kvs k v).length = kvs.length := by
  unfold putK
  rw [if_pos (by rw [valV_any, h]; rfl), List.length_map]
theorem Full.put {H : Hp} {d : Addr} {ys : List Str} {tb : Str → Int} (h : Full H d ys fun x => .int (tb x)) {x : Str} (hx : x ∈ ys) : ∃ kvs : List (Key × V), H d = some (.dK kvs) ∧ kvs.length = ys.length ∧
    ∀ (H' : Hp) (v : Int), H' d = some (.dK (putK kvs (.inr x) (.int v))) → Full H' d ys (fun y => .int (if y = x then v else tb y)) := by
  obtain ⟨kvs, e, l, g⟩ := h
  refine ⟨kvs, e, l, fun H' v h' => ⟨_, h', ?_, fun y => ?_⟩⟩
  · rw [putK_old (by rw [g x, if_pos hx])]; exact l
  · rw [valV_put]
    by_cases q : y = x
    · subst q
      rw [if_pos rfl, if_pos hx]
      show _ = some (V.int (if y = y then v else tb y))
      rw [if_pos rfl]
    · rw [if_neg (fun w => q (Sum.inr.inj w)), g y]
      show _ = if y ∈ ys then some (V.int (if y = x then v else tb y)) else none
      rw [if_neg q]
/-! a brain at work -/
def thF (d st tp : Addr) (l : Int) : List (Str × V) := [("table", .ref d), ("left", .int l), ("seen", .ref st), ("tape", .ref tp)]
structure ThAt (C CT : Addr) (H : Hp) (x d st tp rx tx : Addr) (ns : List Str) (seen rs : List Int) (s : MS) : Prop where
  o : ∃ dx, H x = some (.ins C dx (thF d st tp s.left))
  t : Full H d ns (fun y => .int (s.tb y))
  sn : H st = some (.tup (seen.map V.int))
  ta : TapeAt CT H tp rx tx rs s.tk
  nx : x ≠ tp
theorem ThAt.keep0 {C CT : Addr} {H H' : Hp} {x d st tp rx tx : Addr} {ns : List Str} {seen rs : List Int} {s : MS} (h : ThAt C CT H x d st tp rx tx ns seen rs s) (k : Keep [] H H') : ThAt C CT H' x d st tp rx tx ns seen rs s := by
  obtain ⟨dx, o⟩ := h.o
  exact ⟨⟨dx, k _ _ o (by simp)⟩, h.t.keep k (by simp), k _ _ h.sn (by simp), h.ta.keep k k.tk (by simp) (by simp) (by simp), h.nx⟩
theorem ThAt.tk3 {C CT : Addr} {H H' : Hp} {x d st tp rx tx : Addr} {ns : List Str} {seen rs : List Int} {s : MS} (h : ThAt C CT H x d st tp rx tx ns seen rs s) (k : Keep [x, d, tx] H H') : TK H H' := by
  obtain ⟨dx, o⟩ := h.o
  obtain ⟨kvs, e, _⟩ := h.t
  obtain ⟨ys, t, _⟩ := h.ta.t
  intro b xs q
  refine k _ _ q fun z => ?_
  have z' : b = x ∨ b = d ∨ b = tx := by simpa using z
  rcases z' with rfl | rfl | rfl
  · rw [o] at q; cases q
  · rw [e] at q; cases q
  · rw [t] at q; cases q
/-- all that a brain at work rests on -/
structure TC (C CT : Addr) (H : Hp) (x d st tp rx tx : Addr) (ns : List Str) (seen rs : List Int) (s : MS) : Prop where
  A : ThAt C CT H x d st tp rx tx ns seen rs s
  ok : MOk ns s
  sk : SeenOk seen
  sl : seen.length ≤ 60000
  bd : s.left.toNat + s.tk.length ≤ 90000
  nl : ns.length ≤ 1000
theorem TC.keep0 {C CT : Addr} {H H' : Hp} {x d st tp rx tx : Addr} {ns : List Str} {seen rs : List Int} {s : MS} (h : TC C CT H x d st tp rx tx ns seen rs s) (k : Keep [] H H') : TC C CT H' x d st tp rx tx ns seen rs s := ⟨h.A.keep0 k, h.ok, h.sk, h.sl, h.bd, h.nl⟩
theorem TC.mv {C CT : Addr} {H H' : Hp} {x d st tp rx tx : Addr} {ns : List Str} {seen rs : List Int} {s r : MS} (h : TC C CT H x d st tp rx tx ns seen rs s) (a : ThAt C CT H' x d st tp rx tx ns seen rs r) (m : Mv ns 0 s r) : TC C CT H' x d st tp rx tx ns seen rs r := ⟨a, m.ok, h.sk, h.sl, by have := m.k; have := h.bd; omega, h.nl⟩
def sp_tval (K : PySem.W.Frag) (C CT : Addr) : Sp := fun vs H Q _ => ∃ x d st tp rx tx ns seen rs s v e, vs = [.ref x, v] ∧ ThAt C CT H x d st tp rx tx ns seen rs s ∧ MOk ns s ∧ SeenOk seen ∧ seen.length ≤ 60000 ∧ EV K H v e ∧ ExOk ns e ∧ ∀ H', Keep [] H H' → Q (.int (s.ev seen e)) H'
def sp_tunit (C CT : Addr) : Sp := fun vs H Q _ => ∃ x d st tp rx tx ns seen rs s, vs = [.ref x] ∧ ThAt C CT H x d st tp rx tx ns seen rs s ∧ (s.left = 0 → Q (.bl false) H) ∧ (¬ s.left = 0 → ∀ H', ThAt C CT H' x d st tp rx tx ns seen rs { s with left := s.left - 1 } → Keep [x, d, tx] H H' → Q (.bl true) H')
def sp_trun (K : PySem.W.Frag) (C CT : Addr) (n : Nat) : Sp := fun vs H Q _ => ∃ x d st tp rx tx ns seen rs s q b, vs = [.ref x, .ref q] ∧ TC C CT H x d st tp rx tx ns seen rs s ∧ BV K H b q ∧ b.Ok ns ∧ b.dep < n ∧ ∀ H', ThAt C CT H' x d st tp rx tx ns seen rs (runB seen rs b s).2 → Keep [x, d, tx] H H' → Q (.bl (runB seen rs b s).1) H'
def sp_tstep (K : PySem.W.Frag) (C CT : Addr) (n : Nat) : Sp := fun vs H Q _ => ∃ x d st tp rx tx ns seen rs s v t, vs = [.ref x, v] ∧ TC C CT H x d st tp rx tx ns seen rs s ∧ TV K H t v ∧ t.Ok ns ∧ t.dep ≤ n ∧ ∀ H', ThAt C CT H' x d st tp rx tx ns seen rs (runT seen rs t s).2 → Keep [x, d, tx] H H' → Q (.bl (runT seen rs t s).1) H'
def sp_tloop (K : PySem.W.Frag) (C CT : Addr) (n : Nat) : Sp := fun vs H Q _ => ∃ x d st tp rx tx ns seen rs s v t q b, vs = [.ref x, v, .ref q] ∧ TC C CT H x d st tp rx tx ns seen rs s ∧ EV K H v t ∧ ExOk ns t ∧ BV K H b q ∧ b.Ok ns ∧ b.dep < n ∧
  ∀ H', ThAt C CT H' x d st tp rx tx ns seen rs (runT seen rs (.whl t b) s).2 → Keep [x, d, tx] H H' → Q (.bl (runT seen rs (.whl t b) s).1) H'
section
variable {P : Program} {w : World} {K : PySem.W.Frag} {mg : Str → Option Value} {base : Heap} {C_Tape : Addr} {C_Thinker : Addr} {C_Brain : Addr} {C_Mind : Addr} {C_Frame : Addr} {C_Thinking : Addr} {C_Checker : Addr} {T_EVENTS : Addr} {T_SIGNS : Addr} {T_ROUND_NAMES : Addr} {T_BRAIN_NAMES : Addr} {T_EFFECTS : Addr}
theorem ok_tval {f : Addr} {fd : FuncData} (me : Meth K C_Thinker "value" f) (F : C8.Fun K "value" "Thinker.value" s_Thinker_value f fd) (b : Binds K fd ["self", "expression"] []) (T : Txt K mg C_Tape C_Thinker C_Brain C_Mind C_Frame C_Thinking C_Checker T_EVENTS T_SIGNS T_ROUND_NAMES T_BRAIN_NAMES T_EFFECTS) (c_value_of : C8.Cal P w K mg base 13 "value_of" (sp_value K 12) []) : C8.Met P w K mg base 14 C_Thinker "value" (sp_tval K C_Thinker C_Tape) [] := by
  refine met0 T.cl_Thinker me F b sc_Thinker_value (fun vs H Q E h => ?_) (fun cdv A outer s H vs Q E hr h => ?_)
  · obtain ⟨x, d, st, tp, rx, tx, ns, seen, rs, s, v, e, rfl, _⟩ := h
    rfl
  · obtain ⟨x, d, st, tp, rx, tx, ns, seen, rs, s, v, e, rfl, hA, ok, sk, sl, he, hok, k⟩ := h
    have hu := hu_of hr
    refine ⟨_, (pss_one (ps_ret (pe_c c_value_of hr (by first | exact Nat.le_refl _ | decide | omega) rfl (pa_cons (pv 1) (pa_cons (pe_fld (pv 0) rfl) (pa_cons pe_dnewK (pa_cons (pe_fld (pv 0) rfl) pa_nil))))))), ?_⟩
    obtain ⟨dx, ho⟩ := hA.o
    refine ⟨_, rfl, _, rfl, x, C_Thinker, dx, _, _, rfl, ho, T.cl_Thinker, T.a_Thinker_table, rfl, fun od nod => ?_⟩
    have k1 : Keep [] H (upd H od (.dK [])) := Keep.new nod
    refine ⟨_, rfl, x, C_Thinker, dx, _, _, rfl, k1 _ _ ho (by simp), T.cl_Thinker, T.a_Thinker_seen, rfl, ?_⟩
    refine ⟨v, d, od, st, e, ns, [], s.tb, offs, seen, rfl, he.tk k1.tk, hok.1, hok.2, ⟨(hA.t.keep k1 (by simp)).dcI, ⟨[], upd_same, fun x hx => by cases hx⟩, SqT.of (k1 _ _ hA.sn (by simp)), ok.t, sk, by omega⟩, k _ k1⟩
theorem ok_tunit {f : Addr} {fd : FuncData} (me : Meth K C_Thinker "unit" f) (F : C8.Fun K "unit" "Thinker.unit" s_Thinker_unit f fd) (b : Binds K fd ["self"] []) (T : Txt K mg C_Tape C_Thinker C_Brain C_Mind C_Frame C_Thinking C_Checker T_EVENTS T_SIGNS T_ROUND_NAMES T_BRAIN_NAMES T_EFFECTS) : C8.Met P w K mg base 1 C_Thinker "unit" (sp_tunit C_Thinker C_Tape) [] := by
  refine met0 T.cl_Thinker me F b sc_Thinker_unit (fun vs H Q E h => ?_) (fun cdv A outer s H vs Q E hr h => ?_)
  · obtain ⟨x, d, st, tp, rx, tx, ns, seen, rs, s, rfl, _⟩ := h
    rfl
  · obtain ⟨x, d, st, tp, rx, tx, ns, seen, rs, s, rfl, hA, k0, k1⟩ := h
    refine ⟨_, (pss_cons (ps_if (pt_cmpR op_eq (pe_fld (pv 0) rfl) pe_int (nomark _))
  (pss_one (ps_ret pe_bl))
  pss_nil)
(pss_cons (ps_fldaug (pv 0) pe_int in_sub)
(pss_one (ps_ret pe_bl)))), ?_⟩
    obtain ⟨dx, ho⟩ := hA.o
    refine ⟨_, rfl, x, C_Thinker, dx, _, _, rfl, ho, T.cl_Thinker, T.a_Thinker_left, rfl, rfl, _, rfl, iteD (fun e => k0 (V.int.inj e)) (fun e => ?_)⟩
    have e' : ¬ s.left = 0 := fun z => e (congrArg V.int z)
    refine ⟨_, rfl, x, C_Thinker, dx, _, _, rfl, ho, T.cl_Thinker, T.a_Thinker_left, rfl, _, _, rfl, rfl, dx, _, ho, by show 4 < 1000; decide, ?_⟩
    have ne : ∀ {a : Addr} {o : HO}, H a = some o → ¬ o = .ins C_Thinker dx (thF d st tp s.left) → a ≠ x := fun h1 h2 z => by rw [z, ho] at h1; exact h2 (Option.some.inj h1).symm
    obtain ⟨kvs, e1, e2, e3⟩ := hA.t
    obtain ⟨dt, ot⟩ := hA.ta.o
    obtain ⟨ys, t1, t2⟩ := hA.ta.t
    have ku : Keep [x] H (upd H x (.ins C_Thinker dx (thF d st tp (s.left - 1)))) := Keep.at_ (List.mem_singleton.mpr rfl)
    have tku : TK H (upd H x (.ins C_Thinker dx (thF d st tp (s.left - 1)))) := fun b xs q => by rw [upd_ne (ne q (by intro z; cases z))]; exact q
    refine k1 e' _ ⟨⟨dx, upd_same⟩, ⟨kvs, ?_, e2, e3⟩, ?_, hA.ta.keep ku tku ?_ ?_ ?_, hA.nx⟩ (ku.mono (by simp))
    · exact ku _ _ e1 (by have := ne e1 (by intro z; cases z); simpa using this)
    · exact tku _ _ hA.sn
    · simpa using hA.nx.symm
    · have := ne hA.ta.r (by intro z; cases z); simpa using this
    · have := ne t1 (by intro z; cases z); simpa using this
end

theorem ThAt.put {C CT : Addr} {H : Hp} {x d st tp rx tx : Addr} {ns : List Str} {seen rs : List Int} {s : MS} (h : ThAt C CT H x d st tp rx tx ns seen rs s) {y : Str} (hy : y ∈ ns) : ∃ kvs : List (Key × V), H d = some (.dK kvs) ∧ kvs.length = ns.length ∧
    ∀ v : Int, ThAt C CT (upd H d (.dK (putK kvs (.inr y) (.int v)))) x d st tp rx tx ns seen rs (s.put y v) := by
  obtain ⟨kvs, e, l, g⟩ := h.t.put hy
  obtain ⟨dx, o⟩ := h.o
  obtain ⟨dt, ot⟩ := h.ta.o
  obtain ⟨ys, t1, t2⟩ := h.ta.t
  refine ⟨kvs, e, l, fun v => ?_⟩
  have ne : ∀ {a : Addr} {u : HO}, H a = some u → ¬ u = .dK kvs → a ≠ d := fun h1 h2 z => by rw [z, e] at h1; exact h2 (Option.some.inj h1).symm
  have ku : Keep [d] H (upd H d (.dK (putK kvs (.inr y) (.int v)))) := Keep.at_ (List.mem_singleton.mpr rfl)
  have tku : TK H (upd H d (.dK (putK kvs (.inr y) (.int v)))) := fun b xs q => by rw [upd_ne (ne q (by intro z; cases z))]; exact q
  refine ⟨⟨dx, ku _ _ o (by have := ne o (by intro z; cases z); simpa using this)⟩, g _ v upd_same, tku _ _ h.sn, h.ta.keep ku tku ?_ ?_ ?_, h.nx⟩
  · have := ne ot (by intro z; cases z); simpa using this
  · have := ne h.ta.r (by intro z; cases z); simpa using this
  · have := ne t1 (by intro z; cases z); simpa using this
theorem ThAt.take {C CT : Addr} {H H' : Hp} {x d st tp rx tx : Addr} {ns : List Str} {seen rs : List Int} {s : MS} (h : ThAt C CT H x d st tp rx tx ns seen rs s) (k : Keep [tx] H H') {tk : List (Int × Int)} (t : TapeAt CT H' tp rx tx rs tk) : ThAt C CT H' x d st tp rx tx ns seen rs { s with tk := tk } := by
  obtain ⟨dx, o⟩ := h.o
  obtain ⟨ys, t1, t2⟩ := h.ta.t
  obtain ⟨kvs, e, _⟩ := id h.t
  have ne : ∀ {a : Addr} {u : HO}, H a = some u → ¬ u = .lst ys → a ≠ tx := fun h1 h2 z => by rw [z, t1] at h1; exact h2 (Option.some.inj h1).symm
  refine ⟨⟨dx, k _ _ o (by have := ne o (by intro z; cases z); simpa using this)⟩, h.t.keep k (by have := ne e (by intro z; cases z); simpa using this), k _ _ h.sn (by have := ne h.sn (by intro z; cases z); simpa using this), t, h.nx⟩
theorem metUp {P : Program} {w : World} {K : PySem.W.Frag} {mg : Str → Option Value} {base : Heap} {j k : Nat} {C : Addr} {m : Str} {sp : Sp} {dvs : List V} (c : C8.Met P w K mg base j C m sp dvs) (h : j ≤ k) : C8.Met P w K mg base k C m sp dvs := by
  obtain ⟨f, fd, ps, ds, hc, hm, F, b, d⟩ := c.ex
  exact ⟨f, fd, ps, ds, hc, hm, F.mono h, b, d⟩
section
variable {P : Program} {w : World} {K : PySem.W.Frag} {mg : Str → Option Value} {base : Heap} {C_Tape : Addr} {C_Thinker : Addr} {C_Brain : Addr} {C_Mind : Addr} {C_Frame : Addr} {C_Thinking : Addr} {C_Checker : Addr} {T_EVENTS : Addr} {T_SIGNS : Addr} {T_ROUND_NAMES : Addr} {T_BRAIN_NAMES : Addr} {T_EFFECTS : Addr}
theorem ok_trun0 {f : Addr} {fd : FuncData} (me : Meth K C_Thinker "run" f) (b : Binds K fd ["self", "block"] []) (T : Txt K mg C_Tape C_Thinker C_Brain C_Mind C_Frame C_Thinking C_Checker T_EVENTS T_SIGNS T_ROUND_NAMES T_BRAIN_NAMES T_EFFECTS) {k : Nat} : C8.Met P w K mg base k C_Thinker "run" (sp_trun K C_Thinker C_Tape 0) [] :=
  ⟨f, fd, ["self", "block"], [], T.cl_Thinker, me, ⟨fun vs H Q E h => (by obtain ⟨x, d, st, tp, rx, tx, ns, seen, rs, s, q, b, rfl, _⟩ := h; rfl), fun A outer s H args us vs Q E _ _ _ _ h => (by
    obtain ⟨x, d, st, tp, rx, tx, ns, seen, rs, s, q, b, _, _, _, _, z, _⟩ := h
    exact absurd z (Nat.not_lt_zero _))⟩, b, .nil⟩
theorem ok_tloop {f : Addr} {fd : FuncData} (me : Meth K C_Thinker "loop" f) (F : C8.Fun K "loop" "Thinker.loop" s_Thinker_loop f fd) (b : Binds K fd ["self", "test", "block"] []) (T : Txt K mg C_Tape C_Thinker C_Brain C_Mind C_Frame C_Thinking C_Checker T_EVENTS T_SIGNS T_ROUND_NAMES T_BRAIN_NAMES T_EFFECTS) {n k : Nat} (c_Thinker_value : C8.Met P w K mg base k C_Thinker "value" (sp_tval K C_Thinker C_Tape) []) (c_Thinker_unit : C8.Met P w K mg base k C_Thinker "unit" (sp_tunit C_Thinker C_Tape) [])
    (c_Thinker_run : C8.Met P w K mg base k C_Thinker "run" (sp_trun K C_Thinker C_Tape n) []) : C8.Met P w K mg base (k + 1) C_Thinker "loop" (sp_tloop K C_Thinker C_Tape n) [] := by
  refine met0 T.cl_Thinker me F b sc_Thinker_loop (fun vs H Q E h => ?_) (fun cdv A outer s H vs Q E hr h => ?_)
  · obtain ⟨x, d, st, tp, rx, tx, ns, seen, rs, s, v, t, q, b, rfl, _⟩ := h
    rfl
  · obtain ⟨x, d, st, tp, rx, tx, ns, seen, rs, s0, v, t, q, b, rfl, hC, he, hok, hB, bok, bd, k⟩ := h
    refine ⟨_, (pss_cons (ps_while PassesOwn.never (pt_cmpR op_ne (pe_mt c_Thinker_value hr (by first | exact Nat.le_refl _ | decide | omega) (pv 0) (pa_cons (pv 1) pa_nil)) pe_int (nomark _))
  (pss_one (ps_if (PW.pt (pw_or (pt_not (pt_truth (pe_mt c_Thinker_run hr (by first | exact Nat.le_refl _ | decide | omega) (pv 0) (pa_cons (pv 2) pa_nil)) (by intro _; rfl))) (pw_or1 (pt_not (pt_truth (pe_mt0 c_Thinker_unit hr (by first | exact Nat.le_refl _ | decide | omega) (pv 0)) (by intro _; rfl))))))
    (pss_one (ps_ret pe_bl))
    pss_nil)))
(pss_one (ps_ret pe_bl))), ?_⟩
    have eR : runT seen rs (.whl t b) s0 = loopM (fun s => decide (s.ev seen t ≠ 0)) (fun s => runB seen rs b s) (s0.left.toNat + 1) s0 := by unfold runT; rfl
    rw [eR] at k
    refine ⟨fun m σ H' => σ = [some (.ref x), some v, some (.ref q)] ∧ ∃ (s : MS) (i : Nat), m = s.left.toNat ∧ s.left.toNat < i ∧ TC C_Thinker C_Tape H' x d st tp rx tx ns seen rs s ∧ Keep [x, d, tx] H H' ∧ loopM (fun s => decide (s.ev seen t ≠ 0)) (fun s => runB seen rs b s) i s = loopM (fun s => decide (s.ev seen t ≠ 0)) (fun s => runB seen rs b s) (s0.left.toNat + 1) s0,
      ⟨_, rfl, s0, _, rfl, Nat.lt_succ_self _, hC, Keep.refl _ _, rfl⟩, ?_⟩
    rintro m σ H1 ⟨rfl, s, i, rfl, hi, C1, K1, eL⟩
    obtain ⟨i, rfl⟩ : ∃ j, i = j + 1 := ⟨i - 1, by omega⟩
    have tk1 := hC.A.tk3 K1
    obtain ⟨dx, ho⟩ := C1.A.o
    refine ⟨_, rfl, x, dx, _, rfl, ho, rfl, _, rfl, x, d, st, tp, rx, tx, ns, seen, rs, s, v, t, rfl, C1.A, C1.ok, C1.sk, C1.sl, he.tk tk1, hok, fun H2 K2 => ?_⟩
    have C2 := C1.keep0 K2
    have K12 := K1.trans (K2.mono (by simp))
    have hB2 := (hB.tk tk1).tk K2.tk
    by_cases hz : s.ev seen t = 0
    · have e : loopM (fun s => decide (s.ev seen t ≠ 0)) (fun s => runB seen rs b s) (i + 1) s = (true, s) := by
        unfold loopM
        rw [if_pos (decide_eq_false (not_not_intro hz))]
      rw [← eL, e] at k
      exact ⟨rfl, _, rfl, iteNF (by rw [hz]) (k _ C2.A K12)⟩
    have e : loopM (fun s => decide (s.ev seen t ≠ 0)) (fun s => runB seen rs b s) (i + 1) s = if (runB seen rs b s).1 = false then (false, (runB seen rs b s).2) else if (runB seen rs b s).2.left = 0 then (false, (runB seen rs b s).2) else
        loopM (fun s => decide (s.ev seen t ≠ 0)) (fun s => runB seen rs b s) i { (runB seen rs b s).2 with left := (runB seen rs b s).2.left - 1 } := by
      conv => lhs; unfold loopM
      rw [if_neg (by simpa using hz)]
    refine ⟨rfl, _, rfl, iteNT (fun z => hz (V.int.inj z)) ⟨fun σ' H' => ∃ m', m' < s.left.toNat ∧ (σ' = [some (.ref x), some v, some (.ref q)] ∧ ∃ (s : MS) (i : Nat), m' = s.left.toNat ∧ s.left.toNat < i ∧ TC C_Thinker C_Tape H' x d st tp rx tx ns seen rs s ∧ Keep [x, d, tx] H H' ∧ loopM (fun s => decide (s.ev seen t ≠ 0)) (fun s => runB seen rs b s) i s = loopM (fun s => decide (s.ev seen t ≠ 0)) (fun s => runB seen rs b s) (s0.left.toNat + 1) s0), fun _ _ z => z, ?_⟩⟩
    have mv := runB_mv (rs := rs) C1.sk b bok s C1.ok
    obtain ⟨dx2, ho2⟩ := C2.A.o
    refine ⟨_, rfl, x, dx2, _, rfl, ho2, rfl, _, rfl, x, d, st, tp, rx, tx, ns, seen, rs, s, q, b, rfl, C2, hB2, bok, bd, fun H3 A3 K3 => ?_⟩
    have C3 := C2.mv A3 mv
    have K13 := K12.trans K3
    cases hb : (runB seen rs b s).1 with
    | false =>
      rw [hb, if_pos rfl] at e
      rw [← eL, e] at k
      exact ⟨_, rfl, iteT (k _ A3 K13)⟩
    | true =>
      rw [hb, if_neg (by decide)] at e
      refine ⟨_, rfl, iteF ?_⟩
      obtain ⟨dx3, ho3⟩ := C3.A.o
      refine ⟨_, rfl, x, dx3, _, rfl, ho3, rfl, x, d, st, tp, rx, tx, ns, seen, rs, _, rfl, A3, fun z => ?_, fun z H4 A4 K4 => ?_⟩
      · rw [if_pos z] at e
        rw [← eL, e] at k
        exact ⟨_, rfl, iteT (k _ A3 K13)⟩
      · rw [if_neg z] at e
        refine ⟨_, rfl, iteF ?_⟩
        have hok3 := C3.ok.dec z
        have hl3 := C3.ok.l
        have hml := mv.l
        have hl0 := C1.ok.l
        refine ⟨((runB seen rs b s).2.left - 1).toNat, by omega, rfl, _, i, rfl, ?_, ⟨A4, hok3, C3.sk, C3.sl, ?_, C3.nl⟩, K13.trans K4, ?_⟩
        · show ((runB seen rs b s).2.left - 1).toNat < i
          omega
        · have := C3.bd
          show ((runB seen rs b s).2.left - 1).toNat + (runB seen rs b s).2.tk.length ≤ 90000
          omega
        · rw [← e, eL]
theorem ok_tstep {f : Addr} {fd : FuncData} (me : Meth K C_Thinker "step" f) (F : C8.Fun K "step" "Thinker.step" s_Thinker_step f fd) (b : Binds K fd ["self", "statement"] []) (T : Txt K mg C_Tape C_Thinker C_Brain C_Mind C_Frame C_Thinking C_Checker T_EVENTS T_SIGNS T_ROUND_NAMES T_BRAIN_NAMES T_EFFECTS) {n k : Nat} (c_Thinker_value : C8.Met P w K mg base k C_Thinker "value" (sp_tval K C_Thinker C_Tape) []) (c_Thinker_loop : C8.Met P w K mg base k C_Thinker "loop" (sp_tloop K C_Thinker C_Tape n) [])
    (c_Thinker_run : C8.Met P w K mg base k C_Thinker "run" (sp_trun K C_Thinker C_Tape n) []) (c_Tape_take : C8.Met P w K mg base k C_Tape "take" (sp_take C_Tape) []) : C8.Met P w K mg base (k + 1) C_Thinker "step" (sp_tstep K C_Thinker C_Tape n) [] := by
  refine met0 T.cl_Thinker me F b sc_Thinker_step (fun vs H Q E h => ?_) (fun cdv A outer s H vs Q E hr h => ?_)
  · obtain ⟨x, d, st, tp, rx, tx, ns, seen, rs, s, v, t, rfl, _⟩ := h
    rfl
  · obtain ⟨x, d, st, tp, rx, tx, ns, seen, rs, s, v, t, rfl, hC, hT, hok, bd, k⟩ := h
    have hu := hu_of hr
    refine ⟨_, (pss_cons (ps_set (i := 2) sc_Thinker_step.nd rfl (by first | exact Or.inl rfl | exact Or.inr rfl) (pe_ix ix_tup (pv 1) pe_int (fun _ _ => rfl)))
(pss_cons (ps_if (pt_cmpR op_eq (pv 2) pe_str (nomark _))
  (pss_one (ps_ret (pe_mt c_Thinker_loop hr (by first | exact Nat.le_refl _ | decide | omega) (pv 0) (pa_cons (pe_ix ix_tup (pv 1) pe_int (fun _ _ => rfl)) (pa_cons (pe_ix ix_tup (pv 1) pe_int (fun _ _ => rfl)) pa_nil)))))
  pss_nil)
(pss_cons (ps_if (pt_cmpR op_eq (pv 2) pe_str (nomark _))
  (pss_cons (ps_if (pt_cmpR op_ne (pe_mt c_Thinker_value hr (by first | exact Nat.le_refl _ | decide | omega) (pv 0) (pa_cons (pe_ix ix_tup (pv 1) pe_int (fun _ _ => rfl)) pa_nil)) pe_int (nomark _))
    (pss_one (ps_ret (pe_mt c_Thinker_run hr (by first | exact Nat.le_refl _ | decide | omega) (pv 0) (pa_cons (pe_ix ix_tup (pv 1) pe_int (fun _ _ => rfl)) pa_nil))))
    pss_nil)
  (pss_one (ps_ret (pe_mt c_Thinker_run hr (by first | exact Nat.le_refl _ | decide | omega) (pv 0) (pa_cons (pe_ix ix_tup (pv 1) pe_int (fun _ _ => rfl)) pa_nil)))))
  pss_nil)
(pss_cons (ps_set (i := 3) sc_Thinker_step.nd rfl (by first | exact Or.inl rfl | exact Or.inr rfl) (pe_mt c_Thinker_value hr (by first | exact Nat.le_refl _ | decide | omega) (pv 0) (pa_cons (pe_ix ix_tup (pv 1) pe_int (fun _ _ => rfl)) pa_nil)))
(pss_cons (ps_if (PW.pt (pw_and (pt_cmpR op_eq (pv 2) pe_str (nomark _)) (pw_and1 (pt_cmpR op_gt (pv 3) pe_int (nomark _)))))
  (pss_one (ps_set (i := 3) sc_Thinker_step.nd rfl (by first | exact Or.inl rfl | exact Or.inr rfl) (pe_mt c_Tape_take hr (by first | exact Nat.le_refl _ | decide | omega) (pe_fld (pv 0) rfl) (pa_cons (pv 3) pa_nil))))
  pss_nil)
(pss_cons (ps_dput hu (pe_fld (pv 0) rfl) (pe_ix ix_tup (pv 1) pe_int (fun _ _ => rfl)) (pv 3) (by rfl))
(pss_one (ps_ret pe_bl)))))))), ?_⟩
    obtain ⟨dx, ho⟩ := hC.A.o
    cases t with
    | whl t b =>
      obtain ⟨p, u, q, xs, rfl, h1, h2, h3, h4⟩ := hT
      refine ⟨_, rfl, _, _, _, _, rfl, rfl, h1.sq, rfl, ?_⟩
      refine ⟨_, rfl, rfl, _, rfl, iteDT rfl ?_⟩
      exact ⟨_, rfl, x, dx, _, rfl, ho, rfl, _, rfl, _, _, _, _, rfl, rfl, h1.sq, rfl, _, rfl, _, _, _, _, rfl, rfl, h1.sq, rfl, x, d, st, tp, rx, tx, ns, seen, rs, s, u, t, q, b, rfl, hC, h2, hok.1, ⟨xs, h3, h4⟩, hok.2, by (have : b.dep + 1 ≤ n := bd); omega, k⟩
    | iff t a b =>
      obtain ⟨p, u, q, r, xs, ys, rfl, h1, h2, h3, h4, h5, h6⟩ := hT
      have bd' : max a.dep b.dep + 1 ≤ n := bd
      refine ⟨_, rfl, _, _, _, _, rfl, rfl, h1.sq, rfl, ?_⟩
      refine ⟨_, rfl, rfl, _, rfl, iteDF (nes (by decide +kernel)) ?_⟩
      refine ⟨_, rfl, rfl, _, rfl, iteDT rfl ?_⟩
      refine ⟨_, rfl, x, dx, _, rfl, ho, rfl, _, rfl, _, _, _, _, rfl, rfl, h1.sq, rfl, x, d, st, tp, rx, tx, ns, seen, rs, s, u, t, rfl, hC.A, hC.ok, hC.sk, hC.sl, h2, hok.1, fun H1 K1 => ?_⟩
      have C1 := hC.keep0 K1
      have h1' := h1.tk K1.tk
      obtain ⟨dx1, ho1⟩ := C1.A.o
      by_cases hz : s.ev seen t = 0
      · have e : runT seen rs (.iff t a b) s = runB seen rs b s := by unfold runT; rw [if_neg (not_not_intro hz)]
        rw [e] at k
        refine ⟨rfl, _, rfl, iteNF (by rw [hz]) ?_⟩
        exact ⟨_, rfl, x, dx1, _, rfl, ho1, rfl, _, rfl, _, _, _, _, rfl, rfl, h1'.sq, rfl, x, d, st, tp, rx, tx, ns, seen, rs, s, r, b, rfl, C1, ⟨ys, h5.tk K1.tk, TVs.tk K1.tk b h6⟩, hok.2.2, by omega, fun H2 A2 K2 => k _ A2 ((K1.mono (by simp)).trans K2)⟩
      · have e : runT seen rs (.iff t a b) s = runB seen rs a s := by unfold runT; rw [if_pos hz]
        rw [e] at k
        refine ⟨rfl, _, rfl, iteNT (fun z => hz (V.int.inj z)) ?_⟩
        exact ⟨_, rfl, x, dx1, _, rfl, ho1, rfl, _, rfl, _, _, _, _, rfl, rfl, h1'.sq, rfl, x, d, st, tp, rx, tx, ns, seen, rs, s, q, a, rfl, C1, ⟨xs, h3.tk K1.tk, TVs.tk K1.tk a h4⟩, hok.2.1, by omega, fun H2 A2 K2 => k _ A2 ((K1.mono (by simp)).trans K2)⟩
    | set y e =>
      obtain ⟨p, u, rfl, h1, h2⟩ := hT
      refine ⟨_, rfl, _, _, _, _, rfl, rfl, h1.sq, rfl, ?_⟩
      refine ⟨_, rfl, rfl, _, rfl, iteDF (nes (by decide +kernel)) ?_⟩
      refine ⟨_, rfl, rfl, _, rfl, iteDF (nes (by decide +kernel)) ?_⟩
      refine ⟨_, rfl, x, dx, _, rfl, ho, rfl, _, rfl, _, _, _, _, rfl, rfl, h1.sq, rfl, x, d, st, tp, rx, tx, ns, seen, rs, s, u, e, rfl, hC.A, hC.ok, hC.sk, hC.sl, h2, hok.2, fun H1 K1 => ?_⟩
      have C1 := hC.keep0 K1
      have h1' := h1.tk K1.tk
      obtain ⟨dx1, ho1⟩ := C1.A.o
      refine ⟨_, rfl, rfl, _, rfl, iteDF (nes (by decide +kernel)) ?_⟩
      obtain ⟨kvs, e1, e2, e3⟩ := C1.A.put hok.1
      refine ⟨_, rfl, _, rfl, x, C_Thinker, dx1, _, _, rfl, ho1, T.cl_Thinker, T.a_Thinker_table, rfl, _, rfl, _, _, _, _, rfl, rfl, h1'.sq, rfl, d, _, rfl, DPut.k (k := .inr y) e1 (smallL (by rw [e2]; have := hC.nl; omega)), ?_⟩
      exact k _ (e3 _) ((K1.mono (by simp)).trans (Keep.at_ (by simp)))
    | lot y e =>
      obtain ⟨p, u, rfl, h1, h2⟩ := hT
      refine ⟨_, rfl, _, _, _, _, rfl, rfl, h1.sq, rfl, ?_⟩
      refine ⟨_, rfl, rfl, _, rfl, iteDF (nes (by decide +kernel)) ?_⟩
      refine ⟨_, rfl, rfl, _, rfl, iteDF (nes (by decide +kernel)) ?_⟩
      refine ⟨_, rfl, x, dx, _, rfl, ho, rfl, _, rfl, _, _, _, _, rfl, rfl, h1.sq, rfl, x, d, st, tp, rx, tx, ns, seen, rs, s, u, e, rfl, hC.A, hC.ok, hC.sk, hC.sl, h2, hok.2, fun H1 K1 => ?_⟩
      have C1 := hC.keep0 K1
      have h1' := h1.tk K1.tk
      obtain ⟨dx1, ho1⟩ := C1.A.o
      have hv := hC.ok.ev hC.sk hok.2
      have eR : runT seen rs (.lot y e) s = (true, lotS seen rs s y e) := by unfold runT; rfl
      rw [eR] at k
      refine ⟨_, rfl, rfl, _, rfl, iteDT rfl ⟨_, rfl, _, _, rfl, rfl, _, rfl, iteD (fun hp => ?_) (fun hp => ?_)⟩⟩
      · obtain ⟨dt, ot⟩ := C1.A.ta.o
        have hl : s.tk.length ≤ 100000 := by have := hC.bd; omega
        refine ⟨_, rfl, x, C_Thinker, dx1, _, _, rfl, ho1, T.cl_Thinker, T.a_Thinker_tape, rfl, tp, dt, _, rfl, ot, rfl, _, rfl, tp, rx, tx, rs, s.tk, s.ev seen e, rfl, hp, by omega, hl, C1.A.ta, fun H2 K2 TA2 => ?_⟩
        have A2 := C1.A.take K2 TA2
        have tk2 : TK H1 H2 := C1.A.tk3 (K2.mono (by simp))
        obtain ⟨kvs, e1, e2, e3⟩ := A2.put hok.1
        obtain ⟨dx2, ho2⟩ := A2.o
        have eL : lotS seen rs s y e = MS.put { s with tk := s.tk ++ [(nextR rs s.tk (s.ev seen e), s.ev seen e)] } y (nextR rs s.tk (s.ev seen e)) := by unfold lotS; rw [if_pos hp]
        rw [eL] at k
        refine ⟨_, rfl, _, rfl, x, C_Thinker, dx2, _, _, rfl, ho2, T.cl_Thinker, T.a_Thinker_table, rfl, _, rfl, _, _, _, _, rfl, rfl, (h1'.tk tk2).sq, rfl, d, _, rfl, DPut.k (k := .inr y) e1 (smallL (by rw [e2]; have := hC.nl; omega)), ?_⟩
        exact k _ (e3 _) (((K1.mono (by simp)).trans (K2.mono (by simp))).trans (Keep.at_ (by simp)))
      · have eL : lotS seen rs s y e = s.put y (s.ev seen e) := by unfold lotS; rw [if_neg hp]
        rw [eL] at k
        obtain ⟨kvs, e1, e2, e3⟩ := C1.A.put hok.1
        refine ⟨_, rfl, _, rfl, x, C_Thinker, dx1, _, _, rfl, ho1, T.cl_Thinker, T.a_Thinker_table, rfl, _, rfl, _, _, _, _, rfl, rfl, h1'.sq, rfl, d, _, rfl, DPut.k (k := .inr y) e1 (smallL (by rw [e2]; have := hC.nl; omega)), ?_⟩
        exact k _ (e3 _) ((K1.mono (by simp)).trans (Keep.at_ (by simp)))
theorem ok_trun {f : Addr} {fd : FuncData} (me : Meth K C_Thinker "run" f) (F : C8.Fun K "run" "Thinker.run" s_Thinker_run f fd) (b : Binds K fd ["self", "block"] []) (T : Txt K mg C_Tape C_Thinker C_Brain C_Mind C_Frame C_Thinking C_Checker T_EVENTS T_SIGNS T_ROUND_NAMES T_BRAIN_NAMES T_EFFECTS) {n k : Nat} (c_Thinker_unit : C8.Met P w K mg base k C_Thinker "unit" (sp_tunit C_Thinker C_Tape) [])
    (c_Thinker_step : C8.Met P w K mg base k C_Thinker "step" (sp_tstep K C_Thinker C_Tape n) []) : C8.Met P w K mg base (k + 1) C_Thinker "run" (sp_trun K C_Thinker C_Tape (n + 1)) [] := by
  refine met0 T.cl_Thinker me F b sc_Thinker_run (fun vs H Q E h => ?_) (fun cdv A outer s H vs Q E hr h => ?_)
  · obtain ⟨x, d, st, tp, rx, tx, ns, seen, rs, s, q, b, rfl, _⟩ := h
    rfl
  · obtain ⟨x, d, st, tp, rx, tx, ns, seen, rs, s0, q, b0, rfl, hC, ⟨xs, hq, hT⟩, hok, bd, k⟩ := h
    refine ⟨_, (pss_cons (ps_for PassesOwn.never rfl (pi_tup (pv 1)) (pg_name (i := 2) sc_Thinker_run.nd rfl (by first | exact Or.inl rfl | exact Or.inr rfl))
  (pss_one (ps_if (PW.pt (pw_or (pt_not (pt_truth (pe_mt0 c_Thinker_unit hr (by first | exact Nat.le_refl _ | decide | omega) (pv 0)) (by intro _; rfl))) (pw_or1 (pt_not (pt_truth (pe_mt c_Thinker_step hr (by first | exact Nat.le_refl _ | decide | omega) (pv 0) (pa_cons (pv 2) pa_nil)) (by intro _; rfl))))))
    (pss_one (ps_ret pe_bl))
    pss_nil)))
(pss_one (ps_ret pe_bl))), ?_⟩
    have tkOf : ∀ {H' : Hp}, Keep [x, d, tx] H H' → TK H H' := fun K' => hC.A.tk3 K'
    refine ⟨_, rfl, q, rfl, ⟨_, hq.sq⟩, for_tup (K := K) (a := q) (xs := xs) (fun i σ H' => ∃ (s : MS) (b : Bl) (o : Option V), σ = [some (.ref x), some (.ref q), o] ∧ TC C_Thinker C_Tape H' x d st tp rx tx ns seen rs s ∧ TVs K H b (xs.drop i) ∧ b.Ok ns ∧ b.dep ≤ n ∧ runB seen rs b s = runB seen rs b0 s0 ∧ Keep [x, d, tx] H H')
      ⟨s0, b0, none, rfl, hC, hT, hok, by omega, rfl, Keep.refl _ _⟩ (fun i σ H' _ ⟨_, _, _, _, _, _, _, _, _, K'⟩ => (hq.tk (tkOf K')).sq) ?_ ?_⟩
    · rintro i v σ H1 hv ⟨s, b, o, rfl, C1, hT1, ok1, d1, e1, K1⟩
      obtain ⟨hlt, hget⟩ := List.getElem?_eq_some_iff.mp hv
      rw [List.drop_eq_getElem_cons hlt, hget] at hT1
      cases b with
      | nil => cases hT1
      | cons t b =>
        obtain ⟨v', r', e2, hT2, hT3⟩ := hT1
        cases e2
        obtain ⟨dx, ho⟩ := C1.A.o
        have dt : t.dep ≤ n ∧ b.dep ≤ n := by (have : max t.dep b.dep ≤ n := d1); omega
        have eB : runB seen rs (.cons t b) s = if s.left = 0 then (false, s) else if (runT seen rs t { s with left := s.left - 1 }).1 = false then runT seen rs t { s with left := s.left - 1 } else runB seen rs b (runT seen rs t { s with left := s.left - 1 }).2 := by
          conv => lhs; unfold runB
        refine ⟨_, rfl, x, dx, _, rfl, ho, rfl, x, d, st, tp, rx, tx, ns, seen, rs, s, rfl, C1.A, fun z => ?_, fun z H2 A2 K2 => ?_⟩
        · rw [if_pos z] at eB
          rw [← e1, eB] at k
          exact ⟨_, rfl, iteT (k _ C1.A K1)⟩
        · rw [if_neg z] at eB
          refine ⟨_, rfl, iteF ?_⟩
          have K12 := K1.trans K2
          have okd := C1.ok.dec z
          have C2 : TC C_Thinker C_Tape H2 x d st tp rx tx ns seen rs { s with left := s.left - 1 } := ⟨A2, okd, C1.sk, C1.sl, by (have := C1.bd; show (s.left - 1).toNat + s.tk.length ≤ 90000; omega), C1.nl⟩
          obtain ⟨dx2, ho2⟩ := A2.o
          refine ⟨_, rfl, x, dx2, _, rfl, ho2, rfl, _, rfl, x, d, st, tp, rx, tx, ns, seen, rs, _, v, t, rfl, C2, TV.tk (tkOf K12) t hT2, ok1.1, dt.1, fun H3 A3 K3 => ?_⟩
          have K13 := K12.trans K3
          cases hb : (runT seen rs t { s with left := s.left - 1 }).1 with
          | false =>
            rw [if_pos hb] at eB
            rw [← e1, eB, hb] at k
            exact ⟨_, rfl, iteT (k _ A3 K13)⟩
          | true =>
            rw [if_neg (by rw [hb]; decide)] at eB
            refine ⟨_, rfl, iteF ?_⟩
            have mv := runT_mv (rs := rs) C1.sk t ok1.1 _ okd
            refine ⟨_, b, _, rfl, ⟨A3, mv.ok, C1.sk, C1.sl, ?_, C1.nl⟩, hT3, ok1.2, dt.2, by rw [← e1, eB], K13⟩
            have h1 := mv.k
            have h2 := C1.bd
            have h3 := C1.ok.l
            change _ ≤ (s.left - 1).toNat + s.tk.length + 1 at h1
            omega
    · rintro σ H1 ⟨s, b, o, rfl, C1, hT1, ok1, d1, e1, K1⟩
      rw [List.drop_length] at hT1
      cases b with
      | cons t b => obtain ⟨_, _, e2, _⟩ := hT1; cases e2
      | nil =>
        have eB : runB seen rs .nil s = (true, s) := by unfold runB; rfl
        rw [← e1, eB] at k
        exact k _ C1.A K1
theorem trun_all {fr fs fl : Addr} {dr ds dl : FuncData} (mr : Meth K C_Thinker "run" fr) (Fr : C8.Fun K "run" "Thinker.run" s_Thinker_run fr dr) (br : Binds K dr ["self", "block"] []) (ms : Meth K C_Thinker "step" fs) (Fs : C8.Fun K "step" "Thinker.step" s_Thinker_step fs ds) (bs : Binds K ds ["self", "statement"] [])
    (ml : Meth K C_Thinker "loop" fl) (Fl : C8.Fun K "loop" "Thinker.loop" s_Thinker_loop fl dl) (bl : Binds K dl ["self", "test", "block"] []) (T : Txt K mg C_Tape C_Thinker C_Brain C_Mind C_Frame C_Thinking C_Checker T_EVENTS T_SIGNS T_ROUND_NAMES T_BRAIN_NAMES T_EFFECTS) (c1 : C8.Met P w K mg base 14 C_Thinker "value" (sp_tval K C_Thinker C_Tape) []) (c2 : C8.Met P w K mg base 1 C_Thinker "unit" (sp_tunit C_Thinker C_Tape) []) (c3 : C8.Met P w K mg base 1 C_Tape "take" (sp_take C_Tape) []) :
    ∀ n, C8.Met P w K mg base (3 * n + 14) C_Thinker "run" (sp_trun K C_Thinker C_Tape n) []
  | 0 => ok_trun0 mr br T
  | n + 1 => by
    have c := trun_all mr Fr br ms Fs bs ml Fl bl T c1 c2 c3 n
    have cl := ok_tloop ml Fl bl T (metUp c1 (by omega)) (metUp c2 (by omega)) c
    have cs := ok_tstep ms Fs bs T (metUp c1 (by omega)) cl (metUp c (by omega)) (metUp c3 (by omega))
    exact ok_trun mr Fr br T (metUp c2 (by omega)) cs
end

/-! views -/
structure Ev where
  w : Str
  a : Int
  b : Option Int
def evL : List Str := ["round", "told", "move", "did"]
def evI (w : Str) : Nat := if w = "round" then 0 else if w = "told" then 1 else if w = "move" then 2 else 3
theorem evI_at : ∀ w ∈ evL, evL[evI w]? = some w ∧ (∀ m, m < evI w → evL[m]? ≠ some w) ∧ evI w < 4 := by decide +kernel
def evD (e : Ev) : List V := match e.b with
  | none => [.str e.w, .int e.a]
  | some b => [.str e.w, .int e.a, .int b]
structure EvOk (e : Ev) : Prop where
  w : e.w ∈ evL
  a0 : 0 ≤ e.a
  a1 : e.a < 65536
  b : ∀ b, e.b = some b → 0 ≤ b ∧ b < 65536
  m : e.w = "move" → ∃ b, e.b = some b
inductive Evs (H : Hp) : List V → List Ev → Prop
  | nil : Evs H [] []
  | cons {p : Addr} {e : Ev} {vs : List V} {es : List Ev} : H p = some (.tup (evD e)) → Evs H vs es → Evs H (.ref p :: vs) (e :: es)
theorem Evs.tk {H H' : Hp} (k : TK H H') {vs : List V} {l : List Ev} (h : Evs H vs l) : Evs H' vs l := by
  induction h with
  | nil => exact .nil
  | cons h _ ih => exact .cons (k _ _ h) ih
theorem Evs.app {H : Hp} {vs us : List V} {l m : List Ev} (h : Evs H vs l) (g : Evs H us m) : Evs H (vs ++ us) (l ++ m) := by
  induction h with
  | nil => exact g
  | cons h _ ih => exact .cons h ih
theorem Evs.len {H : Hp} {vs : List V} {l : List Ev} (h : Evs H vs l) : vs.length = l.length := by
  induction h with
  | nil => rfl
  | cons _ _ ih => rw [List.length_cons, List.length_cons, ih]
theorem Evs.get {H : Hp} {vs : List V} {l : List Ev} (h : Evs H vs l) : ∀ {i : Nat} {v : V}, vs[i]? = some v → ∃ p e, v = .ref p ∧ l[i]? = some e ∧ H p = some (.tup (evD e)) := by
  induction h with
  | nil => intro i v h; simp at h
  | cons h _ ih =>
    intro i v hv
    cases i with
    | zero => simp at hv; subst hv; exact ⟨_, _, rfl, rfl, h⟩
    | succ i => simpa using ih (by simpa using hv)
def EvsOk (es : List Ev) : Prop := ∀ e ∈ es, EvOk e
def num3 (e : Ev) : List Int := [(evI e.w : Int) + 1, e.a, e.b.getD 0]
def nums (es : List Ev) : List Int := (es.map num3).flatten
theorem nums_snoc (es : List Ev) (e : Ev) : nums (es ++ [e]) = nums es ++ num3 e := by simp [nums]
theorem nums_len : ∀ es : List Ev, (nums es).length = 3 * es.length
  | [] => rfl
  | e :: es => by
    show (num3 e ++ nums es).length = _
    rw [List.length_append, nums_len es, List.length_cons]
    show 3 + _ = _
    omega
theorem nums_ok {es : List Ev} (h : EvsOk es) : SeenOk (nums es) := by
  intro x hx
  obtain ⟨l, h1, h2⟩ := List.mem_flatten.mp hx
  obtain ⟨e, he, rfl⟩ := List.mem_map.mp h1
  have k := h e he
  have h3 := (evI_at _ k.w).2.2
  simp only [num3, List.mem_cons, List.not_mem_nil, or_false] at h2
  rcases h2 with rfl | rfl | rfl
  · omega
  · exact ⟨k.a0, k.a1⟩
  · cases q : e.b with
    | none => exact ⟨Int.le_refl _, by decide⟩
    | some b => exact k.b b q
def sp_views : Sp := fun vs H Q _ => ∃ q xs es, vs = [.ref q] ∧ H q = some (.tup xs) ∧ Evs H xs es ∧ EvsOk es ∧ es.length ≤ 10000 ∧ ∀ t H', H t = none → H' t = some (.tup ((nums es).map V.int)) → Keep [] H H' → Q (.ref t) H'
section
variable {P : Program} {w : World} {K : PySem.W.Frag} {mg : Str → Option Value} {base : Heap} {C_Tape : Addr} {C_Thinker : Addr} {C_Brain : Addr} {C_Mind : Addr} {C_Frame : Addr} {C_Thinking : Addr} {C_Checker : Addr} {T_EVENTS : Addr} {T_SIGNS : Addr} {T_ROUND_NAMES : Addr} {T_BRAIN_NAMES : Addr} {T_EFFECTS : Addr}
theorem ok_views {f : Addr} {fd : FuncData} (D : C8.Def K mg "view_numbers" s_view_numbers f fd) (b : Binds K fd ["view"] []) (T : Txt K mg C_Tape C_Thinker C_Brain C_Mind C_Frame C_Thinking C_Checker T_EVENTS T_SIGNS T_ROUND_NAMES T_BRAIN_NAMES T_EFFECTS) : C8.Cal P w K mg base 1 "view_numbers" sp_views [] := by
  refine cal0 D b .nil sc_view_numbers (fun vs H Q E h => ?_) (fun cdv A outer s H vs Q E hr h => ?_)
  · obtain ⟨q, xs, es, rfl, _⟩ := h
    rfl
  · obtain ⟨q, xs, es, rfl, hq, hE, hok, hlen, k⟩ := h
    refine ⟨_, (pss_cons (ps_set (i := 1) sc_view_numbers.nd rfl (by first | exact Or.inl rfl | exact Or.inr rfl) (pe_lst pa_nil))
(pss_cons (ps_for PassesOwn.never rfl (pi_tup (pv 0)) (pg_name (i := 2) sc_view_numbers.nd rfl (by first | exact Or.inl rfl | exact Or.inr rfl))
  (pss_cons (ps_expr (pe_bm PySem.F.plainAttrs_list PySem.F.slot_list_append PySem.F.type_list_append mt_append (pv 1) (pa_cons (pe_op op_add (pe_bm PySem.F.plainAttrs_tuple PySem.F.slot_tuple_index PySem.F.type_tuple_index mt_tup_index (pe_gc rfl T.v_EVENTS) (pa_cons (pe_ix ix_tup (pv 2) pe_int (fun _ _ => rfl)) pa_nil)) pe_int) pa_nil)))
  (pss_cons (ps_expr (pe_bm PySem.F.plainAttrs_list PySem.F.slot_list_append PySem.F.type_list_append mt_append (pv 1) (pa_cons (pe_ix ix_tup (pv 2) pe_int (fun _ _ => rfl)) pa_nil)))
  (pss_one (ps_expr (pe_bm PySem.F.plainAttrs_list PySem.F.slot_list_append PySem.F.type_list_append mt_append (pv 1) (pa_cons (pe_ifExp (pt_cmpR op_gt (pe_callB call_len_seq (by rfl) T.n_len bo_len (pa_cons (pv 2) pa_nil)) pe_int (nomark _)) (pe_ix ix_tup (pv 2) pe_int (fun _ _ => rfl)) pe_int) pa_nil)))))))
(pss_one (ps_ret (pe_callTy call_tuple_of (by rfl) T.n_tuple bo_tuple (pa_cons (pv 1) pa_nil)))))), ?_⟩
    refine ⟨Nat.zero_le _, fun l nl => ?_⟩
    have hl := hE.len
    refine ⟨_, rfl, q, rfl, ⟨_, SqT.of (Keep.new (W := []) nl _ _ hq (by simp))⟩, for_tup (K := K) (a := q) (xs := xs) (fun i σ H' => ∃ o : Option V, σ = [some (.ref q), some (.ref l), o] ∧ H' l = some (.lst ((nums (es.take i)).map V.int)) ∧ Keep [] H H')
      ⟨none, rfl, upd_same, Keep.new nl⟩ (fun i σ H' _ ⟨_, _, _, K'⟩ => SqT.of (K' _ _ hq (by simp))) ?_ ?_⟩
    · rintro i v σ H1 hv ⟨o, rfl, h1, K1⟩
      obtain ⟨p, e, rfl, hg, he⟩ := hE.get hv
      obtain ⟨hlt, hget⟩ := List.getElem?_eq_some_iff.mp hg
      have hee := hok e (hget ▸ List.getElem_mem hlt)
      have hi := evI_at _ hee.w
      have ll := nums_len (es.take i)
      rw [List.length_take] at ll
      have he1 := K1 _ _ he (by simp)
      have npl : p ≠ l := ne_of_none he nl
      obtain ⟨w0, a0, b0⟩ := e
      have hs0 : (evD ⟨w0, a0, b0⟩)[0]? = some (.str w0) := by cases b0 <;> rfl
      have hs1 : (evD ⟨w0, a0, b0⟩)[1]? = some (.int a0) := by cases b0 <;> rfl
      refine ⟨_, rfl, .inl ⟨rfl, _, SqL.of h1⟩, .inr (.inl ⟨rfl, T.d_EVENTS⟩), _, rfl, _, _, _, _, rfl, rfl, SqT.of he1, atI_nat (j := 0) hs0, _, evL, _, _, rfl, rfl, T.q_EVENTS _, hi.1, hi.2.1, _, _, rfl, rfl, ?_⟩
      refine ⟨_, _, _, rfl, rfl, h1, by rw [List.length_map]; exact smallL (by omega), ?_⟩
      have he2 : upd H1 l (.lst ((nums (es.take i)).map V.int ++ [.int ((evI w0 : Int) + 1)])) p = some (.tup (evD ⟨w0, a0, b0⟩)) := by rw [upd_ne npl]; exact he1
      refine ⟨_, rfl, .inl ⟨rfl, _, SqL.of upd_same⟩, _, rfl, _, _, _, _, rfl, rfl, SqT.of he2, atI_nat (j := 1) hs1, ?_⟩
      refine ⟨_, _, _, rfl, rfl, upd_same, by rw [List.length_append, List.length_map]; exact smallL (by simp; omega), ?_⟩
      have he3 : upd (upd H1 l (.lst ((nums (es.take i)).map V.int ++ [.int ((evI w0 : Int) + 1)]))) l (.lst ((nums (es.take i)).map V.int ++ [.int ((evI w0 : Int) + 1)] ++ [.int a0])) p = some (.tup (evD ⟨w0, a0, b0⟩)) := by rw [upd_ne npl]; exact he2
      refine ⟨_, rfl, .inl ⟨rfl, _, SqL.of upd_same⟩, _, rfl, _, _, rfl, .inr (SqT.of he3), _, _, rfl, rfl, ?_⟩
      have fin : ∀ z : Int, z = b0.getD 0 → ∀ {H9 : Hp}, H9 l = some (.lst (((nums (es.take i)).map V.int ++ [.int ((evI w0 : Int) + 1)] ++ [.int a0]) ++ [.int z])) → H9 l = some (.lst ((nums (es.take (i + 1))).map V.int)) := by
        intro z hz H9 h9
        rw [h9, List.take_succ_eq_append_getElem hlt, hget, nums_snoc, List.map_append, hz]
        simp [num3]
      have kf : ∀ z : Int, Keep [] H (upd (upd (upd H1 l (.lst ((nums (es.take i)).map V.int ++ [.int ((evI w0 : Int) + 1)]))) l (.lst ((nums (es.take i)).map V.int ++ [.int ((evI w0 : Int) + 1)] ++ [.int a0]))) l (.lst (((nums (es.take i)).map V.int ++ [.int ((evI w0 : Int) + 1)] ++ [.int a0]) ++ [.int z]))) := fun z => ((K1.then_own nl).then_own nl).then_own nl
      have sz : ((nums (es.take i)).map V.int ++ [V.int ((evI w0 : Int) + 1)] ++ [V.int a0]).length < sizeLine := by
        rw [List.length_append, List.length_append, List.length_map]; exact smallL (by simp; omega)
      cases b0 with
      | none =>
        refine ⟨_, rfl, iteDF (by show ¬ ((2 : Nat) : Int) > 2; omega) ?_⟩
        exact ⟨_, _, _, rfl, rfl, upd_same, sz, _, rfl, fin 0 rfl upd_same, kf 0⟩
      | some b =>
        refine ⟨_, rfl, iteDT (by show ((3 : Nat) : Int) > 2; omega) ?_⟩
        exact ⟨_, rfl, _, _, _, _, rfl, rfl, SqT.of he3, rfl, _, _, _, rfl, rfl, upd_same, sz, _, rfl, fin b rfl upd_same, kf b⟩
    · rintro σ H1 ⟨o, rfl, h1, K1⟩
      rw [hl, List.take_length] at h1
      exact ⟨_, rfl, _, _, rfl, .inl ⟨SqL.of h1, fun t nt => k t _ (K1.free nt) upd_same (K1.then_new nt)⟩⟩
end

/-! views that are drawn -/
def VL (H : Hp) (l : Addr) (es : List Ev) : Prop := ∃ vs, H l = some (.lst vs) ∧ Evs H vs es
theorem VL.keep {H H' : Hp} {l : Addr} {es : List Ev} {W : List Addr} (h : VL H l es) (k : Keep W H H') (t : TK H H') (w : l ∉ W) : VL H' l es := by
  obtain ⟨vs, h1, h2⟩ := h
  exact ⟨vs, k _ _ h1 w, h2.tk t⟩
theorem VL.push {H : Hp} {l t : Addr} {es : List Ev} (h : VL H l es) (e : Ev) (nt : H t = none) : ∃ vs, upd H t (.tup (evD e)) l = some (.lst vs) ∧ vs.length = es.length ∧ VL (upd (upd H t (.tup (evD e))) l (.lst (vs ++ [.ref t]))) l (es ++ [e]) := by
  obtain ⟨vs, h1, h2⟩ := h
  have k1 : Keep [] H (upd H t (.tup (evD e))) := Keep.new nt
  have h1' := k1 _ _ h1 (by simp)
  have ne : t ≠ l := (ne_of_none h1 nt).symm
  refine ⟨vs, h1', h2.len, _, upd_same, (h2.tk (k1.tk.trans (TK.lst h1'))).app (.cons (by rw [upd_ne ne]; exact upd_same) .nil)⟩
theorem VL.cat {H : Hp} {l u r : Addr} {es fs : List Ev} {vs us : List V} (h1 : Evs H vs es) (h2 : Evs H us fs) (nr : H r = none) : VL (upd H r (.lst (vs ++ us))) r (es ++ fs) := ⟨_, upd_same, (h1.app h2).tk (TK.new nr)⟩
theorem EvsOk.app {es fs : List Ev} (h : EvsOk es) (g : EvsOk fs) : EvsOk (es ++ fs) := fun e he => (List.mem_append.mp he).elim (h e) (g e)
theorem evok (w : Str) (a : Int) (b : Option Int) (hw : w ∈ evL) (a0 : 0 ≤ a) (a1 : a < 65536) (hb : ∀ c, b = some c → 0 ≤ c ∧ c < 65536) (hm : w = "move" → ∃ c, b = some c) : EvsOk [⟨w, a, b⟩] := fun e he => by
  rw [List.mem_singleton] at he
  subst he
  exact ⟨hw, a0, a1, hb, hm⟩
theorem evok2 {w : Str} {a : Int} (hw : w ∈ evL) (nm : w ≠ "move") (a0 : 0 ≤ a) (a1 : a < 65536) : EvsOk [⟨w, a, none⟩] := evok w a none hw a0 a1 (fun _ h => by cases h) (fun h => absurd h nm)
theorem evok3 {w : Str} {a b : Int} (hw : w ∈ evL) (a0 : 0 ≤ a) (a1 : a < 65536) (b0 : 0 ≤ b) (b1 : b < 65536) : EvsOk [⟨w, a, some b⟩] := evok w a (some b) hw a0 a1 (fun _ h => by cases h; exact ⟨b0, b1⟩) (fun _ => ⟨b, rfl⟩)
def sp_view : Sp := fun vs H Q _ => ∃ p q ns, vs = [.ref p] ∧ Pool H p q ns ∧ ∀ t xs es H', H t = none → H' t = some (.tup xs) → Evs H' xs es → EvsOk es → es ≠ [] → es.length ≤ 200 → Pool H' p q ns → Keep [p] H H' → Q (.ref t) H'
def sp_count : Sp := fun vs H Q _ => ∃ p q ns t xs es, vs = [.ref p, .ref t] ∧ Pool H p q ns ∧ H t = some (.tup xs) ∧ t ≠ p ∧ Evs H xs es ∧ EvsOk es ∧ es ≠ [] ∧ ∀ c H', Pool H' p q ns → Keep [p] H H' → Q (.int c) H'
def sp_results : Sp := fun vs H Q _ => ∃ p q ns m, vs = [.ref p, .int m] ∧ 0 ≤ m ∧ m ≤ 1000 ∧ Pool H p q ns ∧ ∀ l (rs : List Int) H', H l = none → H' l = some (.lst (rs.map V.int)) → rs.length ≤ m.toNat → Pool H' p q ns → Keep [p] H H' → Q (.ref l) H'
/-! a brain's cells -/
inductive RL (H : Hp) : List V → List Str → List Int → Prop
  | nil : RL H [] [] []
  | cons {p : Addr} {n : Str} {c : Int} {vs : List V} {ns : List Str} {cs : List Int} : H p = some (.tup [.str n, .int c]) → RL H vs ns cs → RL H (.ref p :: vs) (n :: ns) (c :: cs)
theorem RL.tk {H H' : Hp} (k : TK H H') {vs : List V} {ns : List Str} {cs : List Int} (h : RL H vs ns cs) : RL H' vs ns cs := by
  induction h with
  | nil => exact .nil
  | cons h _ ih => exact .cons (k _ _ h) ih
theorem RL.snoc {H : Hp} {vs : List V} {ns : List Str} {cs : List Int} {p : Addr} {n : Str} {c : Int} (h : RL H vs ns cs) (hp : H p = some (.tup [.str n, .int c])) : RL H (vs ++ [.ref p]) (ns ++ [n]) (cs ++ [c]) := by
  induction h with
  | nil => exact .cons hp .nil
  | cons h _ ih => exact .cons h ih
theorem RL.len {H : Hp} {vs : List V} {ns : List Str} {cs : List Int} (h : RL H vs ns cs) : vs.length = ns.length ∧ cs.length = ns.length := by
  induction h with
  | nil => exact ⟨rfl, rfl⟩
  | cons _ _ ih => exact ⟨by rw [List.length_cons, List.length_cons, ih.1], by rw [List.length_cons, List.length_cons, ih.2]⟩
theorem RL.get {H : Hp} {vs : List V} {ns : List Str} {cs : List Int} (h : RL H vs ns cs) : ∀ {i : Nat} {v : V}, vs[i]? = some v → ∃ p n c, v = .ref p ∧ ns[i]? = some n ∧ cs[i]? = some c ∧ H p = some (.tup [.str n, .int c]) := by
  induction h with
  | nil => intro i v h; simp at h
  | cons h _ ih =>
    intro i v hv
    cases i with
    | zero => simp at hv; subst hv; exact ⟨_, _, _, rfl, rfl, rfl, h⟩
    | succ i => simpa using ih (by simpa using hv)
structure Bd (K : PySem.W.Frag) (H : Hp) (ce bk : Addr) (an : V) (ns : List Str) (cs : List Int) (b : Bl) (e : Ex) : Prop where
  ce : ∃ xs, H ce = some (.tup xs) ∧ RL H xs ns cs
  bk : BV K H b bk
  an : EV K H an e
theorem Bd.tk {K : PySem.W.Frag} {H H' : Hp} {ce bk : Addr} {an : V} {ns : List Str} {cs : List Int} {b : Bl} {e : Ex} (h : Bd K H ce bk an ns cs b e) (k : TK H H') : Bd K H' ce bk an ns cs b e := by
  obtain ⟨xs, h1, h2⟩ := h.ce
  exact ⟨⟨xs, k _ _ h1, h2.tk k⟩, h.bk.tk k, h.an.tk k⟩
structure BdOk (ns : List Str) (b : Bl) (e : Ex) : Prop where
  nd : ns.Nodup
  nl : ns.length ≤ 8
  bo : b.Ok ns
  d : b.dep ≤ 8
  e : ExOk ns e
  sm : b.Sm
  ln : b.len ≤ 5
def sp_brain (K : PySem.W.Frag) : Sp := fun vs H Q _ => ∃ (p q : Addr) (ps : PoolT) (u : Int) (lp : Bool), vs = [.ref p, .int u, .bl lp] ∧ Pool H p q ps ∧ ∀ t ce bk an ns cs b e H', H t = none → H' t = some (.tup [.int u, .ref ce, .ref bk, an]) → Bd K H' ce bk an ns cs b e → BdOk ns b e → Pool H' p q ps → Keep [p] H H' → Q (.ref t) H'
section
variable {P : Program} {w : World} {K : PySem.W.Frag} {mg : Str → Option Value} {base : Heap} {C_Tape : Addr} {C_Thinker : Addr} {C_Brain : Addr} {C_Mind : Addr} {C_Frame : Addr} {C_Thinking : Addr} {C_Checker : Addr} {T_EVENTS : Addr} {T_SIGNS : Addr} {T_ROUND_NAMES : Addr} {T_BRAIN_NAMES : Addr} {T_EFFECTS : Addr}
theorem ok_count {f : Addr} {fd : FuncData} (D : C8.Def K mg "_law_count" s_law_count f fd) (b : Binds K fd ["pool", "view"] []) (T : Txt K mg C_Tape C_Thinker C_Brain C_Mind C_Frame C_Thinking C_Checker T_EVENTS T_SIGNS T_ROUND_NAMES T_BRAIN_NAMES T_EFFECTS) (c_law_draw : C8.Cal P w K mg base 1 "_law_draw" sp_law_draw []) : C8.Cal P w K mg base 2 "_law_count" sp_count [] := by
  refine cal0 D b .nil sc_law_count (fun vs H Q E h => ?_) (fun cdv A outer s H vs Q E hr h => ?_)
  · obtain ⟨p, q, ns, t, xs, es, rfl, _⟩ := h
    rfl
  · obtain ⟨p, q, ns, t, xs, es, rfl, hP, ht, ntp, hE, hok, hne, k⟩ := h
    refine ⟨_, (pss_cons (ps_set (i := 2) sc_law_count.nd rfl (by first | exact Or.inl rfl | exact Or.inr rfl) (pe_op op_add pe_int (pe_c c_law_draw hr (by first | exact Nat.le_refl _ | decide | omega) rfl (pa_cons (pv 0) (pa_cons pe_int pa_nil)))))
(pss_cons (ps_if (pt_cmpR op_eq (pe_ix ix_tup (pe_ix ix_tup (pv 1) (pe_un un_neg pe_int) (fun _ _ => rfl)) pe_int (fun _ _ => rfl)) pe_str (nomark _))
  (pss_one (ps_ret (pe_ix ix_tup (pe_ix ix_tup (pv 1) (pe_un un_neg pe_int) (fun _ _ => rfl)) pe_int (fun _ _ => rfl))))
  pss_nil)
(pss_one (ps_ret (pv 2))))), ?_⟩
    refine ⟨_, rfl, p, q, ns, 8, rfl, by decide, by decide, hP, fun r H1 _ _ P1 K1 => ⟨_, _, rfl, rfl, ?_⟩⟩
    have E1 := hE.tk (hP.tk K1)
    have ht1 := K1 _ _ ht (by simpa using ntp)
    have hlen := E1.len
    have hpos : 0 < xs.length := by rw [hlen]; exact List.length_pos_iff.mpr hne
    obtain ⟨a, e, hx, hg, ha⟩ := E1.get (i := xs.length - 1) (v := xs[xs.length - 1]'(by omega)) (List.getElem?_eq_getElem _)
    have hlast : atI xs (-1) = some (.ref a) := by
      have e1 : xs = xs.dropLast ++ [xs.getLast (by intro z; rw [z] at hpos; simp at hpos)] := (List.dropLast_concat_getLast _).symm
      rw [e1, atI_last, List.getLast_eq_getElem, hx]
    obtain ⟨hlt, hge⟩ := List.getElem?_eq_some_iff.mp hg
    have hee := hok e (hge ▸ List.getElem_mem hlt)
    have hs0 : (evD e)[0]? = some (.str e.w) := by unfold evD; split <;> rfl
    refine ⟨_, rfl, _, rfl, _, _, _, _, rfl, rfl, SqT.of ht1, hlast, _, _, _, _, rfl, rfl, SqT.of ha, atI_nat (j := 0) hs0, rfl, _, rfl, iteD (fun h => ?_) (fun h => ?_)⟩
    · obtain ⟨c, hc⟩ := hee.m (V.str.inj h)
      have hs2 : (evD e)[2]? = some (.int c) := by unfold evD; rw [hc]; rfl
      exact ⟨_, rfl, _, rfl, _, _, _, _, rfl, rfl, SqT.of ht1, hlast, _, _, _, _, rfl, rfl, SqT.of ha, atI_nat (j := 2) hs2, k c _ P1 K1⟩
    · exact ⟨_, rfl, k _ _ P1 K1⟩
end

/-! dicts that are filled name by name -/
def Fill (H : Hp) (d : Addr) (ys : List Str) (i : Nat) (f : Str → V) : Prop := ∃ kvs : List (Key × V), H d = some (.dK kvs) ∧ kvs.length = i ∧ ∀ x, valV kvs (.inr x) = if x ∈ ys.take i then some (f x) else none
theorem fill0 {H : Hp} {d : Addr} {ys : List Str} {f : Str → V} (h : H d = some (.dK [])) : Fill H d ys 0 f := ⟨[], h, rfl, fun x => by simp [valV_nil]⟩
theorem Fill.keep {H H' : Hp} {W : List Addr} {d : Addr} {ys : List Str} {i : Nat} {f : Str → V} (h : Fill H d ys i f) (k : Keep W H H') (w : d ∉ W) : Fill H' d ys i f := by
  obtain ⟨kvs, e, l, v⟩ := h
  exact ⟨kvs, k _ _ e w, l, v⟩
theorem nodup_take {ys : List Str} (h : ys.Nodup) {i : Nat} {z : Str} (e : ys.take (i + 1) = ys.take i ++ [z]) : z ∉ ys.take i := by
  have h2 : (ys.take (i + 1)).Nodup := h.sublist (List.take_sublist _ _)
  rw [e, List.nodup_append] at h2
  exact fun q => h2.2.2 z q z (by simp) rfl
theorem Fill.step {H : Hp} {d : Addr} {ys : List Str} {i : Nat} {f : Str → V} (h : Fill H d ys i f) (nd : ys.Nodup) {z : Str} (e : ys.take (i + 1) = ys.take i ++ [z]) : ∃ kvs : List (Key × V), H d = some (.dK kvs) ∧ kvs.length = i ∧
    ∀ (H' : Hp), H' d = some (.dK (putK kvs (.inr z) (f z))) → Fill H' d ys (i + 1) f := by
  obtain ⟨kvs, hd, hl, hv⟩ := h
  have hnt := nodup_take nd e
  refine ⟨kvs, hd, hl, fun H' h' => ⟨_, h', ?_, fun x => ?_⟩⟩
  · rw [putK_new _ (by rw [hv z, if_neg hnt]), List.length_append, hl]; rfl
  · rw [valV_put]
    by_cases q : x = z
    · subst q
      rw [if_pos rfl, if_pos (by rw [e]; simp)]
    · rw [if_neg (fun w => q (Sum.inr.inj w)), hv x, e]
      by_cases e2 : x ∈ ys.take i
      · rw [if_pos e2, if_pos (List.mem_append_left _ e2)]
      · rw [if_neg e2, if_neg (by rw [List.mem_append, List.mem_singleton]; rintro (w | w) <;> contradiction)]
theorem Fill.full {H : Hp} {d : Addr} {ys : List Str} {n : Nat} {f : Str → V} (h : Fill H d ys n f) (e : n = ys.length) : Full H d ys f := by
  subst e
  obtain ⟨kvs, a, b, c⟩ := h
  exact ⟨kvs, a, b, fun x => by rw [c x, List.take_length]⟩
theorem Full.get {H : Hp} {d : Addr} {ys : List Str} {f : Str → V} (h : Full H d ys f) {x : Str} (hx : x ∈ ys) : DGet H d (.str x) (some (f x)) := by
  obtain ⟨kvs, e, _, v⟩ := h
  have := v x
  rw [if_pos hx] at this
  rw [← this]
  exact DGet.k (k := .inr x) e
def tbOf : List Str → List Int → Str → Int
  | n :: ns, c :: cs, y => if y = n then c else tbOf ns cs y
  | _, _, _ => 0
theorem tbOf_at : ∀ {ns : List Str} {cs : List Int}, ns.Nodup → ∀ {i : Nat} {n : Str} {c : Int}, ns[i]? = some n → cs[i]? = some c → tbOf ns cs n = c
  | [], _, _, i, n, c, h, _ => by simp at h
  | _ :: _, [], _, i, n, c, _, h => by simp at h
  | a :: ns, b :: cs, nd, 0, n, c, h1, h2 => by
    simp at h1 h2
    subst h1 h2
    show (if a = a then b else _) = b
    rw [if_pos rfl]
  | a :: ns, b :: cs, nd, i + 1, n, c, h1, h2 => by
    have hm : n ∈ ns := List.mem_of_getElem? (by simpa using h1)
    have hne : n ≠ a := fun z => (List.nodup_cons.mp nd).1 (z ▸ hm)
    show (if n = a then b else tbOf ns cs n) = c
    rw [if_neg hne]
    exact tbOf_at (List.nodup_cons.mp nd).2 (by simpa using h1) (by simpa using h2)
def CsOk (cs : List Int) : Prop := ∀ c ∈ cs, 0 ≤ c ∧ c < 65536
theorem tbOf_ok : ∀ {ns : List Str} {cs : List Int}, CsOk cs → ∀ y, 0 ≤ tbOf ns cs y ∧ tbOf ns cs y < 65536
  | [], _, _, y => by unfold tbOf; exact ⟨by decide, by decide⟩
  | _ :: _, [], _, y => by unfold tbOf; exact ⟨by decide, by decide⟩
  | a :: ns, b :: cs, h, y => by
    unfold tbOf
    split
    · exact h b (List.mem_cons_self ..)
    · exact tbOf_ok (fun c hc => h c (List.mem_cons_of_mem _ hc)) y
/-! brains, thinkers -/
def BrA (C : Addr) (H : Hp) (B : Addr) (u : Int) (ce bk : Addr) (an : V) : Prop := ∃ dx, H B = some (.ins C dx [("units", .int u), ("cells", .ref ce), ("block", .ref bk), ("answer", an)])
def sp_brinit (K : PySem.W.Frag) (C : Addr) : Sp := fun vs H Q _ => ∃ (x dx : Addr) (u : Int) (ce bk : Addr) (an : V) (xs ys : List V), vs = [.ref x, .int u, .ref ce, .ref bk, an] ∧ H x = some (.ins C dx []) ∧ H ce = some (.tup xs) ∧ At K H bk ys ∧ ∀ H', Keep [x] H H' → BrA C H' x u ce bk an → Q .non H'
def sp_thinit (K : PySem.W.Frag) (C CB : Addr) : Sp := fun vs H Q _ => ∃ (x dx B : Addr) (u : Int) (ce bk ca : Addr) (an st tp : V) (xs : List V) (ns : List Str) (ks cs : List Int), vs = [.ref x, .ref B, .ref ca, st, tp] ∧ H x = some (.ins C dx []) ∧ BrA CB H B u ce bk an ∧ B ≠ x ∧
  H ce = some (.tup xs) ∧ RL H xs ns ks ∧ H ca = some (.tup (cs.map V.int)) ∧ cs.length = ns.length ∧ ns.Nodup ∧ ns.length ≤ 1000 ∧
  ∀ d H', H d = none → Keep [x] H H' → H' x = some (.ins C dx [("table", .ref d), ("left", .int u), ("seen", st), ("tape", tp)]) → Full H' d ns (fun y => .int (tbOf ns cs y)) → Q .non H'
section
variable {P : Program} {w : World} {K : PySem.W.Frag} {mg : Str → Option Value} {base : Heap} {C_Tape : Addr} {C_Thinker : Addr} {C_Brain : Addr} {C_Mind : Addr} {C_Frame : Addr} {C_Thinking : Addr} {C_Checker : Addr} {T_EVENTS : Addr} {T_SIGNS : Addr} {T_ROUND_NAMES : Addr} {T_BRAIN_NAMES : Addr} {T_EFFECTS : Addr}
theorem ok_brinit {f : Addr} {fd : FuncData} (M : Mk K C_Brain f) (F : C8.Fun K "__init__" "Brain.__init__" s_Brain___init f fd) (b : Binds K fd ["self", "units", "cells", "block", "answer"] []) (T : Txt K mg C_Tape C_Thinker C_Brain C_Mind C_Frame C_Thinking C_Checker T_EVENTS T_SIGNS T_ROUND_NAMES T_BRAIN_NAMES T_EFFECTS) : C8.Mak P w K mg base 1 "Brain" C_Brain (sp_brinit K C_Brain) [] := by
  refine mak0 M T.m_Brain F b .nil sc_Brain___init (fun vs H Q E h => ?_) (fun cdv A outer s H vs Q E hr h => ?_)
  · obtain ⟨x, dx, u, ce, bk, an, xs, ys, rfl, _⟩ := h
    rfl
  · obtain ⟨x, dx, u, ce, bk, an, xs, ys, rfl, hx, hce, hbk, k⟩ := h
    refine ⟨_, (pss_cons (ps_fld (pv 0) (pv 1) rfl)
(pss_cons (ps_fld (pv 0) (pe_callTy call_tuple_of (by rfl) T.n_tuple bo_tuple (pa_cons (pv 2) pa_nil)) rfl)
(pss_cons (ps_fld (pv 0) (pe_callTy call_tuple_of (by rfl) T.n_tuple bo_tuple (pa_cons (pv 3) pa_nil)) rfl)
(pss_one (ps_fld (pv 0) (pv 4) rfl))))), ?_⟩
    have mx : x ∈ [x] := List.mem_singleton.mpr rfl
    have tku : ∀ {H1 : Hp} {fs gs : List (Str × V)}, H1 x = some (.ins C_Brain dx fs) → TK H1 (upd H1 x (.ins C_Brain dx gs)) := fun h b zs q => by rw [upd_ne (ne_of q h (by intro z; cases z))]; exact q
    refine ⟨_, rfl, _, rfl, x, C_Brain, dx, [], rfl, hx, T.cl_Brain, T.a_Brain_units, by show 0 < 1000; decide, ?_⟩
    have t1 := tku (gs := [("units", V.int u)]) hx
    refine ⟨_, rfl, _, _, rfl, .inr ⟨(SqT.of (t1 _ _ hce)), _, rfl, x, C_Brain, dx, _, rfl, upd_same, T.cl_Brain, T.a_Brain_cells, by show 1 < 1000; decide, ?_⟩⟩
    have t2 : TK H (upd (upd H x (.ins C_Brain dx [("units", .int u)])) x (.ins C_Brain dx [("units", .int u), ("cells", .ref ce)])) := t1.trans (tku upd_same)
    refine ⟨_, rfl, _, _, rfl, .inr ⟨(hbk.tk t2).sq, _, rfl, x, C_Brain, dx, _, rfl, upd_same, T.cl_Brain, T.a_Brain_block, by show 2 < 1000; decide, ?_⟩⟩
    refine ⟨_, rfl, _, rfl, x, C_Brain, dx, _, rfl, upd_same, T.cl_Brain, T.a_Brain_answer, by show 3 < 1000; decide, ?_⟩
    exact k _ ((((Keep.at_ mx).then_at mx).then_at mx).then_at mx) ⟨dx, upd_same⟩
theorem ok_thinit {f : Addr} {fd : FuncData} (M : Mk K C_Thinker f) (F : C8.Fun K "__init__" "Thinker.__init__" s_Thinker___init f fd) (b : Binds K fd ["self", "brain", "cells", "seen", "tape"] []) (T : Txt K mg C_Tape C_Thinker C_Brain C_Mind C_Frame C_Thinking C_Checker T_EVENTS T_SIGNS T_ROUND_NAMES T_BRAIN_NAMES T_EFFECTS) : C8.Mak P w K mg base 1 "Thinker" C_Thinker (sp_thinit K C_Thinker C_Brain) [] := by
  refine mak0 M T.m_Thinker F b .nil sc_Thinker___init (fun vs H Q E h => ?_) (fun cdv A outer s H vs Q E hr h => ?_)
  · obtain ⟨x, dx, B, u, ce, bk, ca, an, st, tp, xs, ns, ks, cs, rfl, _⟩ := h
    rfl
  · obtain ⟨x, dx, B, u, ce, bk, ca, an, st, tp, xs, ns, ks, cs, rfl, hx, ⟨dB, oB⟩, nBx, hce, hR, hca, hcl, nd, hnl, k⟩ := h
    have hu := hu_of hr
    refine ⟨_, (pss_cons (ps_fld (pv 0) pe_dnewK rfl)
(pss_cons (ps_for PassesOwn.never rfl (RZ.pi_zipA (by rfl) T.n_zip (pa_cons (pe_fld (pv 1) rfl) (pa_cons (pv 2) pa_nil))) (pg_tup (by rfl) (pgs_cons (pg_name (i := 5) sc_Thinker___init.nd rfl (by first | exact Or.inl rfl | exact Or.inr rfl)) (pgs_cons (pg_name (i := 6) sc_Thinker___init.nd rfl (by first | exact Or.inl rfl | exact Or.inr rfl)) pgs_nil)))
  (pss_one (ps_dput hu (pe_fld (pv 0) rfl) (pe_ix ix_tup (pv 5) pe_int (fun _ _ => rfl)) (pv 6) (by rfl))))
(pss_cons (ps_fld (pv 0) (pe_fld (pv 1) rfl) rfl)
(pss_cons (ps_fld (pv 0) (pv 3) rfl)
(pss_one (ps_fld (pv 0) (pv 4) rfl)))))), ?_⟩
    have mx : x ∈ [x] := List.mem_singleton.mpr rfl
    refine fun d nd0 => ⟨_, rfl, x, C_Thinker, dx, [], rfl, by rw [upd_ne (ne_of_none hx nd0)]; exact hx, T.cl_Thinker, T.a_Thinker_table, by show 0 < 1000; decide, ?_⟩
    have exd : x ≠ d := ne_of_none hx nd0
    have k0 : Keep [x] H (upd (upd H d (.dK [])) x (.ins C_Thinker dx [("table", .ref d)])) := (Keep.new nd0).then_at mx
    have ncx : ce ≠ x := ne_of hce hx (by intro z; cases z)
    have nax : ca ≠ x := ne_of hca hx (by intro z; cases z)
    have hrl := hR.len
    have cok : ∀ {H1 : Hp}, Keep [x, d] H H1 → SqT K H1 ce xs ∧ SqT K H1 ca (cs.map V.int) := fun k1 =>
      ⟨SqT.of (k1 _ _ hce (by simp [ncx, ne_of_none hce nd0])), SqT.of (k1 _ _ hca (by simp [nax, ne_of_none hca nd0]))⟩
    have k0' : Keep [x, d] H (upd (upd H d (.dK [])) x (.ins C_Thinker dx [("table", .ref d)])) := k0.mono (by simp)
    have oB1 := k0 _ _ oB (by simpa using nBx)
    refine ⟨_, rfl, B, C_Brain, dB, _, _, rfl, oB1, T.cl_Brain, T.a_Brain_cells, rfl, _, rfl, ce, ca, xs, cs.map V.int, rfl, .inr ⟨(cok k0').1, (cok k0').2, ?_⟩⟩
    refine RZ.for_zipT (K := K) (by rw [List.length_map]; omega) (fun i σ H' => (∃ o5 o6 : Option V, σ = [some (.ref x), some (.ref B), some (.ref ca), some st, some tp, o5, o6]) ∧ Fill H' d ns i (fun y => .int (tbOf ns cs y)) ∧ Keep [x, d] H H' ∧ H' x = some (.ins C_Thinker dx [("table", .ref d)]))
      ⟨⟨none, none, rfl⟩, fill0 (by rw [upd_ne exd.symm]; exact upd_same), k0', upd_same⟩ (fun i σ H' ⟨_, _, k1, _⟩ => cok k1) ?_ ?_
    · rintro i v z Tt σ H1 hv hz ⟨⟨o5, o6, rfl⟩, hF, K1, ox⟩ nT
      obtain ⟨p, n, c0, rfl, hn, _, hp⟩ := hR.get hv
      obtain ⟨c, hc, rfl⟩ := ints_get hz
      obtain ⟨hlt, he⟩ := List.getElem?_eq_some_iff.mp hn
      have kT : Keep [] H1 (upd H1 Tt (.tup [.ref p, .int c])) := Keep.new nT
      have hp1 := kT _ _ (K1 _ _ hp (by simp [ne_of hp hx (by intro z; cases z), ne_of_none hp nd0])) (by simp)
      have et : ns.take (i + 1) = ns.take i ++ [n] := by rw [List.take_succ_eq_append_getElem hlt, he]
      obtain ⟨kvs, g1, g2, g3⟩ := (hF.keep kT (by simp)).step nd et
      have hval : tbOf ns cs n = c := tbOf_at nd hn hc
      have ox1 := kT _ _ ox (by simp)
      refine ⟨Tt, _, rfl, SqT.of upd_same, rfl, _, _, rfl, _, _, rfl, rfl, ?_⟩
      refine ⟨_, rfl, _, rfl, x, C_Thinker, dx, _, _, rfl, ox1, T.cl_Thinker, T.a_Thinker_table, rfl, _, rfl, _, _, _, _, rfl, rfl, SqT.of hp1, rfl, d, _, rfl, DPut.k (k := .inr n) g1 (smallL (by rw [g2]; omega)), ?_⟩
      refine ⟨⟨_, _, rfl⟩, g3 _ (by rw [hval]; exact upd_same), ((K1.trans (kT.mono (by simp))).then_at (by simp)), by rw [upd_ne exd]; exact ox1⟩
    · rintro σ H1 ⟨⟨o5, o6, rfl⟩, hF, K1, ox⟩
      have hFull := hF.full hrl.1
      have oB2 := K1 _ _ oB (by simp [nBx, ne_of_none oB nd0])
      refine ⟨_, rfl, B, C_Brain, dB, _, _, rfl, oB2, T.cl_Brain, T.a_Brain_units, rfl, _, rfl, x, C_Thinker, dx, _, rfl, ox, T.cl_Thinker, T.a_Thinker_left, by show 1 < 1000; decide, ?_⟩
      refine ⟨_, rfl, _, rfl, x, C_Thinker, dx, _, rfl, upd_same, T.cl_Thinker, T.a_Thinker_seen, by show 2 < 1000; decide, ?_⟩
      refine ⟨_, rfl, _, rfl, x, C_Thinker, dx, _, rfl, upd_same, T.cl_Thinker, T.a_Thinker_tape, by show 3 < 1000; decide, ?_⟩
      have kk : Keep [x, d] H _ := ((K1.then_at (o := .ins C_Thinker dx [("table", .ref d), ("left", .int u)]) (by simp : x ∈ [x, d])).then_at (o := .ins C_Thinker dx [("table", .ref d), ("left", .int u), ("seen", st)]) (by simp : x ∈ [x, d])).then_at (o := .ins C_Thinker dx [("table", .ref d), ("left", .int u), ("seen", st), ("tape", tp)]) (by simp : x ∈ [x, d])
      refine k d _ nd0 (fun a o h w => kk a o h (by simp at w; simp [w, ne_of_none h nd0])) upd_same ?_
      obtain ⟨kvs, a, b, c⟩ := hFull
      exact ⟨kvs, by rw [upd_ne exd.symm, upd_ne exd.symm, upd_ne exd.symm]; exact a, b, c⟩
end

def thk (ns : List Str) (cs : List Int) (b : Bl) (e : Ex) (count : Int) (seen rs : List Int) (u : Int) (tk : List (Int × Int)) : Int × List Int × List (Int × Int) :=
  if (runB seen rs b ⟨u, tbOf ns cs, tk⟩).1 = false then (0, cs, (runB seen rs b ⟨u, tbOf ns cs, tk⟩).2.tk)
  else (if (runB seen rs b ⟨u, tbOf ns cs, tk⟩).2.ev seen e ≥ count then 0 else (runB seen rs b ⟨u, tbOf ns cs, tk⟩).2.ev seen e, ns.map (runB seen rs b ⟨u, tbOf ns cs, tk⟩).2.tb, (runB seen rs b ⟨u, tbOf ns cs, tk⟩).2.tk)
/-- what both thinkings are told -/
structure ThIn (K : PySem.W.Frag) (H : Hp) (ce bk ca vw : Addr) (an : V) (ns : List Str) (ks cs : List Int) (b : Bl) (e : Ex) (xs : List V) (es : List Ev) (u : Int) : Prop where
  bd : Bd K H ce bk an ns ks b e
  bo : BdOk ns b e
  u0 : 0 ≤ u
  u1 : u ≤ 65535
  co : CsOk cs
  cl : cs.length = ns.length
  ca : H ca = some (.tup (cs.map V.int))
  vw : H vw = some (.tup xs)
  ev : Evs H xs es
  eo : EvsOk es
  el : es.length ≤ 10000
theorem ThIn.tk {K : PySem.W.Frag} {H H' : Hp} {ce bk ca vw : Addr} {an : V} {ns : List Str} {ks cs : List Int} {b : Bl} {e : Ex} {xs : List V} {es : List Ev} {u : Int} (h : ThIn K H ce bk ca vw an ns ks cs b e xs es u) (k : TK H H') : ThIn K H' ce bk ca vw an ns ks cs b e xs es u :=
  ⟨h.bd.tk k, h.bo, h.u0, h.u1, h.co, h.cl, k _ _ h.ca, k _ _ h.vw, h.ev.tk k, h.eo, h.el⟩
theorem ThIn.mok {K : PySem.W.Frag} {H : Hp} {ce bk ca vw : Addr} {an : V} {ns : List Str} {ks cs : List Int} {b : Bl} {e : Ex} {xs : List V} {es : List Ev} {u : Int} (h : ThIn K H ce bk ca vw an ns ks cs b e xs es u) (tk : List (Int × Int)) : MOk ns ⟨u, tbOf ns cs, tk⟩ := ⟨h.u0, fun y _ => tbOf_ok h.co y⟩
theorem ThIn.sl {K : PySem.W.Frag} {H : Hp} {ce bk ca vw : Addr} {an : V} {ns : List Str} {ks cs : List Int} {b : Bl} {e : Ex} {xs : List V} {es : List Ev} {u : Int} (h : ThIn K H ce bk ca vw an ns ks cs b e xs es u) : (nums es).length ≤ 60000 := by
  rw [nums_len]; have := h.el; omega
def sp_think (K : PySem.W.Frag) (CB CT : Addr) : Sp := fun vs H Q _ => ∃ B ce bk ca vw tp rx tx an ns ks cs b e xs es u count rs tk, vs = [.ref B, .ref ca, .ref vw, .int count, .ref tp] ∧ BrA CB H B u ce bk an ∧ ThIn K H ce bk ca vw an ns ks cs b e xs es u ∧ TapeAt CT H tp rx tx rs tk ∧ tk.length ≤ 1000 ∧
  ∀ t ct H', H t = none → H' t = some (.tup [.int (thk ns cs b e count (nums es) rs u tk).1, .ref ct]) → H' ct = some (.tup ((thk ns cs b e count (nums es) rs u tk).2.1.map V.int)) → TapeAt CT H' tp rx tx rs (thk ns cs b e count (nums es) rs u tk).2.2 → Keep [tx] H H' → Q (.ref t) H'
section
variable {P : Program} {w : World} {K : PySem.W.Frag} {mg : Str → Option Value} {base : Heap} {C_Tape : Addr} {C_Thinker : Addr} {C_Brain : Addr} {C_Mind : Addr} {C_Frame : Addr} {C_Thinking : Addr} {C_Checker : Addr} {T_EVENTS : Addr} {T_SIGNS : Addr} {T_ROUND_NAMES : Addr} {T_BRAIN_NAMES : Addr} {T_EFFECTS : Addr}
theorem ok_think {f : Addr} {fd : FuncData} (D : C8.Def K mg "think" s_think f fd) (b : Binds K fd ["brain", "cells", "view", "count", "tape"] []) (T : Txt K mg C_Tape C_Thinker C_Brain C_Mind C_Frame C_Thinking C_Checker T_EVENTS T_SIGNS T_ROUND_NAMES T_BRAIN_NAMES T_EFFECTS) (c_view_numbers : C8.Cal P w K mg base 1 "view_numbers" sp_views []) (c_Thinker : C8.Mak P w K mg base 1 "Thinker" C_Thinker (sp_thinit K C_Thinker C_Brain) [])
    (c_Thinker_run : C8.Met P w K mg base 41 C_Thinker "run" (sp_trun K C_Thinker C_Tape 9) []) (c_Thinker_value : C8.Met P w K mg base 14 C_Thinker "value" (sp_tval K C_Thinker C_Tape) []) : C8.Cal P w K mg base 42 "think" (sp_think K C_Brain C_Tape) [] := by
  refine cal0 D b .nil sc_think (fun vs H Q E h => ?_) (fun cdv A outer s H vs Q E hr h => ?_)
  · obtain ⟨B, ce, bk, ca, vw, tp, rx, tx, an, ns, ks, cs, b, e, xs, es, u, count, rs, tk, rfl, _⟩ := h
    rfl
  · obtain ⟨B, ce, bk, ca, vw, tp, rx, tx, an, ns, ks, cs, b, e, xs, es, u, count, rs, tk, rfl, ⟨dB, oB⟩, hI, hTp, htk, k⟩ := h
    have hu := hu_of hr
    refine ⟨_, (pss_cons (ps_set (i := 5) sc_think.nd rfl (by first | exact Or.inl rfl | exact Or.inr rfl) (pe_mk c_Thinker hr (by first | exact Nat.le_refl _ | decide | omega) rfl (pa_cons (pv 0) (pa_cons (pv 1) (pa_cons (pe_c c_view_numbers hr (by first | exact Nat.le_refl _ | decide | omega) rfl (pa_cons (pv 2) pa_nil)) (pa_cons (pv 4) pa_nil))))))
(pss_cons (ps_if (pt_not (pt_truth (pe_mt c_Thinker_run hr (by first | exact Nat.le_refl _ | decide | omega) (pv 5) (pa_cons (pe_fld (pv 0) rfl) pa_nil)) (by intro _; rfl)))
  (pss_one (ps_ret (pe_tup (pa_cons pe_int (pa_cons (pe_callTy call_tuple_of (by rfl) T.n_tuple bo_tuple (pa_cons (pv 1) pa_nil)) pa_nil)))))
  pss_nil)
(pss_cons (ps_set (i := 6) sc_think.nd rfl (by first | exact Or.inl rfl | exact Or.inr rfl) (pe_mt c_Thinker_value hr (by first | exact Nat.le_refl _ | decide | omega) (pv 5) (pa_cons (pe_fld (pv 0) rfl) pa_nil)))
(pss_cons (ps_if (pt_cmpR op_ge (pv 6) (pv 3) (nomark _))
  (pss_one (ps_set (i := 6) sc_think.nd rfl (by first | exact Or.inl rfl | exact Or.inr rfl) pe_int))
  pss_nil)
(pss_one (ps_ret (pe_tup (pa_cons (pv 6) (pa_cons (pe_callTy call_tuple_of (by rfl) T.n_tuple bo_tuple (pa_cons (pe_lc (own := [("row", 7)]) (g := gName 7) (tt := tYes) rfl sc_think.nd (pi_tup (pe_fld (pv 0) rfl)) (blkOk_by (N := ["brain", "cells", "view", "count", "tape", "thinker", "answer", "row"]) (sc := fnScope s_think) (by decide +kernel)) (fun _ _ _ _ _ => pg_name (i := 7) sc_think.nd rfl (Or.inl rfl)) (fun _ _ _ _ _ => pts_nil) (fun _ _ _ _ _ => (pe_dget hu (pe_fldK (K := K) (pv 5) rfl) (pe_ix (ix_tupK (K := K)) (pv 7) pe_int (fun _ _ => rfl)) (fun _ _ => rfl)))) pa_nil)) pa_nil))))))))), ?_⟩
    refine ⟨_, rfl, _, rfl, _, rfl, vw, xs, es, rfl, hI.vw, hI.ev, hI.eo, hI.el, fun st H1 nst hst K1 => ⟨_, rfl, fun x dx nx nd ne => ?_⟩⟩
    have km : Keep [] H1 (upd (upd H1 dx (.own x)) x (.ins C_Thinker dx [])) := Keep.made nx nd
    have I1 := (hI.tk K1.tk).tk km.tk
    obtain ⟨ys, hce, hR⟩ := I1.bd.ce
    have oB1 := km _ _ (K1 _ _ oB (by simp)) (by simp)
    have nBx : B ≠ x := ne_of_none (K1 _ _ oB (by simp)) nx
    refine ⟨x, dx, B, u, ce, bk, ca, an, .ref st, .ref tp, ys, ns, ks, cs, rfl, upd_same, ⟨dB, oB1⟩, nBx, hce, hR, I1.ca, I1.cl, I1.bo.nd, by have := I1.bo.nl; omega, fun d H2 ndd K2 ox2 hF2 => ⟨rfl, ?_⟩⟩
    have nx0 : H x = none := K1.free nx
    have T1 := hTp.keep K1 K1.tk (by simp) (by simp) (by simp)
    have Tm := T1.keep km km.tk (by simp) (by simp) (by simp)
    obtain ⟨dt, ot⟩ := T1.o
    obtain ⟨zs, t1, t2⟩ := T1.t
    have ntp : tp ≠ x := ne_of_none ot nx
    have nrx : rx ≠ x := ne_of_none T1.r nx
    have ntx : tx ≠ x := ne_of_none t1 nx
    have tk2 : TK (upd (upd H1 dx (.own x)) x (.ins C_Thinker dx [])) H2 := fun a ws q => K2 _ _ q (by
      have : a ≠ x := ne_of q upd_same (by intro z; cases z)
      simpa using this)
    have I2 := I1.tk tk2
    have T2 := Tm.keep K2 tk2 (by simpa using ntp) (by simpa using nrx) (by simpa using ntx)
    have oB2 := K2 _ _ oB1 (by simpa using nBx)
    have hst2 := tk2 _ _ (km.tk _ _ hst)
    have A2 : ThAt C_Thinker C_Tape H2 x d st tp rx tx ns (nums es) rs ⟨u, tbOf ns cs, tk⟩ := ⟨⟨dx, ox2⟩, hF2, hst2, T2, ntp.symm⟩
    have C2 : TC C_Thinker C_Tape H2 x d st tp rx tx ns (nums es) rs ⟨u, tbOf ns cs, tk⟩ := ⟨A2, I2.mok tk, nums_ok I2.eo, I2.sl, by (have := I2.u1; show u.toNat + tk.length ≤ 90000; omega), by have := I2.bo.nl; omega⟩
    have mv := runB_mv (rs := rs) C2.sk b I2.bo.bo _ C2.ok
    have K02 : Keep [x] H H2 := (K1.trans km).mono (by simp) |>.trans K2
    have nd0 : H d = none := (K1.trans km).free ndd
    have e0 : thk ns cs b e count (nums es) rs u tk = if (runB (nums es) rs b ⟨u, tbOf ns cs, tk⟩).1 = false then (0, cs, (runB (nums es) rs b ⟨u, tbOf ns cs, tk⟩).2.tk) else (if (runB (nums es) rs b ⟨u, tbOf ns cs, tk⟩).2.ev (nums es) e ≥ count then 0 else (runB (nums es) rs b ⟨u, tbOf ns cs, tk⟩).2.ev (nums es) e, ns.map (runB (nums es) rs b ⟨u, tbOf ns cs, tk⟩).2.tb, (runB (nums es) rs b ⟨u, tbOf ns cs, tk⟩).2.tk) := rfl
    refine ⟨_, rfl, x, dx, _, rfl, ox2, rfl, _, rfl, B, C_Brain, dB, _, _, rfl, oB2, T.cl_Brain, T.a_Brain_block, rfl, x, d, st, tp, rx, tx, ns, nums es, rs, _, bk, b, rfl, C2, I2.bd.bk, I2.bo.bo, by have := I2.bo.d; omega, fun H3 A3 K3 => ?_⟩
    have tk3 := A2.tk3 K3
    have I3 := I2.tk tk3
    have kx : Keep [tx] H H3 := fun a o h w => K3 _ _ (K02 _ _ h (by have := ne_of_none h nx0; simpa using this)) (by
      have h1 := ne_of_none h nx0
      have h2 := ne_of_none h nd0
      have h3 : a ≠ tx := by simpa using w
      simp [h1, h2, h3])
    have oB3 := kx _ _ oB (by
      have := ne_of (K1 _ _ oB (by simp)) t1 (by intro z; cases z)
      simpa using this)
    obtain ⟨dx3, ox3⟩ := A3.o
    have C3 := C2.mv A3 mv
    cases hb : (runB (nums es) rs b ⟨u, tbOf ns cs, tk⟩).1 with
    | false =>
      rw [if_pos hb] at e0
      rw [e0] at k
      refine ⟨_, rfl, iteT ?_⟩
      refine ⟨_, rfl, _, _, rfl, .inr ⟨SqT.of I3.ca, And.intro (by show 2 ≤ sizeLine; decide) <| fun t nt => ?_⟩⟩
      have kt : Keep [] H3 (upd H3 t (.tup [.int 0, .ref ca])) := Keep.new nt
      have hyt : ∃ o, H3 tx = some o := by obtain ⟨ws, h, _⟩ := A3.ta.t; exact ⟨_, h⟩
      obtain ⟨oo, hoo⟩ := hyt
      exact k t ca _ (kx.free1 hoo nt) upd_same (kt _ _ I3.ca (by simp)) (A3.ta.keep kt kt.tk (by simp) (by simp) (by simp)) (kx.trans (kt.mono (by simp)))
    | true =>
      rw [if_neg (by rw [hb]; decide)] at e0
      rw [e0] at k
      generalize (runB (nums es) rs b ⟨u, tbOf ns cs, tk⟩).2 = s3 at *
      refine ⟨_, rfl, iteF ?_⟩
      refine ⟨_, rfl, x, dx3, _, rfl, ox3, rfl, _, rfl, B, C_Brain, dB, _, _, rfl, oB3, T.cl_Brain, T.a_Brain_answer, rfl, x, d, st, tp, rx, tx, ns, nums es, rs, s3, an, e, rfl, A3, C3.ok, C3.sk, C3.sl, I3.bd.an, I3.bo.e, fun H4 K4 => ?_⟩
      have A4 := A3.keep0 K4
      have I4 := I3.tk K4.tk
      have k4 : Keep [tx] H H4 := kx.trans (K4.mono (by simp))
      have oB4 := K4 _ _ oB3 (by simp)
      obtain ⟨dx4, ox4⟩ := A4.o
      obtain ⟨ys4, hce4, hR4⟩ := I4.bd.ce
      obtain ⟨oo, hoo⟩ : ∃ o, H4 tx = some o := by obtain ⟨ws, h, _⟩ := A4.ta.t; exact ⟨_, h⟩
      -- the end, whatever the answer is
      have fin : ∀ (z : Int), z = (if s3.ev (nums es) e ≥ count then 0 else s3.ev (nums es) e) → ∀ {L : Addr} {H5 : Hp}, H4 L = none → Keep [] H4 H5 → H5 L = some (.lst (ns.map fun y => V.int (s3.tb y))) → ∃ p ys, [V.ref L] = [V.ref p] ∧ ((SqL K H5 p ys ∧ ∀ l, H5 l = none → 2 ≤ sizeLine ∧ ∀ t, upd H5 l (.tup ys) t = none → Q (.ref t) (upd (upd H5 l (.tup ys)) t (.tup [.int z, .ref l]))) ∨ (SqT K H5 p ys ∧ 2 ≤ sizeLine ∧ ∀ t, H5 t = none → Q (.ref t) (upd H5 t (.tup [.int z, .ref p])))) := by
        intro z hz L H5 nL K5 hL5
        refine ⟨_, _, rfl, .inl ⟨SqL.of hL5, fun l nl => ⟨by decide, fun t nt => ?_⟩⟩⟩
        have k6 : Keep [] H5 (upd H5 l (.tup (ns.map fun y => V.int (s3.tb y)))) := Keep.new nl
        have k7 := k6.then_new (o := .tup [.int z, .ref l]) nt
        have k47 := K5.trans k7
        subst hz
        refine k t l _ (k4.free1 hoo ((K5.trans k6).free nt)) upd_same ?_ (A4.ta.keep k47 k47.tk (by simp) (by simp) (by simp)) (k4.trans (k47.mono (by simp)))
        have : upd (upd H5 l (.tup (ns.map fun y => V.int (s3.tb y)))) t (.tup [.int (if s3.ev (nums es) e ≥ count then 0 else s3.ev (nums es) e), .ref l]) l = some (.tup (ns.map fun y => V.int (s3.tb y))) := Keep.new (W := []) nt _ _ upd_same (by simp)
        rw [this, List.map_map]
        rfl
      refine ⟨_, rfl, _, rfl, _, _, rfl, rfl, _, rfl, iteD (fun h => ?_) (fun h => ?_)⟩
      · have h' : s3.ev (nums es) e ≥ count := h
        refine ⟨_, rfl, _, rfl, B, C_Brain, dB, _, _, rfl, oB4, T.cl_Brain, T.a_Brain_cells, rfl, ce, rfl, ⟨_, SqT.of hce4⟩, fun L hL => ?_⟩
        refine lc_tup (K := K) (a := ce) (xs := ys4) (fun i H5 => H5 L = some (.lst ((ns.take i).map fun y => V.int (s3.tb y))) ∧ Keep [] H4 H5) ⟨upd_same, Keep.new hL⟩ (fun i H5 _ ⟨_, k5⟩ => SqT.of (k5 _ _ hce4 (by simp))) ?_ ?_
        · rintro i v H5 hv ⟨hL5, K5⟩
          obtain ⟨pp, n, c, rfl, hn, _, hp⟩ := hR4.get hv
          obtain ⟨hlt, hget⟩ := List.getElem?_eq_some_iff.mp hn
          have hmem : n ∈ ns := List.mem_of_getElem? hn
          refine ⟨rfl, yes_then ⟨_, rfl, x, C_Thinker, dx4, _, _, rfl, K5 _ _ ox4 (by simp), T.cl_Thinker, T.a_Thinker_table, rfl, _, rfl, _, _, _, _, rfl, rfl, SqT.of (K5 _ _ hp (by simp)), rfl, _, _, rfl, (A4.t.keep K5 (by simp)).get hmem, ?_⟩⟩
          refine ⟨_, hL5, by rw [List.length_map, List.length_take]; exact smallL (by have := hI.bo.nl; omega), ?_, K5.then_own hL⟩
          rw [List.take_succ_eq_append_getElem hlt, hget, List.map_append]
          exact upd_same
        · rintro H5 ⟨hL5, K5⟩
          rw [hR4.len.1, List.take_length] at hL5
          exact fin 0 (by rw [if_pos h']) hL K5 hL5
      · have h' : ¬ s3.ev (nums es) e ≥ count := h
        refine ⟨_, rfl, _, rfl, B, C_Brain, dB, _, _, rfl, oB4, T.cl_Brain, T.a_Brain_cells, rfl, ce, rfl, ⟨_, SqT.of hce4⟩, fun L hL => ?_⟩
        refine lc_tup (K := K) (a := ce) (xs := ys4) (fun i H5 => H5 L = some (.lst ((ns.take i).map fun y => V.int (s3.tb y))) ∧ Keep [] H4 H5) ⟨upd_same, Keep.new hL⟩ (fun i H5 _ ⟨_, k5⟩ => SqT.of (k5 _ _ hce4 (by simp))) ?_ ?_
        · rintro i v H5 hv ⟨hL5, K5⟩
          obtain ⟨pp, n, c, rfl, hn, _, hp⟩ := hR4.get hv
          obtain ⟨hlt, hget⟩ := List.getElem?_eq_some_iff.mp hn
          have hmem : n ∈ ns := List.mem_of_getElem? hn
          refine ⟨rfl, yes_then ⟨_, rfl, x, C_Thinker, dx4, _, _, rfl, K5 _ _ ox4 (by simp), T.cl_Thinker, T.a_Thinker_table, rfl, _, rfl, _, _, _, _, rfl, rfl, SqT.of (K5 _ _ hp (by simp)), rfl, _, _, rfl, (A4.t.keep K5 (by simp)).get hmem, ?_⟩⟩
          refine ⟨_, hL5, by rw [List.length_map, List.length_take]; exact smallL (by have := hI.bo.nl; omega), ?_, K5.then_own hL⟩
          rw [List.take_succ_eq_append_getElem hlt, hget, List.map_append]
          exact upd_same
        · rintro H5 ⟨hL5, K5⟩
          rw [hR4.len.1, List.take_length] at hL5
          exact fin _ (by rw [if_neg h']) hL K5 hL5
end

section
variable {P : Program} {w : World} {K : PySem.W.Frag} {mg : Str → Option Value} {base : Heap} {C_Tape : Addr} {C_Thinker : Addr} {C_Brain : Addr} {C_Mind : Addr} {C_Frame : Addr} {C_Thinking : Addr} {C_Checker : Addr} {T_EVENTS : Addr} {T_SIGNS : Addr} {T_ROUND_NAMES : Addr} {T_BRAIN_NAMES : Addr} {T_EFFECTS : Addr}
theorem same_all {f : Addr} {fd : FuncData} (D : C8.Def K mg "_law_same" s_law_same f fd) (b : Binds K fd ["actual", "due"] []) (T : Txt K mg C_Tape C_Thinker C_Brain C_Mind C_Frame C_Thinking C_Checker T_EVENTS T_SIGNS T_ROUND_NAMES T_BRAIN_NAMES T_EFFECTS) : ∀ n, C8.Cal P w K mg base n "_law_same" (sp_law_same K n) []
  | 0 => ok_law_same0 D b
  | n + 1 => ok_law_same D b T (same_all D b T n)
end
/-! a tape with more in front -/
theorem thk_len {ns : List Str} {cs : List Int} {b : Bl} {e : Ex} {count : Int} {seen rs : List Int} {u : Int} (hl : cs.length = ns.length) (hs : SeenOk seen) (hb : b.Ok ns) (ho : MOk ns ⟨u, tbOf ns cs, []⟩) (u1 : u ≤ 65535) :
    (thk ns cs b e count seen rs u []).2.1.length = ns.length ∧ (thk ns cs b e count seen rs u []).2.2.length ≤ 65535 := by
  have mv := runB_mv (rs := rs) hs b hb _ ho
  have h1 := mv.k
  have h2 : (runB seen rs b ⟨u, tbOf ns cs, []⟩).2.tk.length ≤ 65535 := by
    change _ ≤ u.toNat + 0 + 0 at h1
    omega
  unfold thk
  split
  · exact ⟨hl, h2⟩
  · exact ⟨by rw [List.length_map], h2⟩
/-! the same -/
theorem same_ints {K : PySem.W.Frag} {H : Hp} {n : Nat} : ∀ l : List Int, Paired (SameV K (n + 1) H) (l.map V.int) (l.map V.int)
  | [] => .nil
  | a :: l => .cons (sameV_atom (.inr (.inl ⟨a, rfl⟩))) (same_ints l)
theorem same_intsT {K : PySem.W.Frag} {H : Hp} {p q : Addr} {n : Nat} {l : List Int} (h1 : H p = some (.tup (l.map V.int))) (h2 : H q = some (.tup (l.map V.int))) (hl : l.length ≤ 1000000) : SameV K (n + 2) H (.ref p) (.ref q) :=
  sameT (.inl h1) (.inl h2) (same_ints l) (by rw [List.length_map]; exact hl)
theorem same_pl {K : PySem.W.Frag} {H : Hp} {n : Nat} : ∀ {tk : List (Int × Int)} {xs ys : List V}, PL H xs tk → PL H ys tk → Paired (SameV K (n + 2) H) xs ys
  | [], _, _, h, g => by cases h; cases g; exact .nil
  | p :: tk, _, _, h, g => by
    cases h with
    | cons h1 h2 =>
      cases g with
      | cons g1 g2 => exact .cons (sameT (.inl h1) (.inl g1) (same_ints [_, _]) (by simp)) (same_pl h2 g2)
theorem sameL {K : PySem.W.Frag} {H : Hp} {n : Nat} {p q : Addr} {xs ys : List V} (h1 : H p = some (.lst xs)) (h2 : H q = some (.lst ys)) (h : Paired (SameV K n H) xs ys) (hl : xs.length ≤ 1000000) : SameV K (n + 1) H (.ref p) (.ref q) :=
  .inr ⟨p, q, _, _, rfl, rfl, .inl ⟨h1, h2⟩, (paired_get h).1, smallM hl, (paired_get h).2⟩

/-! codes of statements -/
inductive MI where
  | e (i : Ins)
  | skip (n : Nat)
  | jump (n : Nat)
  | back (n : Nat)
  | unit
  | lot
  | store (x : Str)
  | fin
def tagM : MI → Str
  | .e i => tagI i
  | .skip _ => "skip"
  | .jump _ => "jump"
  | .back _ => "back"
  | .unit => "unit"
  | .lot => "lot"
  | .store _ => "store"
  | .fin => "end"
def numM (ns : List Str) : MI → Int
  | .e i => numI ns i
  | .skip n => (n : Int)
  | .jump n => (n : Int)
  | .back n => (n : Int)
  | .unit => 0
  | .lot => 0
  | .store x => (idx ns x : Nat)
  | .fin => 0
def ec (e : Ex) : List MI := (code offs e).map MI.e
def brn (t a b : List MI) : List MI := if b = [] then t ++ (.skip a.length :: a) else t ++ (.skip (a.length + 1) :: (a ++ (.jump b.length :: b)))
mutual
def cT : Th → List MI
  | .set x e => .unit :: (ec e ++ [.store x])
  | .lot x e => .unit :: (ec e ++ [.lot, .store x])
  | .iff t a b => .unit :: brn (ec t) (cB a) (cB b)
  | .whl t b => .unit :: (ec t ++ (.skip ((cB b).length + 1) :: (cB b ++ [.back ((ec t).length + (cB b).length + 2)])))
def cB : Bl → List MI
  | .nil => []
  | .cons t b => cT t ++ cB b
end
def cM (b : Bl) (e : Ex) : List MI := cB b ++ (ec e ++ [.fin])
inductive ML (K : PySem.W.Frag) (H : Hp) (ns : List Str) : List V → List MI → Prop
  | nil : ML K H ns [] []
  | cons {t : Addr} {i : MI} {vs : List V} {c : List MI} : Ad K H t [.str (tagM i), .int (numM ns i)] → ML K H ns vs c → ML K H ns (.ref t :: vs) (i :: c)
section
variable {K : PySem.W.Frag} {ns : List Str}
theorem ML.tk {H H' : Hp} (k : TK H H') {vs : List V} {c : List MI} (h : ML K H ns vs c) : ML K H' ns vs c := by
  induction h with
  | nil => exact .nil
  | cons h _ ih => exact .cons (h.tk k) ih
theorem ML.app {H : Hp} {vs ws : List V} {c d : List MI} (h : ML K H ns vs c) (g : ML K H ns ws d) : ML K H ns (vs ++ ws) (c ++ d) := by
  induction h with
  | nil => exact g
  | cons h _ ih => exact .cons h ih
theorem ML.len {H : Hp} {vs : List V} {c : List MI} (h : ML K H ns vs c) : vs.length = c.length := by
  induction h with
  | nil => rfl
  | cons h _ ih => rw [List.length_cons, List.length_cons, ih]
theorem ML.get {H : Hp} {vs : List V} {c : List MI} (h : ML K H ns vs c) : ∀ {i : Nat} {x : MI}, c[i]? = some x → ∃ t, vs[i]? = some (.ref t) ∧ Ad K H t [.str (tagM x), .int (numM ns x)] := by
  induction h with
  | nil => intro i v h; simp at h
  | cons h _ ih =>
    intro i x hx
    cases i with
    | zero => simp at hx; subst hx; exact ⟨_, rfl, h⟩
    | succ i => simpa using ih (by simpa using hx)
theorem CL.ml {H : Hp} {vs : List V} {c : List Ins} (h : CL K H ns vs c) : ML K H ns vs (c.map MI.e) := by
  induction h with
  | nil => exact .nil
  | cons h _ ih => exact .cons h ih
end
theorem brn_len (t a b : List MI) : t.length + a.length + b.length + 1 ≤ (brn t a b).length := by
  unfold brn
  split
  · rename_i h
    subst h
    simp; omega
  · simp; omega
theorem ec_len {e : Ex} (h : e.dep ≤ 12) : (ec e).length ≤ 8192 := by
  unfold ec
  rw [List.length_map]
  exact code_small offs (by omega)
theorem off0 {H : Hp} {a : Addr} (h : H a = some (.dK [])) : DcB H a [] offs := ⟨[], h, fun x hx => by cases hx⟩
/-- a code that is being put together -/
def CdL (K : PySem.W.Frag) (H : Hp) (ns : List Str) (L : Addr) (c : List MI) : Prop := ∃ ws, H L = some (.lst ws) ∧ ML K H ns ws c
theorem CdL.keep {K : PySem.W.Frag} {H H' : Hp} {ns : List Str} {L : Addr} {c : List MI} (h : CdL K H ns L c) (k : Keep [] H H') : CdL K H' ns L c := by
  obtain ⟨ws, h1, h2⟩ := h
  exact ⟨ws, k _ _ h1 (by simp), h2.tk k.tk⟩
theorem CdL.push {K : PySem.W.Frag} {H0 H : Hp} {ns : List Str} {L u : Addr} {c : List MI} (h : CdL K H ns L c) (i : MI) (nL : H0 L = none) (k0 : Keep [] H0 H) (nu : H u = none) : ∃ ws, upd H u (.tup [.str (tagM i), .int (numM ns i)]) L = some (.lst ws) ∧ ws.length = c.length ∧
    CdL K (upd (upd H u (.tup [.str (tagM i), .int (numM ns i)])) L (.lst (ws ++ [.ref u]))) ns L (c ++ [i]) ∧ Keep [] H0 (upd (upd H u (.tup [.str (tagM i), .int (numM ns i)])) L (.lst (ws ++ [.ref u]))) ∧ TK H (upd (upd H u (.tup [.str (tagM i), .int (numM ns i)])) L (.lst (ws ++ [.ref u]))) := by
  obtain ⟨ws, h1, h2⟩ := h
  have k1 : Keep [] H (upd H u (.tup [.str (tagM i), .int (numM ns i)])) := Keep.new nu
  have h1' := k1 _ _ h1 (by simp)
  have t : TK H (upd (upd H u (.tup [.str (tagM i), .int (numM ns i)])) L (.lst (ws ++ [.ref u]))) := k1.tk.trans (TK.lst h1')
  have ne : u ≠ L := (ne_of_none h1 nu).symm
  exact ⟨ws, h1', h2.len, ⟨_, upd_same, (h2.tk t).app (.cons (.inl (by rw [upd_ne ne]; exact upd_same)) .nil)⟩, (k0.trans k1).then_own nL, t⟩
theorem CdL.cat {K : PySem.W.Frag} {H0 H : Hp} {ns : List Str} {L b : Addr} {c d : List MI} {zs : List V} (h : CdL K H ns L c) (nL : H0 L = none) (k0 : Keep [] H0 H) (hb : H b = some (.lst zs)) (m : ML K H ns zs d) : ∃ ws, H L = some (.lst ws) ∧ ws.length = c.length ∧
    CdL K (upd H L (.lst (ws ++ zs))) ns L (c ++ d) ∧ Keep [] H0 (upd H L (.lst (ws ++ zs))) ∧ TK H (upd H L (.lst (ws ++ zs))) := by
  obtain ⟨ws, h1, h2⟩ := h
  have t : TK H (upd H L (.lst (ws ++ zs))) := TK.lst h1
  exact ⟨ws, h1, h2.len, ⟨_, upd_same, (h2.tk t).app (m.tk t)⟩, k0.then_own nL, t⟩
def sp_branch (K : PySem.W.Frag) : Sp := fun vs H Q _ => ∃ (l1 l2 l3 : Addr) (xs ys zs : List V) (ns : List Str) (t a b : List MI), vs = [.ref l1, .ref l2, .ref l3] ∧ H l1 = some (.lst xs) ∧ H l2 = some (.lst ys) ∧ H l3 = some (.lst zs) ∧ ML K H ns xs t ∧ ML K H ns ys a ∧ ML K H ns zs b ∧ t.length + a.length + b.length ≤ 900000 ∧
  ∀ l ws H', H' l = some (.lst ws) → ML K H' ns ws (brn t a b) → Keep [] H H' → Q (.ref l) H'
def sp_tcode (K : PySem.W.Frag) (n : Nat) : Sp := fun vs H Q _ => ∃ (bk sl : Addr) (b : Bl) (ns : List Str), vs = [.ref bk, .ref sl] ∧ BV K H b bk ∧ b.Ok ns ∧ b.dep < n ∧ (cB b).length ≤ 800000 ∧ TupD H sl (ns.map V.str) ∧
  ∀ l ws H', H' l = some (.lst ws) → ML K H' ns ws (cB b) → Keep [] H H' → Q (.ref l) H'
def sp_bcode (K : PySem.W.Frag) : Sp := fun vs H Q _ => ∃ (bk sl : Addr) (an : V) (b : Bl) (e : Ex) (ns : List Str), vs = [.ref bk, an, .ref sl] ∧ BV K H b bk ∧ b.Ok ns ∧ b.dep ≤ 8 ∧ (cB b).length ≤ 800000 ∧ EV K H an e ∧ ExOk ns e ∧ TupD H sl (ns.map V.str) ∧
  ∀ l ws H', H' l = some (.lst ws) → ML K H' ns ws (cM b e) → Keep [] H H' → Q (.ref l) H'
section
variable {P : Program} {w : World} {K : PySem.W.Frag} {mg : Str → Option Value} {base : Heap} {C_Tape : Addr} {C_Thinker : Addr} {C_Brain : Addr} {C_Mind : Addr} {C_Frame : Addr} {C_Thinking : Addr} {C_Checker : Addr} {T_EVENTS : Addr} {T_SIGNS : Addr} {T_ROUND_NAMES : Addr} {T_BRAIN_NAMES : Addr} {T_EFFECTS : Addr}
theorem code_all {f : Addr} {fd : FuncData} (D : C8.Def K mg "expression_code" s_expression_code f fd) (b : Binds K fd ["expression", "slots", "on"] []) (T : Txt K mg C_Tape C_Thinker C_Brain C_Mind C_Frame C_Thinking C_Checker T_EVENTS T_SIGNS T_ROUND_NAMES T_BRAIN_NAMES T_EFFECTS) : ∀ n, C8.Cal P w K mg base (n + 1) "expression_code" (sp_code K n) []
  | 0 => ok_code0 D b
  | n + 1 => ok_code D b T (code_all D b T n)
theorem ok_branch {f : Addr} {fd : FuncData} (D : C8.Def K mg "branch_code" s_branch_code f fd) (b : Binds K fd ["test", "then", "other"] []) (T : Txt K mg C_Tape C_Thinker C_Brain C_Mind C_Frame C_Thinking C_Checker T_EVENTS T_SIGNS T_ROUND_NAMES T_BRAIN_NAMES T_EFFECTS) : C8.Cal P w K mg base 1 "branch_code" (sp_branch K) [] := by
  refine cal0 D b .nil sc_branch_code (fun vs H Q E h => ?_) (fun cdv A outer s H vs Q E hr h => ?_)
  · obtain ⟨l1, l2, l3, xs, ys, zs, ns, t, a, b, rfl, _⟩ := h
    rfl
  · obtain ⟨l1, l2, l3, xs, ys, zs, ns, t, a, b, rfl, h1, h2, h3, m1, m2, m3, ln, k⟩ := h
    refine ⟨_, (pss_cons (ps_if (pt_not (pt_truth (pv 2) (by intro _; rfl)))
  (pss_one (ps_ret (pe_lst (StX.pa_star (pv 0) (pa_cons (pe_tup (pa_cons pe_str (pa_cons (pe_callB call_len_seq (by rfl) T.n_len bo_len (pa_cons (pv 1) pa_nil)) pa_nil))) (StX.pa_star (pv 1) pa_nil))))))
  pss_nil)
(pss_one (ps_ret (pe_lst (StX.pa_star (pv 0) (pa_cons (pe_tup (pa_cons pe_str (pa_cons (pe_op op_add (pe_callB call_len_seq (by rfl) T.n_len bo_len (pa_cons (pv 1) pa_nil)) pe_int) pa_nil))) (StX.pa_star (pv 1) (pa_cons (pe_tup (pa_cons pe_str (pa_cons (pe_callB call_len_seq (by rfl) T.n_len bo_len (pa_cons (pv 2) pa_nil)) pa_nil))) (StX.pa_star (pv 2) pa_nil))))))))), ?_⟩
    have e1 := m1.len
    have e2 := m2.len
    have e3 := m3.len
    cases m3 with
    | nil =>
      refine ⟨_, rfl, _, .inl ⟨_, SqL.of h3, rfl⟩, iteT ?_⟩
      refine ⟨_, rfl, _, _, rfl, .inr (SqL.of h1), _, rfl, _, _, rfl, .inl (SqL.of h2), by show 2 ≤ sizeLine; decide, fun u nu => ?_⟩
      have k1 := Keep.new (W := []) (o := .tup [.str "skip", .int ys.length]) nu
      refine ⟨_, rfl, _, _, rfl, .inr (SqL.of (k1 _ _ h2 (by simp))), ?_, fun l nl => ?_⟩
      · simp only [List.length_append, List.length_cons, List.length_nil]
        exact smallM (by omega)
      · have fin : ∀ Hf : Hp, TK H Hf → Hf u = some (.tup [.str "skip", .int (ys.length : Nat)]) → ML K Hf ns (xs ++ (.ref u :: ys)) (brn t a []) := fun Hf tk hu => by
          unfold brn
          rw [if_pos rfl]
          exact (m1.tk tk).app (.cons (.inl (by rw [hu, e2]; rfl)) (m2.tk tk))
        refine k l _ _ upd_same ?_ (k1.then_new nl)
        rw [List.append_nil]
        exact fin _ (k1.then_new nl).tk (Keep.new (W := []) nl _ _ upd_same (by simp))
    | @cons t3 i3 zs3 b3 hat hml =>
      refine ⟨_, rfl, _, .inl ⟨_, SqL.of h3, rfl⟩, iteF ?_⟩
      refine ⟨_, rfl, _, _, rfl, .inr (SqL.of h1), _, rfl, _, _, rfl, .inl (SqL.of h2), _, _, rfl, rfl, by show 2 ≤ sizeLine; decide, fun u nu => ?_⟩
      have k1 : Keep [] H (upd H u (.tup [.str "skip", .int ((ys.length : Int) + 1)])) := Keep.new nu
      refine ⟨_, rfl, _, _, rfl, .inr (SqL.of (k1 _ _ h2 (by simp))), _, rfl, _, _, rfl, .inl (SqL.of (k1 _ _ h3 (by simp))), by show 2 ≤ sizeLine; decide, fun u2 nu2 => ?_⟩
      have k2 : Keep [] H (upd (upd H u (.tup [.str "skip", .int ((ys.length : Int) + 1)])) u2 (.tup [.str "jump", .int ((V.ref t3 :: zs3).length : Nat)])) := k1.then_new nu2
      refine ⟨_, rfl, _, _, rfl, .inr (SqL.of (k2 _ _ h3 (by simp))), ?_, fun l nl => ?_⟩
      · simp only [List.length_append, List.length_cons, List.length_nil] at ln e3 ⊢
        exact smallM (by omega)
      · have fin : ∀ Hf : Hp, TK H Hf → Hf u = some (.tup [.str "skip", .int ((ys.length : Int) + 1)]) → Hf u2 = some (.tup [.str "jump", .int ((V.ref t3 :: zs3).length : Nat)]) → ML K Hf ns (xs ++ (.ref u :: (ys ++ (.ref u2 :: (V.ref t3 :: zs3))))) (brn t a (i3 :: b3)) := fun Hf tk hu hu2 => by
          unfold brn
          rw [if_neg (by simp)]
          exact (m1.tk tk).app (.cons (.inl (by rw [hu, e2]; rfl)) ((m2.tk tk).app (.cons (.inl (by rw [hu2, e3]; rfl)) ((ML.cons hat hml).tk tk))))
        refine k l _ _ upd_same ?_ (k2.then_new nl)
        rw [List.append_nil]
        exact fin _ (k2.then_new nl).tk (((Keep.new (W := []) nu2).then_new nl) _ _ upd_same (by simp)) (Keep.new (W := []) nl _ _ upd_same (by simp))
theorem ok_tcode0 {f : Addr} {fd : FuncData} (D : C8.Def K mg "thoughts_code" s_thoughts_code f fd) (b : Binds K fd ["block", "slots"] []) {k : Nat} : C8.Cal P w K mg base k "thoughts_code" (sp_tcode K 0) [] :=
  ⟨f, fd, ["block", "slots"], [], ⟨fun vs H Q E h => (by obtain ⟨bk, sl, b, ns, rfl, _⟩ := h; rfl), fun A outer s H args us vs Q E _ _ _ _ h => (by obtain ⟨bk, sl, b, ns, _, _, _, h2, _⟩ := h; exact absurd h2 (Nat.not_lt_zero _))⟩, D.mgf, D.kp, b, .nil⟩
theorem ok_tcode {f : Addr} {fd : FuncData} (D : C8.Def K mg "thoughts_code" s_thoughts_code f fd) (b : Binds K fd ["block", "slots"] []) (T : Txt K mg C_Tape C_Thinker C_Brain C_Mind C_Frame C_Thinking C_Checker T_EVENTS T_SIGNS T_ROUND_NAMES T_BRAIN_NAMES T_EFFECTS) {n k : Nat} (c_thoughts_code : C8.Cal P w K mg base k "thoughts_code" (sp_tcode K n) []) (c_expression_code : C8.Cal P w K mg base k "expression_code" (sp_code K 12) []) (c_branch_code : C8.Cal P w K mg base k "branch_code" (sp_branch K) []) :
    C8.Cal P w K mg base (k + 1) "thoughts_code" (sp_tcode K (n + 1)) [] := by
  refine cal0 D b .nil sc_thoughts_code (fun vs H Q E h => ?_) (fun cdv A outer s H vs Q E hr h => ?_)
  · obtain ⟨bk, sl, b, ns, rfl, _⟩ := h
    rfl
  · obtain ⟨bk, sl, b0, ns, rfl, ⟨xs, hbk, hT⟩, ok, dp, ln, S, k⟩ := h
    refine ⟨_, (pss_cons (ps_set (i := 2) sc_thoughts_code.nd rfl (by first | exact Or.inl rfl | exact Or.inr rfl) (pe_lst pa_nil))
(pss_cons (ps_for PassesOwn.never rfl (pi_tup (pv 0)) (pg_name (i := 3) sc_thoughts_code.nd rfl (by first | exact Or.inl rfl | exact Or.inr rfl))
  (pss_cons (ps_expr (pe_bm PySem.F.plainAttrs_list PySem.F.slot_list_append PySem.F.type_list_append mt_append (pv 2) (pa_cons (pe_tup (pa_cons pe_str (pa_cons pe_int pa_nil))) pa_nil)))
  (pss_cons (ps_set (i := 4) sc_thoughts_code.nd rfl (by first | exact Or.inl rfl | exact Or.inr rfl) (pe_ix ix_tup (pv 3) pe_int (fun _ _ => rfl)))
  (pss_one (ps_if (pt_cmpR op_eq (pv 4) pe_str (nomark _))
    (pss_cons (ps_set (i := 5) sc_thoughts_code.nd rfl (by first | exact Or.inl rfl | exact Or.inr rfl) (pe_c c_expression_code hr (by first | exact Nat.le_refl _ | decide | omega) rfl (pa_cons (pe_ix ix_tup (pv 3) pe_int (fun _ _ => rfl)) (pa_cons (pv 1) (pa_cons pe_dnewK pa_nil)))))
    (pss_one (ps_expr (pe_bm PySem.F.plainAttrs_list PySem.F.slot_list_extend PySem.F.type_list_extend mt_extend (pv 2) (pa_cons (pe_c c_branch_code hr (by first | exact Nat.le_refl _ | decide | omega) rfl (pa_cons (pv 5) (pa_cons (pe_c c_thoughts_code hr (by first | exact Nat.le_refl _ | decide | omega) rfl (pa_cons (pe_ix ix_tup (pv 3) pe_int (fun _ _ => rfl)) (pa_cons (pv 1) pa_nil))) (pa_cons (pe_c c_thoughts_code hr (by first | exact Nat.le_refl _ | decide | omega) rfl (pa_cons (pe_ix ix_tup (pv 3) pe_int (fun _ _ => rfl)) (pa_cons (pv 1) pa_nil))) pa_nil)))) pa_nil)))))
    (pss_one (ps_if (pt_cmpR op_eq (pv 4) pe_str (nomark _))
      (pss_cons (ps_set (i := 5) sc_thoughts_code.nd rfl (by first | exact Or.inl rfl | exact Or.inr rfl) (pe_c c_expression_code hr (by first | exact Nat.le_refl _ | decide | omega) rfl (pa_cons (pe_ix ix_tup (pv 3) pe_int (fun _ _ => rfl)) (pa_cons (pv 1) (pa_cons pe_dnewK pa_nil)))))
      (pss_cons (ps_set (i := 6) sc_thoughts_code.nd rfl (by first | exact Or.inl rfl | exact Or.inr rfl) (pe_c c_thoughts_code hr (by first | exact Nat.le_refl _ | decide | omega) rfl (pa_cons (pe_ix ix_tup (pv 3) pe_int (fun _ _ => rfl)) (pa_cons (pv 1) pa_nil))))
      (pss_one (ps_expr (pe_bm PySem.F.plainAttrs_list PySem.F.slot_list_extend PySem.F.type_list_extend mt_extend (pv 2) (pa_cons (pe_lst (StX.pa_star (pv 5) (pa_cons (pe_tup (pa_cons pe_str (pa_cons (pe_op op_add (pe_callB call_len_seq (by rfl) T.n_len bo_len (pa_cons (pv 6) pa_nil)) pe_int) pa_nil))) (StX.pa_star (pv 6) (pa_cons (pe_tup (pa_cons pe_str (pa_cons (pe_op op_add (pe_op op_add (pe_callB call_len_seq (by rfl) T.n_len bo_len (pa_cons (pv 5) pa_nil)) (pe_callB call_len_seq (by rfl) T.n_len bo_len (pa_cons (pv 6) pa_nil))) pe_int) pa_nil))) pa_nil))))) pa_nil))))))
      (pss_cons (ps_expr (pe_bm PySem.F.plainAttrs_list PySem.F.slot_list_extend PySem.F.type_list_extend mt_extend (pv 2) (pa_cons (pe_c c_expression_code hr (by first | exact Nat.le_refl _ | decide | omega) rfl (pa_cons (pe_ix ix_tup (pv 3) pe_int (fun _ _ => rfl)) (pa_cons (pv 1) (pa_cons pe_dnewK pa_nil)))) pa_nil)))
      (pss_cons (ps_if (pt_cmpR op_eq (pv 4) pe_str (nomark _))
        (pss_one (ps_expr (pe_bm PySem.F.plainAttrs_list PySem.F.slot_list_append PySem.F.type_list_append mt_append (pv 2) (pa_cons (pe_tup (pa_cons pe_str (pa_cons pe_int pa_nil))) pa_nil))))
        pss_nil)
      (pss_one (ps_expr (pe_bm PySem.F.plainAttrs_list PySem.F.slot_list_append PySem.F.type_list_append mt_append (pv 2) (pa_cons (pe_tup (pa_cons pe_str (pa_cons (pe_bmZ PySem.F.plainAttrs_tuple PySem.F.slot_tuple_index PySem.F.type_tuple_index mt_tup_index (pv 1) (pa_cons (pe_ix ix_tup (pv 3) pe_int (fun _ _ => rfl)) pa_nil)) pa_nil))) pa_nil)))))))))))))
(pss_one (ps_ret (pv 2))))), ?_⟩
    refine And.intro (by show 0 ≤ sizeLine; decide) <| fun L nL => ?_
    have k0 : Keep [] H (upd H L (.lst [])) := Keep.new nL
    refine ⟨_, rfl, bk, rfl, ⟨_, (hbk.tk k0.tk).sq⟩, for_tup (K := K) (a := bk) (xs := xs) (fun i σ H' => (∃ o3 o4 o5 o6 : Option V, σ = [some (.ref bk), some (.ref sl), some (.ref L), o3, o4, o5, o6]) ∧ ∃ (b : Bl) (c : List MI) (ws : List V), TVs K H' b (xs.drop i) ∧ b.Ok ns ∧ b.dep ≤ n ∧ H' L = some (.lst ws) ∧ ML K H' ns ws c ∧ c ++ cB b = cB b0 ∧ Keep [] H H')
      ⟨⟨none, none, none, none, rfl⟩, b0, [], [], TVs.tk k0.tk b0 hT, ok, by omega, upd_same, .nil, rfl, k0⟩ (fun i σ H' _ ⟨_, _, _, _, _, _, _, _, _, _, K'⟩ => (hbk.tk K'.tk).sq) ?_ ?_⟩
    · rintro i v σ H1 hv ⟨⟨o3, o4, o5, o6, rfl⟩, b, c, ws, hT1, ok1, d1, hL1, m1, e1, K1⟩
      obtain ⟨hlt, hget⟩ := List.getElem?_eq_some_iff.mp hv
      rw [List.drop_eq_getElem_cons hlt, hget] at hT1
      cases b with
      | nil => cases hT1
      | cons t b =>
        obtain ⟨v', r', e2, hT2, hT3⟩ := hT1
        cases e2
        have dt : t.dep ≤ n ∧ b.dep ≤ n := by (have : max t.dep b.dep ≤ n := d1); omega
        have lsum : c.length + (cT t).length + (cB b).length ≤ 800000 := by
          have : (c ++ (cT t ++ cB b)).length = (cB b0).length := by rw [show cT t ++ cB b = cB (.cons t b) from rfl, e1]
          rw [List.length_append, List.length_append] at this
          omega
        have C0 : CdL K H1 ns L c := ⟨ws, hL1, m1⟩
        refine ⟨_, rfl, .inl ⟨rfl, _, SqL.of hL1⟩, by show 2 ≤ sizeLine; decide, fun u nu => ?_⟩
        obtain ⟨ws1, q1, q2, C1, K2, T2⟩ := C0.push .unit nL K1 nu
        refine ⟨L, ws1, _, rfl, rfl, q1, smallL (by omega), ?_⟩
        replace C1 : CdL K (upd (upd H1 u (.tup [.str "unit", .int 0])) L (.lst (ws1 ++ [.ref u]))) ns L (c ++ [.unit]) := C1
        replace K2 : Keep [] H (upd (upd H1 u (.tup [.str "unit", .int 0])) L (.lst (ws1 ++ [.ref u]))) := K2
        replace T2 : TK H1 (upd (upd H1 u (.tup [.str "unit", .int 0])) L (.lst (ws1 ++ [.ref u]))) := T2
        have hT2' := TV.tk T2 t hT2
        have hT3' := TVs.tk T2 b hT3
        generalize upd (upd H1 u (.tup [.str "unit", .int 0])) L (.lst (ws1 ++ [.ref u])) = H2 at C1 K2 T2 hT2' hT3' ⊢
        have S2 := S.keep K2 (by simp)
        have fin : ∀ {H' : Hp} {p3 p4 p5 p6 : Option V}, CdL K H' ns L (c ++ cT t) → TK H2 H' → Keep [] H H' → (∃ o3 o4 o5 o6 : Option V, ([some (.ref bk), some (.ref sl), some (.ref L), p3, p4, p5, p6] : List (Option V)) = [some (.ref bk), some (.ref sl), some (.ref L), o3, o4, o5, o6]) ∧ ∃ (b : Bl) (c : List MI) (ws : List V), TVs K H' b (xs.drop (i + 1)) ∧ b.Ok ns ∧ b.dep ≤ n ∧ H' L = some (.lst ws) ∧ ML K H' ns ws c ∧ c ++ cB b = cB b0 ∧ Keep [] H H' :=
          fun ⟨ws', g1, g2⟩ tk kk => ⟨⟨_, _, _, _, rfl⟩, b, _, ws', TVs.tk tk b hT3', ok1.2, dt.2, g1, g2, by rw [List.append_assoc]; exact e1, kk⟩
        cases t with
        | set x e =>
          obtain ⟨a, v2, rfl, h1, h2⟩ := hT2'
          have lt : (cT (.set x e)).length = (ec e).length + 2 := by show (MI.unit :: (ec e ++ [.store x])).length = _; simp
          refine ⟨_, rfl, _, _, _, _, rfl, rfl, h1.sq, rfl, ?_⟩
          refine ⟨_, rfl, rfl, _, rfl, iteDF (nes (by decide +kernel)) ?_⟩
          refine ⟨_, rfl, rfl, _, rfl, iteDF (nes (by decide +kernel)) ?_⟩
          obtain ⟨ws2, hL2, _⟩ := id C1
          refine ⟨_, rfl, .inl ⟨rfl, _, SqL.of hL2⟩, _, rfl, _, _, _, _, rfl, rfl, h1.sq, rfl, _, rfl, fun od nod => ?_⟩
          have kd := Keep.new (W := []) (o := .dK []) nod
          refine ⟨v2, sl, od, e, ns, [], offs, rfl, h2.tk kd.tk, ok1.1.2.1, ok1.1.2.2, by omega, S2.keep kd (by simp), off0 upd_same, fun l1 zs H3 hl1 c3 K3 => ?_⟩
          have K23 := kd.trans K3
          have hz : zs.length = (ec e).length := c3.ml.len
          obtain ⟨ws4, q3, q4, C4, K4, T4⟩ := (C1.keep K23).cat nL (K2.trans K23) hl1 c3.ml
          rw [List.length_append, List.length_singleton] at q4
          refine ⟨L, l1, ws4, zs, rfl, rfl, q3, hl1, smallM (by omega), ?_⟩
          have T24 := K23.tk.trans T4
          generalize upd H3 L (.lst (ws4 ++ zs)) = H4 at C4 K4 T4 T24 ⊢
          refine ⟨_, rfl, rfl, _, rfl, iteDF (nes (by decide +kernel)) ?_⟩
          have hi := idx_get ok1.1.1
          have S4 := S.keep K4 (by simp)
          have h14 := h1.tk T24
          obtain ⟨ws5, hL5, m5⟩ := id C4
          have w5 : ws5.length = c.length + 1 + (ec e).length := by rw [m5.len, List.length_append, List.length_append]; unfold ec; rw [List.length_map]; rfl
          refine ⟨_, rfl, .inl ⟨rfl, _, SqL.of hL5⟩, _, rfl, _, _, rfl, S4, _, rfl, _, _, _, _, rfl, rfl, h14.sq, rfl, _, ns, _, _, rfl, rfl, S4.sq, hi.1, hi.2, by show 2 ≤ sizeLine; decide, fun u2 nu2 => ?_⟩
          obtain ⟨ws6, r1, r2, C6, K6, T6⟩ := C4.push (.store x) nL K4 nu2
          refine ⟨L, ws6, _, rfl, rfl, r1, smallL (by rw [r2, ← m5.len, w5]; omega), fin ?_ (T24.trans T6) K6⟩
          have e3 : c ++ [MI.unit] ++ (code offs e).map MI.e ++ [MI.store x] = c ++ cT (.set x e) := by
            show _ = c ++ (MI.unit :: (ec e ++ [.store x]))
            unfold ec; simp
          rw [← e3]; exact C6
        | lot x e =>
          obtain ⟨a, v2, rfl, h1, h2⟩ := hT2'
          have lt : (cT (.lot x e)).length = (ec e).length + 3 := by show (MI.unit :: (ec e ++ [.lot, .store x])).length = _; simp
          refine ⟨_, rfl, _, _, _, _, rfl, rfl, h1.sq, rfl, ?_⟩
          refine ⟨_, rfl, rfl, _, rfl, iteDF (nes (by decide +kernel)) ?_⟩
          refine ⟨_, rfl, rfl, _, rfl, iteDF (nes (by decide +kernel)) ?_⟩
          obtain ⟨ws2, hL2, _⟩ := id C1
          refine ⟨_, rfl, .inl ⟨rfl, _, SqL.of hL2⟩, _, rfl, _, _, _, _, rfl, rfl, h1.sq, rfl, _, rfl, fun od nod => ?_⟩
          have kd := Keep.new (W := []) (o := .dK []) nod
          refine ⟨v2, sl, od, e, ns, [], offs, rfl, h2.tk kd.tk, ok1.1.2.1, ok1.1.2.2, by omega, S2.keep kd (by simp), off0 upd_same, fun l1 zs H3 hl1 c3 K3 => ?_⟩
          have K23 := kd.trans K3
          have hz : zs.length = (ec e).length := c3.ml.len
          obtain ⟨ws4, q3, q4, C4, K4, T4⟩ := (C1.keep K23).cat nL (K2.trans K23) hl1 c3.ml
          rw [List.length_append, List.length_singleton] at q4
          refine ⟨L, l1, ws4, zs, rfl, rfl, q3, hl1, smallM (by omega), ?_⟩
          have T24 := K23.tk.trans T4
          generalize upd H3 L (.lst (ws4 ++ zs)) = H4 at C4 K4 T4 T24 ⊢
          refine ⟨_, rfl, rfl, _, rfl, iteDT rfl ?_⟩
          obtain ⟨ws5, hL5, m5⟩ := id C4
          have w5 : ws5.length = c.length + 1 + (ec e).length := by rw [m5.len, List.length_append, List.length_append]; unfold ec; rw [List.length_map]; rfl
          refine ⟨_, rfl, .inl ⟨rfl, _, SqL.of hL5⟩, by show 2 ≤ sizeLine; decide, fun u3 nu3 => ?_⟩
          obtain ⟨ws7, t1, t2, C7, K7, T7⟩ := C4.push .lot nL K4 nu3
          refine ⟨L, ws7, _, rfl, rfl, t1, smallL (by rw [t2, ← m5.len, w5]; omega), ?_⟩
          replace C7 : CdL K (upd (upd H4 u3 (.tup [.str "lot", .int 0])) L (.lst (ws7 ++ [.ref u3]))) ns L (c ++ [.unit] ++ (code offs e).map MI.e ++ [.lot]) := C7
          replace K7 : Keep [] H (upd (upd H4 u3 (.tup [.str "lot", .int 0])) L (.lst (ws7 ++ [.ref u3]))) := K7
          have T27 : TK H2 (upd (upd H4 u3 (.tup [.str "lot", .int 0])) L (.lst (ws7 ++ [.ref u3]))) := T24.trans T7
          generalize upd (upd H4 u3 (.tup [.str "lot", .int 0])) L (.lst (ws7 ++ [.ref u3])) = H7 at C7 K7 T27 ⊢
          have hi := idx_get ok1.1.1
          have S7 := S.keep K7 (by simp)
          have h17 := h1.tk T27
          obtain ⟨ws8, hL8, m8⟩ := id C7
          have w8 : ws8.length = c.length + 1 + (ec e).length + 1 := by rw [m8.len, List.length_append, List.length_append, List.length_append]; unfold ec; rw [List.length_map]; rfl
          refine ⟨_, rfl, .inl ⟨rfl, _, SqL.of hL8⟩, _, rfl, _, _, rfl, S7, _, rfl, _, _, _, _, rfl, rfl, h17.sq, rfl, _, ns, _, _, rfl, rfl, S7.sq, hi.1, hi.2, by show 2 ≤ sizeLine; decide, fun u2 nu2 => ?_⟩
          obtain ⟨ws6, r1, r2, C6, K6, T6⟩ := C7.push (.store x) nL K7 nu2
          refine ⟨L, ws6, _, rfl, rfl, r1, smallL (by rw [r2, ← m8.len, w8]; omega), fin ?_ (T27.trans T6) K6⟩
          have e3 : c ++ [MI.unit] ++ (code offs e).map MI.e ++ [MI.lot] ++ [MI.store x] = c ++ cT (.lot x e) := by
            show _ = c ++ (MI.unit :: (ec e ++ [.lot, .store x]))
            unfold ec; simp
          rw [← e3]; exact C6
        | iff t a b2 =>
          obtain ⟨pp, v2, qa, ra, xs2, ys2, rfl, h1, h2, h3, h4, h5, h6⟩ := hT2'
          have d2 : max a.dep b2.dep + 1 ≤ n := dt.1
          have lt : (cT (.iff t a b2)).length = (brn (ec t) (cB a) (cB b2)).length + 1 := rfl
          have lb := brn_len (ec t) (cB a) (cB b2)
          refine ⟨_, rfl, _, _, _, _, rfl, rfl, h1.sq, rfl, ?_⟩
          refine ⟨_, rfl, rfl, _, rfl, iteDT rfl ?_⟩
          refine ⟨_, rfl, _, _, _, _, rfl, rfl, h1.sq, rfl, _, rfl, fun od nod => ?_⟩
          have kd := Keep.new (W := []) (o := .dK []) nod
          refine ⟨v2, sl, od, t, ns, [], offs, rfl, h2.tk kd.tk, ok1.1.1.1, ok1.1.1.2, by omega, S2.keep kd (by simp), off0 upd_same, fun l1 zs H3 hl1 c3 K3 => ?_⟩
          have K23 := kd.trans K3
          have C3 := C1.keep K23
          obtain ⟨ws3, hL3, _⟩ := id C3
          have T23 := K23.tk
          have h13 := h1.tk T23
          refine ⟨_, rfl, .inl ⟨rfl, _, SqL.of hL3⟩, _, rfl, _, rfl, _, _, _, _, rfl, rfl, h13.sq, rfl, _, rfl, qa, sl, a, ns, rfl, ⟨xs2, h3.tk T23, TVs.tk T23 a h4⟩, ok1.1.2.1, by omega, by omega, S2.keep K23 (by simp), fun l2 ys H4 hl2 m2 K4 => ?_⟩
          have K24 := K23.trans K4
          have T24 := K24.tk
          have h14 := h1.tk T24
          refine ⟨_, rfl, _, _, _, _, rfl, rfl, h14.sq, rfl, _, rfl, ra, sl, b2, ns, rfl, ⟨ys2, h5.tk T24, TVs.tk T24 b2 h6⟩, ok1.1.2.2, by omega, by omega, S2.keep K24 (by simp), fun l3 us H5 hl3 m3 K5 => ?_⟩
          refine ⟨l1, l2, l3, zs, ys, us, ns, ec t, cB a, cB b2, rfl, (K4.trans K5) _ _ hl1 (by simp), K5 _ _ hl2 (by simp), hl3, c3.ml.tk (K4.trans K5).tk, m2.tk K5.tk, m3, by omega, fun l6 ws6 H6 hl6 m6 K6 => ?_⟩
          have K26 := (K24.trans K5).trans K6
          obtain ⟨ws7, q3, q4, C7, K7, T7⟩ := (C1.keep K26).cat nL (K2.trans K26) hl6 m6
          rw [List.length_append, List.length_singleton] at q4
          refine ⟨L, l6, ws7, ws6, rfl, rfl, q3, hl6, smallM (by rw [q4, m6.len]; omega), fin ?_ (K26.tk.trans T7) K7⟩
          have e3 : c ++ [MI.unit] ++ brn (ec t) (cB a) (cB b2) = c ++ cT (.iff t a b2) := by
            show _ = c ++ (MI.unit :: brn (ec t) (cB a) (cB b2))
            simp
          rw [← e3]; exact C7
        | whl t b2 =>
          obtain ⟨pp, v2, qa, xs2, rfl, h1, h2, h3, h4⟩ := hT2'
          have d2 : b2.dep + 1 ≤ n := dt.1
          have lt : (cT (.whl t b2)).length = (ec t).length + (cB b2).length + 3 := by
            show (MI.unit :: (ec t ++ (.skip ((cB b2).length + 1) :: (cB b2 ++ [.back ((ec t).length + (cB b2).length + 2)])))).length = _
            simp; omega
          refine ⟨_, rfl, _, _, _, _, rfl, rfl, h1.sq, rfl, ?_⟩
          refine ⟨_, rfl, rfl, _, rfl, iteDF (nes (by decide +kernel)) ?_⟩
          refine ⟨_, rfl, rfl, _, rfl, iteDT rfl ?_⟩
          refine ⟨_, rfl, _, _, _, _, rfl, rfl, h1.sq, rfl, _, rfl, fun od nod => ?_⟩
          have kd := Keep.new (W := []) (o := .dK []) nod
          refine ⟨v2, sl, od, t, ns, [], offs, rfl, h2.tk kd.tk, ok1.1.1.1, ok1.1.1.2, by omega, S2.keep kd (by simp), off0 upd_same, fun l1 zs H3 hl1 c3 K3 => ?_⟩
          have K23 := kd.trans K3
          have T23 := K23.tk
          have h13 := h1.tk T23
          refine ⟨_, rfl, _, _, _, _, rfl, rfl, h13.sq, rfl, _, rfl, qa, sl, b2, ns, rfl, ⟨xs2, h3.tk T23, TVs.tk T23 b2 h4⟩, ok1.1.2, by omega, by omega, S2.keep K23 (by simp), fun l2 ys H4 hl2 m2 K4 => ?_⟩
          have K24 := K23.trans K4
          have C4 := C1.keep K24
          obtain ⟨ws4, hL4, _⟩ := id C4
          have hl1' := K4 _ _ hl1 (by simp)
          have hz : zs.length = (ec t).length := c3.ml.len
          have hy := m2.len
          refine ⟨_, rfl, .inl ⟨rfl, _, SqL.of hL4⟩, _, rfl, _, _, rfl, .inr (SqL.of hl1'), _, rfl, _, _, rfl, .inl (SqL.of hl2), _, _, rfl, rfl, by show 2 ≤ sizeLine; decide, fun u nu => ?_⟩
          have k5 : Keep [] H4 (upd H4 u (.tup [.str "skip", .int ((ys.length : Int) + 1)])) := Keep.new nu
          refine ⟨_, rfl, _, _, rfl, .inr (SqL.of (k5 _ _ hl2 (by simp))), _, rfl, _, _, rfl, .inl (SqL.of (k5 _ _ hl1' (by simp))), _, rfl, _, _, rfl, .inl (SqL.of (k5 _ _ hl2 (by simp))), _, _, rfl, rfl, _, _, rfl, rfl, by show 2 ≤ sizeLine; decide, fun u2 nu2 => ⟨?_, fun l nl => ?_⟩⟩
          · simp only [List.length_append, List.length_cons, List.length_nil]
            exact smallM (by omega)
          have k6 : Keep [] H4 (upd (upd H4 u (.tup [.str "skip", .int ((ys.length : Int) + 1)])) u2 (.tup [.str "back", .int ((zs.length : Int) + (ys.length : Int) + 2)])) := k5.then_new nu2
          have fin2 : ∀ Hf : Hp, TK H4 Hf → Hf u = some (.tup [.str "skip", .int ((ys.length : Int) + 1)]) → Hf u2 = some (.tup [.str "back", .int ((zs.length : Int) + (ys.length : Int) + 2)]) → ML K Hf ns (zs ++ (.ref u :: (ys ++ [.ref u2]))) (ec t ++ (.skip ((cB b2).length + 1) :: (cB b2 ++ [.back ((ec t).length + (cB b2).length + 2)]))) := fun Hf tk hu hu2 =>
            ((c3.ml.tk K4.tk).tk tk).app (.cons (.inl (by rw [hu, hy]; rfl)) ((m2.tk tk).app (.cons (.inl (by rw [hu2, hz, hy]; rfl)) .nil)))
          have k7 : Keep [] H4 (upd (upd (upd H4 u (.tup [.str "skip", .int ((ys.length : Int) + 1)])) u2 (.tup [.str "back", .int ((zs.length : Int) + (ys.length : Int) + 2)])) l (.lst (zs ++ (.ref u :: (ys ++ [.ref u2]))))) := k6.then_new nl
          have m7 := fin2 _ k7.tk (((Keep.new (W := []) nu2).then_new nl) _ _ upd_same (by simp)) (Keep.new (W := []) nl _ _ upd_same (by simp))
          have K27 := K24.trans k7
          obtain ⟨ws7, q3, q4, C7, K7, T7⟩ := (C1.keep K27).cat nL (K2.trans K27) upd_same m7
          rw [List.length_append, List.length_singleton] at q4
          refine ⟨L, l, ws7, _, rfl, rfl, q3, upd_same, ?_, fin ?_ (K27.tk.trans T7) K7⟩
          · simp only [List.length_append, List.length_cons, List.length_nil]
            exact smallM (by omega)
          have e3 : c ++ [MI.unit] ++ (ec t ++ (.skip ((cB b2).length + 1) :: (cB b2 ++ [.back ((ec t).length + (cB b2).length + 2)]))) = c ++ cT (.whl t b2) := by
            show _ = c ++ (MI.unit :: (ec t ++ (.skip ((cB b2).length + 1) :: (cB b2 ++ [.back ((ec t).length + (cB b2).length + 2)]))))
            simp
          rw [← e3]; exact C7
    · rintro σ H1 ⟨⟨o3, o4, o5, o6, rfl⟩, b, c, ws, hT1, ok1, d1, hL1, m1, e1, K1⟩
      rw [List.drop_length] at hT1
      cases b with
      | cons t b => obtain ⟨_, _, e2, _⟩ := hT1; cases e2
      | nil =>
        rw [show cB .nil = [] from rfl, List.append_nil] at e1
        exact ⟨_, rfl, k L ws H1 hL1 (e1 ▸ m1) K1⟩
end

def sp_names : Sp := fun vs H Q _ => ∃ (ce : Addr) (xs : List V) (ns : List Str) (ks : List Int), vs = [.ref ce] ∧ H ce = some (.tup xs) ∧ RL H xs ns ks ∧ ns.length ≤ 1000 ∧ ∀ t H', H t = none → TupD H' t (ns.map V.str) → Keep [] H H' → Q (.ref t) H'
def sp_start (CB : Addr) : Sp := fun vs H Q _ => ∃ (B ce bk : Addr) (u : Int) (an : V) (xs : List V) (ns : List Str) (ks : List Int), vs = [.ref B] ∧ BrA CB H B u ce bk an ∧ H ce = some (.tup xs) ∧ RL H xs ns ks ∧ ns.length ≤ 1000 ∧ ∀ t H', H t = none → H' t = some (.tup (ks.map V.int)) → Keep [] H H' → Q (.ref t) H'
/-- a compiled brain -/
def MdA (K : PySem.W.Frag) (C : Addr) (H : Hp) (M : Addr) (u : Int) (ca cd : Addr) (ks : List Int) (ns : List Str) (c : List MI) : Prop :=
  (∃ dx, H M = some (.ins C dx [("units", .int u), ("cells", .ref ca), ("code", .ref cd)])) ∧ H ca = some (.tup (ks.map V.int)) ∧ ∃ ws, H cd = some (.tup ws) ∧ ML K H ns ws c
theorem MdA.keep {K : PySem.W.Frag} {C : Addr} {H H' : Hp} {M ca cd : Addr} {u : Int} {ks : List Int} {ns : List Str} {c : List MI} (h : MdA K C H M u ca cd ks ns c) (k : Keep [] H H') : MdA K C H' M u ca cd ks ns c := by
  obtain ⟨⟨dx, h1⟩, h2, ws, h3, h4⟩ := h
  exact ⟨⟨dx, k _ _ h1 (by simp)⟩, k _ _ h2 (by simp), ws, k _ _ h3 (by simp), h4.tk k.tk⟩
def sp_minit (K : PySem.W.Frag) (C : Addr) : Sp := fun vs H Q _ => ∃ (x dx ct cl : Addr) (u : Int) (xs ys : List V), vs = [.ref x, .int u, .ref ct, .ref cl] ∧ H x = some (.ins C dx []) ∧ H ct = some (.tup xs) ∧ H cl = some (.lst ys) ∧
  ∀ cd H', H cd = none → H' x = some (.ins C dx [("units", .int u), ("cells", .ref ct), ("code", .ref cd)]) → H' cd = some (.tup ys) → Keep [x] H H' → Q .non H'
def sp_mindof (K : PySem.W.Frag) (CB CM : Addr) : Sp := fun vs H Q _ => ∃ (B ce bk : Addr) (u : Int) (an : V) (ns : List Str) (ks : List Int) (b : Bl) (e : Ex), vs = [.ref B] ∧ BrA CB H B u ce bk an ∧ Bd K H ce bk an ns ks b e ∧ b.Ok ns ∧ b.dep ≤ 8 ∧ ExOk ns e ∧ ns.length ≤ 1000 ∧ (cB b).length ≤ 800000 ∧
  ∀ M ca cd H', H M = none → MdA K CM H' M u ca cd ks ns (cM b e) → Keep [] H H' → Q (.ref M) H'
section
variable {P : Program} {w : World} {K : PySem.W.Frag} {mg : Str → Option Value} {base : Heap} {C_Tape : Addr} {C_Thinker : Addr} {C_Brain : Addr} {C_Mind : Addr} {C_Frame : Addr} {C_Thinking : Addr} {C_Checker : Addr} {T_EVENTS : Addr} {T_SIGNS : Addr} {T_ROUND_NAMES : Addr} {T_BRAIN_NAMES : Addr} {T_EFFECTS : Addr}
theorem tcode_all {f : Addr} {fd : FuncData} (D : C8.Def K mg "thoughts_code" s_thoughts_code f fd) (b : Binds K fd ["block", "slots"] []) (T : Txt K mg C_Tape C_Thinker C_Brain C_Mind C_Frame C_Thinking C_Checker T_EVENTS T_SIGNS T_ROUND_NAMES T_BRAIN_NAMES T_EFFECTS) (c1 : C8.Cal P w K mg base 13 "expression_code" (sp_code K 12) []) (c2 : C8.Cal P w K mg base 1 "branch_code" (sp_branch K) []) : ∀ n, C8.Cal P w K mg base (n + 13) "thoughts_code" (sp_tcode K n) []
  | 0 => ok_tcode0 D b
  | n + 1 => ok_tcode D b T (tcode_all D b T c1 c2 n) (calUp c1 (by omega)) (calUp c2 (by omega))
theorem ok_bcode {f : Addr} {fd : FuncData} (D : C8.Def K mg "brain_code" s_brain_code f fd) (b : Binds K fd ["block", "answer", "slots"] []) (T : Txt K mg C_Tape C_Thinker C_Brain C_Mind C_Frame C_Thinking C_Checker T_EVENTS T_SIGNS T_ROUND_NAMES T_BRAIN_NAMES T_EFFECTS) (c_thoughts_code : C8.Cal P w K mg base 22 "thoughts_code" (sp_tcode K 9) []) (c_expression_code : C8.Cal P w K mg base 13 "expression_code" (sp_code K 12) []) : C8.Cal P w K mg base 23 "brain_code" (sp_bcode K) [] := by
  refine cal0 D b .nil sc_brain_code (fun vs H Q E h => ?_) (fun cdv A outer s H vs Q E hr h => ?_)
  · obtain ⟨bk, sl, an, b, e, ns, rfl, _⟩ := h
    rfl
  · obtain ⟨bk, sl, an, b, e, ns, rfl, hB, ok, dp, ln, hE, eo, S, k⟩ := h
    refine ⟨_, (pss_one (ps_ret (pe_lst (StX.pa_star (pe_c c_thoughts_code hr (by first | exact Nat.le_refl _ | decide | omega) rfl (pa_cons (pv 0) (pa_cons (pv 2) pa_nil))) (StX.pa_star (pe_c c_expression_code hr (by first | exact Nat.le_refl _ | decide | omega) rfl (pa_cons (pv 1) (pa_cons (pv 2) (pa_cons pe_dnewK pa_nil)))) (pa_cons (pe_tup (pa_cons pe_str (pa_cons pe_int pa_nil))) pa_nil)))))), ?_⟩
    refine ⟨_, rfl, _, rfl, bk, sl, b, ns, rfl, hB, ok, by omega, ln, S, fun l ws H1 hl m K1 => ⟨_, _, rfl, .inr (SqL.of hl), ?_⟩⟩
    refine ⟨_, rfl, _, rfl, fun od nod => ?_⟩
    have kd := Keep.new (W := []) (o := .dK []) nod
    have K1d := K1.trans kd
    refine ⟨an, sl, od, e, ns, [], offs, rfl, hE.tk K1d.tk, eo.1, eo.2, by omega, S.keep K1d (by simp), off0 upd_same, fun l2 zs H2 hl2 c2 K2 => ⟨_, _, rfl, .inr (SqL.of hl2), by show 2 ≤ sizeLine; decide, fun u nu => ⟨?_, fun r nr => ?_⟩⟩⟩
    · simp only [List.length_append, List.length_cons, List.length_nil]
      have h1 := m.len
      have h2 := c2.ml.len
      have h3 := ec_len eo.2
      unfold ec at h3
      exact smallM (by omega)
    · have kk : Keep [] H1 H2 := kd.trans K2
      have k3 := (Keep.new (W := []) (o := .tup [.str "end", .int 0]) nu).then_new (o := .lst (ws ++ (zs ++ [.ref u]))) nr
      refine k r _ _ upd_same ?_ ((K1.trans kk).trans k3)
      exact ((m.tk kk.tk).tk k3.tk).app ((c2.ml.tk k3.tk).app (.cons (.inl (Keep.new (W := []) nr _ _ upd_same (by simp))) .nil))
theorem ok_names {f : Addr} {fd : FuncData} (D : C8.Def K mg "names_of" s_names_of f fd) (b : Binds K fd ["rows"] []) (T : Txt K mg C_Tape C_Thinker C_Brain C_Mind C_Frame C_Thinking C_Checker T_EVENTS T_SIGNS T_ROUND_NAMES T_BRAIN_NAMES T_EFFECTS) : C8.Cal P w K mg base 1 "names_of" sp_names [] := by
  refine cal0 D b .nil sc_names_of (fun vs H Q E h => ?_) (fun cdv A outer s H vs Q E hr h => ?_)
  · obtain ⟨ce, xs, ns, ks, rfl, _⟩ := h
    rfl
  · obtain ⟨ce, xs, ns, ks, rfl, hce, hR, hl, k⟩ := h
    refine ⟨_, (pss_one (ps_ret (pe_callTy call_tuple_ofZ (by rfl) T.n_tuple bo_tuple (pa_cons (pe_lc (own := [("row", 1)]) (g := gName 1) (tt := tYes) rfl sc_names_of.nd (pi_tup (pv 0)) (blkOk_by (N := ["rows", "row"]) (sc := fnScope s_names_of) (by decide +kernel)) (fun _ _ _ _ _ => pg_name (i := 1) sc_names_of.nd rfl (Or.inl rfl)) (fun _ _ _ _ _ => pts_nil) (fun _ _ _ _ _ => (pe_ix (ix_tupK (K := K)) (pv 1) pe_int (fun _ _ => rfl)))) pa_nil)))), ?_⟩
    have hrl := hR.len
    refine ⟨_, rfl, ce, rfl, ⟨_, SqT.of hce⟩, fun L hL => ?_⟩
    refine lc_tup (K := K) (a := ce) (xs := xs) (fun i H5 => H5 L = some (.lst ((ns.take i).map V.str)) ∧ Keep [] H H5) ⟨upd_same, Keep.new hL⟩ (fun i H5 _ ⟨_, k5⟩ => SqT.of (k5 _ _ hce (by simp))) ?_ ?_
    · rintro i v H5 hv ⟨hL5, K5⟩
      obtain ⟨pp, n, c, rfl, hn, _, hp⟩ := hR.get hv
      obtain ⟨hlt, hget⟩ := List.getElem?_eq_some_iff.mp hn
      refine ⟨rfl, yes_then ⟨_, rfl, _, _, _, _, rfl, rfl, SqT.of (K5 _ _ hp (by simp)), rfl, ?_⟩⟩
      refine ⟨_, hL5, by rw [List.length_map, List.length_take]; exact smallL (by omega), ?_, K5.then_own hL⟩
      rw [List.take_succ_eq_append_getElem hlt, hget, List.map_append]
      exact upd_same
    · rintro H5 ⟨hL5, K5⟩
      rw [hrl.1, List.take_length] at hL5
      exact ⟨_, _, rfl, SqL.of hL5, fun t o nt e1 e2 => k t _ (K5.free nt) ⟨o, upd_same, e1, e2⟩ (K5.then_new nt)⟩
theorem ok_start {f : Addr} {fd : FuncData} (me : Meth K C_Brain "start" f) (F : C8.Fun K "start" "Brain.start" s_Brain_start f fd) (b : Binds K fd ["self"] []) (T : Txt K mg C_Tape C_Thinker C_Brain C_Mind C_Frame C_Thinking C_Checker T_EVENTS T_SIGNS T_ROUND_NAMES T_BRAIN_NAMES T_EFFECTS) : C8.Met P w K mg base 1 C_Brain "start" (sp_start C_Brain) [] := by
  refine met0 T.cl_Brain me F b sc_Brain_start (fun vs H Q E h => ?_) (fun cdv A outer s H vs Q E hr h => ?_)
  · obtain ⟨B, ce, bk, u, an, xs, ns, ks, rfl, _⟩ := h
    rfl
  · obtain ⟨B, ce, bk, u, an, xs, ns, ks, rfl, ⟨dB, oB⟩, hce, hR, hl, k⟩ := h
    refine ⟨_, (pss_one (ps_ret (pe_callTy call_tuple_of (by rfl) T.n_tuple bo_tuple (pa_cons (pe_lc (own := [("row", 1)]) (g := gName 1) (tt := tYes) rfl sc_Brain_start.nd (pi_tup (pe_fld (pv 0) rfl)) (blkOk_by (N := ["self", "row"]) (sc := fnScope s_Brain_start) (by decide +kernel)) (fun _ _ _ _ _ => pg_name (i := 1) sc_Brain_start.nd rfl (Or.inl rfl)) (fun _ _ _ _ _ => pts_nil) (fun _ _ _ _ _ => (pe_ix (ix_tupK (K := K)) (pv 1) pe_int (fun _ _ => rfl)))) pa_nil)))), ?_⟩
    have hrl := hR.len
    refine ⟨_, rfl, B, C_Brain, dB, _, _, rfl, oB, T.cl_Brain, T.a_Brain_cells, rfl, ce, rfl, ⟨_, SqT.of hce⟩, fun L hL => ?_⟩
    refine lc_tup (K := K) (a := ce) (xs := xs) (fun i H5 => H5 L = some (.lst ((ks.take i).map V.int)) ∧ Keep [] H H5) ⟨upd_same, Keep.new hL⟩ (fun i H5 _ ⟨_, k5⟩ => SqT.of (k5 _ _ hce (by simp))) ?_ ?_
    · rintro i v H5 hv ⟨hL5, K5⟩
      obtain ⟨pp, n, c, rfl, _, hn, hp⟩ := hR.get hv
      obtain ⟨hlt, hget⟩ := List.getElem?_eq_some_iff.mp hn
      refine ⟨rfl, yes_then ⟨_, rfl, _, _, _, _, rfl, rfl, SqT.of (K5 _ _ hp (by simp)), rfl, ?_⟩⟩
      refine ⟨_, hL5, by rw [List.length_map, List.length_take]; exact smallL (by omega), ?_, K5.then_own hL⟩
      rw [List.take_succ_eq_append_getElem hlt, hget, List.map_append]
      exact upd_same
    · rintro H5 ⟨hL5, K5⟩
      rw [hrl.1, ← hrl.2, List.take_length] at hL5
      exact ⟨_, _, rfl, .inl ⟨SqL.of hL5, fun t nt => k t _ (K5.free nt) upd_same (K5.then_new nt)⟩⟩
theorem ok_minit {f : Addr} {fd : FuncData} (M : Mk K C_Mind f) (F : C8.Fun K "__init__" "Mind.__init__" s_Mind___init f fd) (b : Binds K fd ["self", "units", "cells", "code"] []) (T : Txt K mg C_Tape C_Thinker C_Brain C_Mind C_Frame C_Thinking C_Checker T_EVENTS T_SIGNS T_ROUND_NAMES T_BRAIN_NAMES T_EFFECTS) : C8.Mak P w K mg base 1 "Mind" C_Mind (sp_minit K C_Mind) [] := by
  refine mak0 M T.m_Mind F b .nil sc_Mind___init (fun vs H Q E h => ?_) (fun cdv A outer s H vs Q E hr h => ?_)
  · obtain ⟨x, dx, ct, cl, u, xs, ys, rfl, _⟩ := h
    rfl
  · obtain ⟨x, dx, ct, cl, u, xs, ys, rfl, hx, hct, hcl, k⟩ := h
    refine ⟨_, (pss_cons (ps_fld (pv 0) (pv 1) rfl)
(pss_cons (ps_fld (pv 0) (pe_callTy call_tuple_of (by rfl) T.n_tuple bo_tuple (pa_cons (pv 2) pa_nil)) rfl)
(pss_one (ps_fld (pv 0) (pe_callTy call_tuple_of (by rfl) T.n_tuple bo_tuple (pa_cons (pv 3) pa_nil)) rfl)))), ?_⟩
    have mx : x ∈ [x] := List.mem_singleton.mpr rfl
    have tku : ∀ {H1 : Hp} {fs gs : List (Str × V)}, H1 x = some (.ins C_Mind dx fs) → TK H1 (upd H1 x (.ins C_Mind dx gs)) := fun h b zs q => by rw [upd_ne (ne_of q h (by intro z; cases z))]; exact q
    have ncx : cl ≠ x := ne_of hcl hx (by intro z; cases z)
    refine ⟨_, rfl, _, rfl, x, C_Mind, dx, [], rfl, hx, T.cl_Mind, T.a_Mind_units, by show 0 < 1000; decide, ?_⟩
    have t1 := tku (gs := [("units", V.int u)]) hx
    refine ⟨_, rfl, _, _, rfl, .inr ⟨(SqT.of (t1 _ _ hct)), _, rfl, x, C_Mind, dx, _, rfl, upd_same, T.cl_Mind, T.a_Mind_cells, by show 1 < 1000; decide, ?_⟩⟩
    refine ⟨_, rfl, _, _, rfl, .inl ⟨SqL.of (by rw [upd_ne ncx, upd_ne ncx]; exact hcl), fun cd ncd => ?_⟩⟩
    have nxc : x ≠ cd := ne_of_none (H := upd (upd H x _) x _) upd_same ncd
    refine ⟨_, rfl, x, C_Mind, dx, _, rfl, by rw [upd_ne nxc]; exact upd_same, T.cl_Mind, T.a_Mind_code, by show 2 < 1000; decide, ?_⟩
    have ncd0 : H cd = none := by rw [upd_ne nxc.symm, upd_ne nxc.symm] at ncd; exact ncd
    exact k cd _ ncd0 upd_same (by rw [upd_ne nxc.symm]; exact upd_same) ((((Keep.at_ mx).then_at mx).then_own ncd0).then_at mx)
theorem ok_mindof {f : Addr} {fd : FuncData} (D : C8.Def K mg "mind_of" s_mind_of f fd) (b : Binds K fd ["brain"] []) (T : Txt K mg C_Tape C_Thinker C_Brain C_Mind C_Frame C_Thinking C_Checker T_EVENTS T_SIGNS T_ROUND_NAMES T_BRAIN_NAMES T_EFFECTS) (c_brain_code : C8.Cal P w K mg base 23 "brain_code" (sp_bcode K) []) (c_names_of : C8.Cal P w K mg base 1 "names_of" sp_names []) (c_Brain_start : C8.Met P w K mg base 1 C_Brain "start" (sp_start C_Brain) []) (c_Mind : C8.Mak P w K mg base 1 "Mind" C_Mind (sp_minit K C_Mind) []) :
    C8.Cal P w K mg base 24 "mind_of" (sp_mindof K C_Brain C_Mind) [] := by
  refine cal0 D b .nil sc_mind_of (fun vs H Q E h => ?_) (fun cdv A outer s H vs Q E hr h => ?_)
  · obtain ⟨B, ce, bk, u, an, ns, ks, b, e, rfl, _⟩ := h
    rfl
  · obtain ⟨B, ce, bk, u, an, ns, ks, b, e, rfl, ⟨dB, oB⟩, hBd, ok, dp, eo, nl, ln, k⟩ := h
    refine ⟨_, (pss_cons (ps_set (i := 1) sc_mind_of.nd rfl (by first | exact Or.inl rfl | exact Or.inr rfl) (pe_c c_brain_code hr (by first | exact Nat.le_refl _ | decide | omega) rfl (pa_cons (pe_fld (pv 0) rfl) (pa_cons (pe_fld (pv 0) rfl) (pa_cons (pe_c c_names_of hr (by first | exact Nat.le_refl _ | decide | omega) rfl (pa_cons (pe_fld (pv 0) rfl) pa_nil)) pa_nil)))))
(pss_one (ps_ret (pe_mk c_Mind hr (by first | exact Nat.le_refl _ | decide | omega) rfl (pa_cons (pe_fld (pv 0) rfl) (pa_cons (pe_mt0 c_Brain_start hr (by first | exact Nat.le_refl _ | decide | omega) (pv 0)) (pa_cons (pv 1) pa_nil))))))), ?_⟩
    obtain ⟨xs, hce, hR⟩ := id hBd.ce
    refine ⟨_, rfl, B, C_Brain, dB, _, _, rfl, oB, T.cl_Brain, T.a_Brain_block, rfl, _, rfl, B, C_Brain, dB, _, _, rfl, oB, T.cl_Brain, T.a_Brain_answer, rfl, _, rfl, B, C_Brain, dB, _, _, rfl, oB, T.cl_Brain, T.a_Brain_cells, rfl, ce, xs, ns, ks, rfl, hce, hR, nl, fun sl H1 nsl S K1 => ?_⟩
    refine ⟨bk, sl, an, b, e, ns, rfl, hBd.bk.tk K1.tk, ok, dp, ln, hBd.an.tk K1.tk, eo, S, fun l ws H2 hl m K2 => ?_⟩
    have K02 := K1.trans K2
    have oB2 := K02 _ _ oB (by simp)
    refine ⟨_, rfl, B, C_Brain, dB, _, _, rfl, oB2, T.cl_Brain, T.a_Brain_units, rfl, _, rfl, B, dB, _, rfl, oB2, rfl, B, ce, bk, u, an, xs, ns, ks, rfl, ⟨dB, oB2⟩, K02 _ _ hce (by simp), hR.tk K02.tk, nl, fun ca H3 nca hca K3 => ⟨_, rfl, fun M dM nM ndM neM => ?_⟩⟩
    have km : Keep [] H3 (upd (upd H3 dM (.own M)) M (.ins C_Mind dM [])) := Keep.made nM ndM
    refine ⟨M, dM, ca, l, u, _, ws, rfl, upd_same, km _ _ hca (by simp), km _ _ (K3 _ _ hl (by simp)) (by simp), fun cd H4 ncd hM hcd K4 => ⟨rfl, ?_⟩⟩
    have K34 : Keep [] H3 H4 := keep_made nM ndM K4
    exact k M ca cd H4 ((K02.trans K3).free nM) ⟨⟨dM, hM⟩, K34 _ _ hca (by simp), ws, hcd, (m.tk K3.tk).tk K34.tk⟩ ((K02.trans K3).trans K34)
end

/-! the machine -/
structure MC where
  at_ : Nat
  st : List Int
  cells : List Int
  left : Int
  silent : Bool
  done : Bool
  tk : List (Int × Int)
def exec (ns : List Str) (seen rs : List Int) : MI → MC → Option MC
  | .e (.push n), m => some { m with st := n :: m.st }
  | .e (.load x), m => if x ∈ ns ∧ m.cells.length = ns.length then some { m with st := m.cells.getD (idx ns x) 0 :: m.st } else none
  | .e .long, m => some { m with st := (if (65535 : Int) < (seen.length : Int) then 65535 else (seen.length : Int)) :: m.st }
  | .e .view, m => match m.st with
    | a :: r => if 0 ≤ a then some { m with st := vw seen a :: r } else none
    | [] => none
  | .e (.sign s), m => match m.st with
    | b :: a :: r => if s ∈ sgL ∧ 0 ≤ a ∧ a < 65536 ∧ 0 ≤ b ∧ b < 65536 then some { m with st := comb s a b :: r } else none
    | _ => none
  | .skip n, m => match m.st with
    | v :: r => some { m with st := r, at_ := if v = 0 then m.at_ + n else m.at_ }
    | [] => none
  | .jump n, m => some { m with at_ := m.at_ + n }
  | .back n, m => if n + 1 ≤ m.at_ then some { m with at_ := m.at_ - 1 - n } else none
  | .unit, m => some { m with silent := decide (V.int m.left = V.int 0), done := decide (V.int m.left = V.int 0), left := m.left - 1 }
  | .lot, m => match m.st with
    | c :: r => if c < 65536 ∧ m.tk.length ≤ 90000 then some (if c > 0 then { m with st := nextR rs m.tk c :: r, tk := m.tk ++ [(nextR rs m.tk c, c)] } else { m with st := 0 :: r }) else none
    | [] => none
  | .store x, m => match m.st with
    | v :: r => if x ∈ ns ∧ m.cells.length = ns.length then some { m with st := r, cells := m.cells.set (idx ns x) v } else none
    | [] => none
  | .fin, m => some { m with done := true }
def stepM (ns : List Str) (seen rs : List Int) (c : List MI) (m : MC) : Option MC :=
  if m.st.length ≤ 100000 then (c[m.at_]?).bind fun i => exec ns seen rs i { m with at_ := m.at_ + 1 } else none
inductive Pth (ns : List Str) (seen rs : List Int) (c : List MI) : Nat → MC → MC → Prop
  | refl (m : MC) : Pth ns seen rs c 0 m m
  | step {n : Nat} {m m' r : MC} : m.done = false → stepM ns seen rs c m = some m' → Pth ns seen rs c n m' r → Pth ns seen rs c (n + 1) m r
/-! the object -/
def thkF (cd tb tp sk sn : Addr) (at_ steps : Int) (left : Int) (silent done : Bool) : List (Str × V) := [("code", .ref cd), ("table", .ref tb), ("tape", .ref tp), ("at", .int at_), ("stack", .ref sk), ("steps", .int steps), ("left", .int left), ("seen", .ref sn), ("silent", .bl silent), ("done", .bl done)]
structure KAt (K : PySem.W.Frag) (C CT : Addr) (H : Hp) (x cd tb tp rx tx sk sn : Addr) (ns : List Str) (seen rs : List Int) (c : List MI) (m : MC) (n : Nat) : Prop where
  o : ∃ dx, H x = some (.ins C dx (thkF cd tb tp sk sn m.at_ n m.left m.silent m.done))
  hcd : ∃ ws, H cd = some (.tup ws) ∧ ML K H ns ws c
  htb : H tb = some (.lst (m.cells.map V.int))
  hsk : H sk = some (.lst (m.st.reverse.map V.int))
  hsn : H sn = some (.tup (seen.map V.int))
  hta : TapeAt CT H tp rx tx rs m.tk
  n1 : tb ≠ sk
  n2 : tb ≠ rx
  n3 : tb ≠ tx
  n4 : sk ≠ rx
  n5 : sk ≠ tx
  n6 : x ≠ tp
theorem ixN_n {n j : Nat} (hj : j < n) : ixN n (j : Int) = some j := by
  unfold ixN
  rw [if_pos (by omega), if_pos (by omega)]
  rfl
section
variable {K : PySem.W.Frag} {C CT : Addr} {H H' : Hp} {x cd tb tp rx tx sk sn : Addr} {ns : List Str} {seen rs : List Int} {c : List MI} {m : MC} {n : Nat}
theorem KAt.keep0 (h : KAt K C CT H x cd tb tp rx tx sk sn ns seen rs c m n) (k : Keep [] H H') : KAt K C CT H' x cd tb tp rx tx sk sn ns seen rs c m n := by
  obtain ⟨dx, o⟩ := h.o
  obtain ⟨ws, h1, h2⟩ := h.hcd
  exact ⟨⟨dx, k _ _ o (by simp)⟩, ⟨ws, k _ _ h1 (by simp), h2.tk k.tk⟩, k _ _ h.htb (by simp), k _ _ h.hsk (by simp), k _ _ h.hsn (by simp), h.hta.keep k k.tk (by simp) (by simp) (by simp), h.n1, h.n2, h.n3, h.n4, h.n5, h.n6⟩
/-- its own object changes -/
theorem KAt.setO (h : KAt K C CT H x cd tb tp rx tx sk sn ns seen rs c m n) {dx : Addr} {fs : List (Str × V)} (hx : H x = some (.ins C dx fs)) (m' : MC) (n' : Nat) (e1 : m'.st = m.st) (e2 : m'.cells = m.cells) (e3 : m'.tk = m.tk) :
    KAt K C CT (upd H x (.ins C dx (thkF cd tb tp sk sn m'.at_ n' m'.left m'.silent m'.done))) x cd tb tp rx tx sk sn ns seen rs c m' n' ∧ Keep [x] H (upd H x (.ins C dx (thkF cd tb tp sk sn m'.at_ n' m'.left m'.silent m'.done))) ∧ TK H (upd H x (.ins C dx (thkF cd tb tp sk sn m'.at_ n' m'.left m'.silent m'.done))) := by
  have ne : ∀ {a : Addr} {o : HO}, H a = some o → (∀ d gs, o ≠ .ins C d gs) → a ≠ x := fun h1 h2 z => by rw [z, hx] at h1; exact h2 _ _ (Option.some.inj h1).symm
  have k : Keep [x] H (upd H x (.ins C dx (thkF cd tb tp sk sn m'.at_ n' m'.left m'.silent m'.done))) := Keep.at_ (List.mem_singleton.mpr rfl)
  have t : TK H (upd H x (.ins C dx (thkF cd tb tp sk sn m'.at_ n' m'.left m'.silent m'.done))) := fun b xs q => by rw [upd_ne (ne q (by intro _ _ z; cases z))]; exact q
  obtain ⟨ws, h1, h2⟩ := h.hcd
  obtain ⟨ys, t1, t2⟩ := h.hta.t
  refine ⟨⟨⟨dx, upd_same⟩, ⟨ws, t _ _ h1, h2.tk t⟩, ?_, ?_, t _ _ h.hsn, ?_, h.n1, h.n2, h.n3, h.n4, h.n5, h.n6⟩, k, t⟩
  · rw [e2]; exact k _ _ h.htb (by have := ne h.htb (by intro _ _ z; cases z); simpa using this)
  · rw [e1]; exact k _ _ h.hsk (by have := ne h.hsk (by intro _ _ z; cases z); simpa using this)
  · rw [e3]
    exact h.hta.keep k t (by simpa using h.n6.symm) (by have := ne h.hta.r (by intro _ _ z; cases z); simpa using this) (by have := ne t1 (by intro _ _ z; cases z); simpa using this)
/-- the stack changes -/
theorem KAt.setS (h : KAt K C CT H x cd tb tp rx tx sk sn ns seen rs c m n) (st : List Int) : KAt K C CT (upd H sk (.lst (st.reverse.map V.int))) x cd tb tp rx tx sk sn ns seen rs c { m with st := st } n ∧ Keep [sk] H (upd H sk (.lst (st.reverse.map V.int))) ∧ TK H (upd H sk (.lst (st.reverse.map V.int))) := by
  have k : Keep [sk] H (upd H sk (.lst (st.reverse.map V.int))) := Keep.at_ (List.mem_singleton.mpr rfl)
  have t : TK H (upd H sk (.lst (st.reverse.map V.int))) := TK.lst h.hsk
  obtain ⟨dx, o⟩ := h.o
  obtain ⟨ws, h1, h2⟩ := h.hcd
  obtain ⟨dt, ot⟩ := h.hta.o
  have nx : x ≠ sk := ne_of o h.hsk (by intro z; cases z)
  have nt : tp ≠ sk := ne_of ot h.hsk (by intro z; cases z)
  exact ⟨⟨⟨dx, k _ _ o (by simpa using nx)⟩, ⟨ws, t _ _ h1, h2.tk t⟩, k _ _ h.htb (by simpa using h.n1), upd_same, t _ _ h.hsn, h.hta.keep k t (by simpa using nt) (by simpa using h.n4.symm) (by simpa using h.n5.symm), h.n1, h.n2, h.n3, h.n4, h.n5, h.n6⟩, k, t⟩
/-- the table changes -/
theorem KAt.setT (h : KAt K C CT H x cd tb tp rx tx sk sn ns seen rs c m n) (cs : List Int) : KAt K C CT (upd H tb (.lst (cs.map V.int))) x cd tb tp rx tx sk sn ns seen rs c { m with cells := cs } n ∧ Keep [tb] H (upd H tb (.lst (cs.map V.int))) ∧ TK H (upd H tb (.lst (cs.map V.int))) := by
  have k : Keep [tb] H (upd H tb (.lst (cs.map V.int))) := Keep.at_ (List.mem_singleton.mpr rfl)
  have t : TK H (upd H tb (.lst (cs.map V.int))) := TK.lst h.htb
  obtain ⟨dx, o⟩ := h.o
  obtain ⟨ws, h1, h2⟩ := h.hcd
  obtain ⟨dt, ot⟩ := h.hta.o
  have nx : x ≠ tb := ne_of o h.htb (by intro z; cases z)
  have nt : tp ≠ tb := ne_of ot h.htb (by intro z; cases z)
  exact ⟨⟨⟨dx, k _ _ o (by simpa using nx)⟩, ⟨ws, t _ _ h1, h2.tk t⟩, upd_same, k _ _ h.hsk (by simpa using h.n1.symm), t _ _ h.hsn, h.hta.keep k t (by simpa using nt) (by simpa using h.n2.symm) (by simpa using h.n3.symm), h.n1, h.n2, h.n3, h.n4, h.n5, h.n6⟩, k, t⟩
/-- the tape goes on -/
theorem KAt.setK (h : KAt K C CT H x cd tb tp rx tx sk sn ns seen rs c m n) (k : Keep [tx] H H') {tk : List (Int × Int)} (ta : TapeAt CT H' tp rx tx rs tk) : KAt K C CT H' x cd tb tp rx tx sk sn ns seen rs c { m with tk := tk } n ∧ TK H H' := by
  obtain ⟨dx, o⟩ := h.o
  obtain ⟨ws, h1, h2⟩ := h.hcd
  obtain ⟨ys, t1, t2⟩ := h.hta.t
  have t : TK H H' := k.tk1 t1
  have nx : x ≠ tx := ne_of o t1 (by intro z; cases z)
  exact ⟨⟨⟨dx, k _ _ o (by simpa using nx)⟩, ⟨ws, t _ _ h1, h2.tk t⟩, k _ _ h.htb (by simpa using h.n3), k _ _ h.hsk (by simpa using h.n5), t _ _ h.hsn, ta, h.n1, h.n2, h.n3, h.n4, h.n5, h.n6⟩, t⟩
theorem KAt.push (h : KAt K C CT H x cd tb tp rx tx sk sn ns seen rs c m n) (v : Int) : KAt K C CT (upd H sk (.lst (m.st.reverse.map V.int ++ [.int v]))) x cd tb tp rx tx sk sn ns seen rs c { m with st := v :: m.st } n ∧ Keep [sk] H (upd H sk (.lst (m.st.reverse.map V.int ++ [.int v]))) := by
  have q := h.setS (v :: m.st)
  have e : (v :: m.st).reverse.map V.int = m.st.reverse.map V.int ++ [.int v] := by rw [List.reverse_cons, List.map_append]; rfl
  rw [e] at q
  exact ⟨q.1, q.2.1⟩
theorem KAt.pop (h : KAt K C CT H x cd tb tp rx tx sk sn ns seen rs c m n) {v : Int} {r : List Int} (e : m.st = v :: r) : (m.st.reverse.map V.int)[(m.st.reverse.map V.int).length - 1]? = some (.int v) ∧ KAt K C CT (upd H sk (.lst (m.st.reverse.map V.int).dropLast)) x cd tb tp rx tx sk sn ns seen rs c { m with st := r } n ∧ Keep [sk] H (upd H sk (.lst (m.st.reverse.map V.int).dropLast)) := by
  have q := h.setS r
  have e2 : m.st.reverse.map V.int = r.reverse.map V.int ++ [.int v] := by rw [e, List.reverse_cons, List.map_append]; rfl
  have e3 : (m.st.reverse.map V.int).dropLast = r.reverse.map V.int := by rw [e2, List.dropLast_concat]
  rw [← e3] at q
  exact ⟨by rw [e2]; simp, q.1, q.2.1⟩
end
/-- what special runs -/
def IsSp : MI → Prop
  | .back _ => True
  | .unit => True
  | .lot => True
  | .store _ => True
  | .fin => True
  | .e .view => True
  | .e .long => True
  | _ => False
def sp_frinit (C : Addr) : Sp := fun vs H Q _ => ∃ (x dx cd tb tp : Addr), vs = [.ref x, .ref cd, .ref tb, .ref tp] ∧ H x = some (.ins C dx []) ∧
  ∀ sk H', H sk = none → H' sk = some (.lst []) → H' x = some (.ins C dx [("code", .ref cd), ("table", .ref tb), ("tape", .ref tp), ("at", .int 0), ("stack", .ref sk), ("steps", .int 0)]) → Keep [x] H H' → Q .non H'
def sp_special (K : PySem.W.Frag) (C CT : Addr) : Sp := fun vs H Q _ => ∃ (x cd tb tp rx tx sk sn : Addr) (ns : List Str) (seen rs : List Int) (c : List MI) (m m' : MC) (n : Nat) (i : MI), vs = [.ref x, .str (tagM i), .int (numM ns i)] ∧ KAt K C CT H x cd tb tp rx tx sk sn ns seen rs c m n ∧ m.st.length ≤ 100000 ∧
  IsSp i ∧ exec ns seen rs i m = some m' ∧ ∀ H', KAt K C CT H' x cd tb tp rx tx sk sn ns seen rs c m' n → Keep [x, tb, sk, tx] H H' → Q .non H'
def sp_adv (K : PySem.W.Frag) (C CT : Addr) : Sp := fun vs H Q _ => ∃ (x cd tb tp rx tx sk sn : Addr) (ns : List Str) (seen rs : List Int) (c : List MI) (m m' : MC) (n : Nat), vs = [.ref x] ∧ KAt K C CT H x cd tb tp rx tx sk sn ns seen rs c m n ∧ stepM ns seen rs c m = some m' ∧
  ∀ H', KAt K C CT H' x cd tb tp rx tx sk sn ns seen rs c m' (n + 1) → Keep [x, tb, sk, tx] H H' → Q .non H'
section
variable {P : Program} {w : World} {K : PySem.W.Frag} {mg : Str → Option Value} {base : Heap} {C_Tape : Addr} {C_Thinker : Addr} {C_Brain : Addr} {C_Mind : Addr} {C_Frame : Addr} {C_Thinking : Addr} {C_Checker : Addr} {T_EVENTS : Addr} {T_SIGNS : Addr} {T_ROUND_NAMES : Addr} {T_BRAIN_NAMES : Addr} {T_EFFECTS : Addr}
theorem ok_special {f : Addr} {fd : FuncData} (me : Meth K C_Thinking "special" f) (F : C8.Fun K "special" "Thinking.special" s_Thinking_special f fd) (b : Binds K fd ["self", "name", "argument"] []) (T : Txt K mg C_Tape C_Thinker C_Brain C_Mind C_Frame C_Thinking C_Checker T_EVENTS T_SIGNS T_ROUND_NAMES T_BRAIN_NAMES T_EFFECTS) (c_Tape_take : C8.Met P w K mg base 1 C_Tape "take" (sp_take C_Tape) []) : C8.Met P w K mg base 2 C_Thinking "special" (sp_special K C_Thinking C_Tape) [] := by
  refine met0 T.cl_Thinking me F b sc_Thinking_special (fun vs H Q E h => ?_) (fun cdv A outer s H vs Q E hr h => ?_)
  · obtain ⟨x, cd, tb, tp, rx, tx, sk, sn, ns, seen, rs, c, m, m', n, i, rfl, _⟩ := h
    rfl
  · obtain ⟨x, cd, tb, tp, rx, tx, sk, sn, ns, seen, rs, c, m, m', n, i, rfl, hA, hsz, hi, he, k⟩ := h
    refine ⟨_, (pss_one (ps_if (pt_cmpR op_eq (pv 1) pe_str (nomark _))
  (pss_cons (ps_fld (pv 0) (pe_cmpR op_eq (pe_fld (pv 0) rfl) pe_int (nomark _)) rfl)
  (pss_cons (ps_fld (pv 0) (pe_fld (pv 0) rfl) rfl)
  (pss_one (ps_fldaug (pv 0) pe_int in_sub))))
  (pss_one (ps_if (pt_cmpR op_eq (pv 1) pe_str (nomark _))
    (pss_one (ps_fld (pv 0) (pe_op op_sub (pe_op op_sub (pe_fld (pv 0) rfl) pe_int) (pv 2)) rfl))
    (pss_one (ps_if (pt_cmpR op_eq (pv 1) pe_str (nomark _))
      (pss_one (ps_asg (pe_bm0 PySem.F.plainAttrs_list PySem.F.slot_list_pop PySem.F.type_list_pop mt_pop (pe_fld (pv 0) rfl)) (pg_sub (pe_fld (pv 0) rfl) (pv 2) set_list)))
      (pss_one (ps_if (pt_cmpR op_eq (pv 1) pe_str (nomark _))
        (pss_cons (ps_set (i := 3) sc_Thinking_special.nd rfl (by first | exact Or.inl rfl | exact Or.inr rfl) (pe_bm0 PySem.F.plainAttrs_list PySem.F.slot_list_pop PySem.F.type_list_pop mt_pop (pe_fld (pv 0) rfl)))
        (pss_one (ps_expr (pe_bm PySem.F.plainAttrs_list PySem.F.slot_list_append PySem.F.type_list_append mt_append (pe_fld (pv 0) rfl) (pa_cons (pe_ifExp (pt_cmpR op_gt (pv 3) pe_int (nomark _)) (pe_mt c_Tape_take hr (by first | exact Nat.le_refl _ | decide | omega) (pe_fld (pv 0) rfl) (pa_cons (pv 3) pa_nil)) pe_int) pa_nil)))))
        (pss_one (ps_if (pt_cmpR op_eq (pv 1) pe_str (nomark _))
          (pss_cons (ps_set (i := 4) sc_Thinking_special.nd rfl (by first | exact Or.inl rfl | exact Or.inr rfl) (pe_bm0 PySem.F.plainAttrs_list PySem.F.slot_list_pop PySem.F.type_list_pop mt_pop (pe_fld (pv 0) rfl)))
          (pss_one (ps_expr (pe_bm PySem.F.plainAttrs_list PySem.F.slot_list_append PySem.F.type_list_append mt_append (pe_fld (pv 0) rfl) (pa_cons (pe_ifExp (pt_cmpR op_lt (pv 4) (pe_callB call_len_seq (by rfl) T.n_len bo_len (pa_cons (pe_fld (pv 0) rfl) pa_nil)) (nomark _)) (pe_ix ix_tup (pe_fld (pv 0) rfl) (pv 4) (fun _ _ => rfl)) pe_int) pa_nil)))))
          (pss_one (ps_if (pt_cmpR op_eq (pv 1) pe_str (nomark _))
            (pss_one (ps_expr (pe_bm PySem.F.plainAttrs_list PySem.F.slot_list_append PySem.F.type_list_append mt_append (pe_fld (pv 0) rfl) (pa_cons (pe_callB (call_min2 rfl) (by rfl) T.n_min bo_min (pa_cons (pe_callB call_len_seq (by rfl) T.n_len bo_len (pa_cons (pe_fld (pv 0) rfl) pa_nil)) (pa_cons pe_int pa_nil))) pa_nil))))
            (pss_one (ps_fld (pv 0) pe_bl rfl)))))))))))))), ?_⟩
    obtain ⟨dx, ho⟩ := hA.o
    cases i with
    | unit =>
      cases he
      refine ⟨_, rfl, rfl, _, rfl, iteDT rfl ?_⟩
      refine ⟨_, rfl, x, C_Thinking, dx, _, _, rfl, ho, T.cl_Thinking, T.a_Thinking_left, rfl, rfl, _, rfl, x, C_Thinking, dx, _, rfl, ho, T.cl_Thinking, T.a_Thinking_silent, by show 10 < 1000; decide, ?_⟩
      refine ⟨_, rfl, x, C_Thinking, dx, _, _, rfl, upd_same, T.cl_Thinking, T.a_Thinking_silent, rfl, _, rfl, x, C_Thinking, dx, _, rfl, upd_same, T.cl_Thinking, T.a_Thinking_done, by show 10 < 1000; decide, ?_⟩
      refine ⟨_, rfl, x, C_Thinking, dx, _, _, rfl, upd_same, T.cl_Thinking, T.a_Thinking_left, rfl, _, _, rfl, rfl, dx, _, upd_same, by show 10 < 1000; decide, ?_⟩
      rw [upd_upd, upd_upd]
      have q := hA.setO ho { m with silent := decide (V.int m.left = V.int 0), done := decide (V.int m.left = V.int 0), left := m.left - 1 } n rfl rfl rfl
      exact k _ q.1 (q.2.1.mono (by simp))
    | back a =>
      have he' : (if a + 1 ≤ m.at_ then some { m with at_ := m.at_ - 1 - a } else none) = some m' := he
      split at he'
      case isFalse => cases he'
      cases he'
      rename_i hle
      refine ⟨_, rfl, rfl, _, rfl, iteDF (nes (show ("back" : Str) ≠ "unit" by decide +kernel)) ?_⟩
      refine ⟨_, rfl, rfl, _, rfl, iteDT rfl ?_⟩
      refine ⟨_, rfl, x, C_Thinking, dx, _, _, rfl, ho, T.cl_Thinking, T.a_Thinking_at, rfl, _, _, rfl, rfl, _, rfl, _, _, rfl, rfl, _, rfl, x, C_Thinking, dx, _, rfl, ho, T.cl_Thinking, T.a_Thinking_at, by show 10 < 1000; decide, ?_⟩
      have q := hA.setO ho { m with at_ := m.at_ - 1 - a } n rfl rfl rfl
      have e : ((m.at_ - 1 - a : Nat) : Int) = (m.at_ : Int) - 1 - (a : Int) := by omega
      have q1 := q.1
      have q2 := q.2.1
      change KAt K C_Thinking C_Tape (upd H x (.ins C_Thinking dx (thkF cd tb tp sk sn ((m.at_ - 1 - a : Nat) : Int) n m.left m.silent m.done))) x cd tb tp rx tx sk sn ns seen rs c _ n at q1
      change Keep [x] H (upd H x (.ins C_Thinking dx (thkF cd tb tp sk sn ((m.at_ - 1 - a : Nat) : Int) n m.left m.silent m.done))) at q2
      rw [e] at q1 q2
      exact k _ q1 (q2.mono (by simp))
    | fin =>
      cases he
      refine ⟨_, rfl, rfl, _, rfl, iteDF (nes (by decide +kernel)) ?_⟩
      refine ⟨_, rfl, rfl, _, rfl, iteDF (nes (by decide +kernel)) ?_⟩
      refine ⟨_, rfl, rfl, _, rfl, iteDF (nes (by decide +kernel)) ?_⟩
      refine ⟨_, rfl, rfl, _, rfl, iteDF (nes (by decide +kernel)) ?_⟩
      refine ⟨_, rfl, rfl, _, rfl, iteDF (nes (by decide +kernel)) ?_⟩
      refine ⟨_, rfl, rfl, _, rfl, iteDF (nes (by decide +kernel)) ?_⟩
      refine ⟨_, rfl, x, C_Thinking, dx, _, rfl, ho, T.cl_Thinking, T.a_Thinking_done, by show 10 < 1000; decide, ?_⟩
      have q := hA.setO ho { m with done := true } n rfl rfl rfl
      exact k _ q.1 (q.2.1.mono (by simp))
    | store y =>
      cases hst : m.st with
      | nil => have he' : (match m.st with | v :: r => if y ∈ ns ∧ m.cells.length = ns.length then some { m with st := r, cells := m.cells.set (idx ns y) v } else none | [] => none) = some m' := he
               rw [hst] at he'; cases he'
      | cons v r =>
        have he' : (match m.st with | v :: r => if y ∈ ns ∧ m.cells.length = ns.length then some { m with st := r, cells := m.cells.set (idx ns y) v } else none | [] => none) = some m' := he
        rw [hst] at he'
        dsimp only at he'
        split at he'
        case isFalse => cases he'
        cases he'
        rename_i hy
        have hp := hA.pop hst
        have q := hp.2.1.setT (m.cells.set (idx ns y) v)
        have q2 := hp.2.2
        obtain ⟨dx', ho2⟩ := hp.2.1.o
        refine ⟨_, rfl, rfl, _, rfl, iteDF (nes (show ("store" : Str) ≠ "unit" by decide +kernel)) ?_⟩
        refine ⟨_, rfl, rfl, _, rfl, iteDF (nes (show ("store" : Str) ≠ "back" by decide +kernel)) ?_⟩
        refine ⟨_, rfl, rfl, _, rfl, iteDT rfl ?_⟩
        refine ⟨_, rfl, x, C_Thinking, dx, _, _, rfl, ho, T.cl_Thinking, T.a_Thinking_stack, rfl, .inl ⟨rfl, _, SqL.of hA.hsk⟩, sk, _, _, rfl, rfl, hA.hsk, hp.1, ?_⟩
        refine ⟨_, rfl, x, C_Thinking, dx', _, _, rfl, ho2, T.cl_Thinking, T.a_Thinking_table, rfl, _, rfl, tb, _, _, _, rfl, rfl, hp.2.1.htb, ixN_n (by rw [List.length_map, hy.2]; exact idx_lt hy.1), ?_⟩
        have e : ((m.cells.set (idx ns y) v).map V.int) = (m.cells.map V.int).set (idx ns y) (.int v) := by rw [List.map_set]
        rw [e] at q
        exact k _ q.1 ((q2.mono (by simp)).trans (q.2.1.mono (by simp)))
    | lot =>
      cases hst : m.st with
      | nil => have he' : (match m.st with | c :: r => if c < 65536 ∧ m.tk.length ≤ 90000 then some (if c > 0 then { m with st := nextR rs m.tk c :: r, tk := m.tk ++ [(nextR rs m.tk c, c)] } else { m with st := 0 :: r }) else none | [] => none) = some m' := he
               rw [hst] at he'; cases he'
      | cons cc r =>
        have he' : (match m.st with | c :: r => if c < 65536 ∧ m.tk.length ≤ 90000 then some (if c > 0 then { m with st := nextR rs m.tk c :: r, tk := m.tk ++ [(nextR rs m.tk c, c)] } else { m with st := 0 :: r }) else none | [] => none) = some m' := he
        rw [hst] at he'
        dsimp only at he'
        split at he'
        case isFalse => cases he'
        have he2 := Option.some.inj he'
        rename_i hc
        have hp := hA.pop hst
        have q2 := hp.2.2
        have hB := hp.2.1
        obtain ⟨dx', ho2⟩ := hB.o
        refine ⟨_, rfl, rfl, _, rfl, iteDF (nes (by decide +kernel)) ?_⟩
        refine ⟨_, rfl, rfl, _, rfl, iteDF (nes (by decide +kernel)) ?_⟩
        refine ⟨_, rfl, rfl, _, rfl, iteDF (nes (by decide +kernel)) ?_⟩
        refine ⟨_, rfl, rfl, _, rfl, iteDT rfl ?_⟩
        refine ⟨_, rfl, x, C_Thinking, dx, _, _, rfl, ho, T.cl_Thinking, T.a_Thinking_stack, rfl, .inl ⟨rfl, _, SqL.of hA.hsk⟩, sk, _, _, rfl, rfl, hA.hsk, hp.1, ?_⟩
        generalize upd H sk (.lst (m.st.reverse.map V.int).dropLast) = H1 at *
        have hsz' : r.length ≤ 100000 := by rw [hst, List.length_cons] at hsz; omega
        refine ⟨_, rfl, x, C_Thinking, dx', _, _, rfl, ho2, T.cl_Thinking, T.a_Thinking_stack, rfl, .inl ⟨rfl, _, SqL.of hB.hsk⟩, _, rfl, _, _, rfl, rfl, _, rfl, iteD (fun h => ?_) (fun h => ?_)⟩
        · have h' : cc > 0 := h
          rw [if_pos h'] at he2
          obtain ⟨dt, ot⟩ := hB.hta.o
          refine ⟨_, rfl, x, C_Thinking, dx', _, _, rfl, ho2, T.cl_Thinking, T.a_Thinking_tape, rfl, tp, dt, _, rfl, ot, rfl, _, rfl, tp, rx, tx, rs, m.tk, cc, rfl, h', by omega, by omega, hB.hta, fun H2 K2 TA2 => ?_⟩
          have hC := (hB.setK K2 TA2).1
          have q := hC.push (nextR rs m.tk cc)
          refine ⟨sk, _, _, rfl, rfl, hC.hsk, smallL (by rw [List.length_map, List.length_reverse]; show r.length ≤ 1000000; omega), ?_⟩
          rw [he2] at q
          exact k _ q.1 (((q2.mono (by simp)).trans (K2.mono (by simp))).trans (q.2.mono (by simp)))
        · have h' : ¬ cc > 0 := h
          rw [if_neg h'] at he2
          have q := hB.push 0
          refine ⟨sk, _, _, rfl, rfl, hB.hsk, smallL (by rw [List.length_map, List.length_reverse]; show r.length ≤ 1000000; omega), ?_⟩
          rw [he2] at q
          exact k _ q.1 ((q2.mono (by simp)).trans (q.2.mono (by simp)))
    | e i =>
      cases i with
      | view =>
        cases hst : m.st with
        | nil => have he' : (match m.st with | a :: r => if 0 ≤ a then some { m with st := vw seen a :: r } else none | [] => none) = some m' := he
                 rw [hst] at he'; cases he'
        | cons a r =>
          have he' : (match m.st with | a :: r => if 0 ≤ a then some { m with st := vw seen a :: r } else none | [] => none) = some m' := he
          rw [hst] at he'
          dsimp only at he'
          split at he'
          case isFalse => cases he'
          have he2 := Option.some.inj he'
          rename_i ha0
          have hp := hA.pop hst
          have q2 := hp.2.2
          have hB := hp.2.1
          obtain ⟨dx', ho2⟩ := hB.o
          refine ⟨_, rfl, rfl, _, rfl, iteDF (nes (by decide +kernel)) ?_⟩
          refine ⟨_, rfl, rfl, _, rfl, iteDF (nes (by decide +kernel)) ?_⟩
          refine ⟨_, rfl, rfl, _, rfl, iteDF (nes (by decide +kernel)) ?_⟩
          refine ⟨_, rfl, rfl, _, rfl, iteDF (nes (by decide +kernel)) ?_⟩
          refine ⟨_, rfl, rfl, _, rfl, iteDT rfl ?_⟩
          refine ⟨_, rfl, x, C_Thinking, dx, _, _, rfl, ho, T.cl_Thinking, T.a_Thinking_stack, rfl, .inl ⟨rfl, _, SqL.of hA.hsk⟩, sk, _, _, rfl, rfl, hA.hsk, hp.1, ?_⟩
          generalize upd H sk (.lst (m.st.reverse.map V.int).dropLast) = H1 at *
          have hsz' : r.length ≤ 100000 := by rw [hst, List.length_cons] at hsz; omega
          have q := hB.push (vw seen a)
          rw [he2] at q
          refine ⟨_, rfl, x, C_Thinking, dx', _, _, rfl, ho2, T.cl_Thinking, T.a_Thinking_stack, rfl, .inl ⟨rfl, _, SqL.of hB.hsk⟩, _, rfl, _, rfl, x, C_Thinking, dx', _, _, rfl, ho2, T.cl_Thinking, T.a_Thinking_seen, rfl, _, _, rfl, .inr (SqT.of hB.hsn), _, _, rfl, rfl, _, rfl, iteD (fun h => ?_) (fun h => ?_)⟩
          · rw [List.length_map] at h
            have ev : vw seen a = seen.getD a.toNat 0 := by unfold vw; rw [if_pos h]
            refine ⟨_, rfl, x, C_Thinking, dx', _, _, rfl, ho2, T.cl_Thinking, T.a_Thinking_seen, rfl, _, rfl, _, _, _, _, rfl, rfl, SqT.of hB.hsn, seen_at ha0 h, sk, _, _, rfl, rfl, hB.hsk, smallL (by rw [List.length_map, List.length_reverse]; show r.length ≤ 1000000; omega), ?_⟩
            rw [ev] at q
            exact k _ q.1 ((q2.mono (by simp)).trans (q.2.mono (by simp)))
          · rw [List.length_map] at h
            have ev : vw seen a = 0 := by unfold vw; rw [if_neg h]
            refine ⟨sk, _, _, rfl, rfl, hB.hsk, smallL (by rw [List.length_map, List.length_reverse]; show r.length ≤ 1000000; omega), ?_⟩
            rw [ev] at q
            exact k _ q.1 ((q2.mono (by simp)).trans (q.2.mono (by simp)))
      | long =>
        cases he
        refine ⟨_, rfl, rfl, _, rfl, iteDF (nes (by decide +kernel)) ?_⟩
        refine ⟨_, rfl, rfl, _, rfl, iteDF (nes (by decide +kernel)) ?_⟩
        refine ⟨_, rfl, rfl, _, rfl, iteDF (nes (by decide +kernel)) ?_⟩
        refine ⟨_, rfl, rfl, _, rfl, iteDF (nes (by decide +kernel)) ?_⟩
        refine ⟨_, rfl, rfl, _, rfl, iteDF (nes (by decide +kernel)) ?_⟩
        refine ⟨_, rfl, rfl, _, rfl, iteDT rfl ?_⟩
        refine ⟨_, rfl, x, C_Thinking, dx, _, _, rfl, ho, T.cl_Thinking, T.a_Thinking_stack, rfl, .inl ⟨rfl, _, SqL.of hA.hsk⟩, ?_⟩
        refine ⟨_, rfl, x, C_Thinking, dx, _, _, rfl, ho, T.cl_Thinking, T.a_Thinking_seen, rfl, _, _, rfl, .inr (SqT.of hA.hsn), _, _, rfl, sk, _, _, rfl, rfl, hA.hsk, smallL (by rw [List.length_map, List.length_reverse]; omega), ?_⟩
        rw [List.length_map]
        have q := hA.push (if (65535 : Int) < (seen.length : Int) then 65535 else (seen.length : Int))
        exact k _ q.1 (q.2.mono (by simp))
      | push a => exact hi.elim
      | load y => exact hi.elim
      | sign z => exact hi.elim
    | skip a => exact hi.elim
    | jump a => exact hi.elim
end

theorem strs_at {ys : List Str} {i : Nat} {z : Str} (h : ys[i]? = some z) : (ys.map V.str)[i]? = some (.str z) := by rw [List.getElem?_map, h]; rfl
section
variable {P : Program} {w : World} {K : PySem.W.Frag} {mg : Str → Option Value} {base : Heap} {C_Tape : Addr} {C_Thinker : Addr} {C_Brain : Addr} {C_Mind : Addr} {C_Frame : Addr} {C_Thinking : Addr} {C_Checker : Addr} {T_EVENTS : Addr} {T_SIGNS : Addr} {T_ROUND_NAMES : Addr} {T_BRAIN_NAMES : Addr} {T_EFFECTS : Addr}
theorem ok_adv {f : Addr} {fd : FuncData} (me : Meth K C_Thinking "advance" f) (F : C8.Fun K "advance" "Frame.advance" s_Frame_advance f fd) (b : Binds K fd ["self"] []) (T : Txt K mg C_Tape C_Thinker C_Brain C_Mind C_Frame C_Thinking C_Checker T_EVENTS T_SIGNS T_ROUND_NAMES T_BRAIN_NAMES T_EFFECTS) (c_Thinking_special : C8.Met P w K mg base 2 C_Thinking "special" (sp_special K C_Thinking C_Tape) []) (c_combine : C8.Cal P w K mg base 1 "combine" sp_combine []) : C8.Met P w K mg base 3 C_Thinking "advance" (sp_adv K C_Thinking C_Tape) [] := by
  refine met0 T.cl_Thinking me F b sc_Frame_advance (fun vs H Q E h => ?_) (fun cdv A outer s H vs Q E hr h => ?_)
  · obtain ⟨x, cd, tb, tp, rx, tx, sk, sn, ns, seen, rs, c, m, m', n, rfl, _⟩ := h
    rfl
  · obtain ⟨x, cd, tb, tp, rx, tx, sk, sn, ns, seen, rs, c, m, m', n, rfl, hA, hs, k⟩ := h
    refine ⟨_, (pss_cons (ps_asg (pe_ix ix_tup (pe_fld (pv 0) rfl) (pe_fld (pv 0) rfl) (fun _ _ => rfl)) (pg_tup (by rfl) (pgs_cons (pg_name (i := 1) sc_Frame_advance.nd rfl (by first | exact Or.inl rfl | exact Or.inr rfl)) (pgs_cons (pg_name (i := 2) sc_Frame_advance.nd rfl (by first | exact Or.inl rfl | exact Or.inr rfl)) pgs_nil))))
(pss_cons (ps_fldaug (pv 0) pe_int in_add)
(pss_cons (ps_fldaug (pv 0) pe_int in_add)
(pss_one (ps_if (pt_cmpR op_eq (pv 1) pe_str (nomark _))
  (pss_one (ps_expr (pe_bm PySem.F.plainAttrs_list PySem.F.slot_list_append PySem.F.type_list_append mt_append (pe_fld (pv 0) rfl) (pa_cons (pv 2) pa_nil))))
  (pss_one (ps_if (pt_cmpR op_eq (pv 1) pe_str (nomark _))
    (pss_one (ps_expr (pe_bm PySem.F.plainAttrs_list PySem.F.slot_list_append PySem.F.type_list_append mt_append (pe_fld (pv 0) rfl) (pa_cons (pe_ix ix_list (pe_fld (pv 0) rfl) (pv 2) (fun _ _ => rfl)) pa_nil))))
    (pss_one (ps_if (pt_cmpR op_eq (pv 1) pe_str (nomark _))
      (pss_cons (ps_set (i := 3) sc_Frame_advance.nd rfl (by first | exact Or.inl rfl | exact Or.inr rfl) (pe_bm0 PySem.F.plainAttrs_list PySem.F.slot_list_pop PySem.F.type_list_pop mt_pop (pe_fld (pv 0) rfl)))
      (pss_cons (ps_set (i := 4) sc_Frame_advance.nd rfl (by first | exact Or.inl rfl | exact Or.inr rfl) (pe_bm0 PySem.F.plainAttrs_list PySem.F.slot_list_pop PySem.F.type_list_pop mt_pop (pe_fld (pv 0) rfl)))
      (pss_one (ps_expr (pe_bm PySem.F.plainAttrs_list PySem.F.slot_list_append PySem.F.type_list_append mt_append (pe_fld (pv 0) rfl) (pa_cons (pe_c c_combine hr (by first | exact Nat.le_refl _ | decide | omega) rfl (pa_cons (pe_ix ix_tup (pe_gc rfl T.v_SIGNS) (pv 2) (fun _ _ => rfl)) (pa_cons (pv 4) (pa_cons (pv 3) pa_nil)))) pa_nil))))))
      (pss_one (ps_if (pt_cmpR op_eq (pv 1) pe_str (nomark _))
        (pss_one (ps_fldaug (pv 0) (pv 2) in_add))
        (pss_one (ps_if (pt_cmpR op_eq (pv 1) pe_str (nomark _))
          (pss_one (ps_if (pt_cmpR op_eq (pe_bm0 PySem.F.plainAttrs_list PySem.F.slot_list_pop PySem.F.type_list_pop mt_pop (pe_fld (pv 0) rfl)) pe_int (nomark _))
            (pss_one (ps_fldaug (pv 0) (pv 2) in_add))
            pss_nil))
          (pss_one (ps_expr (pe_mt c_Thinking_special hr (by first | exact Nat.le_refl _ | decide | omega) (pv 0) (pa_cons (pv 1) (pa_cons (pv 2) pa_nil)))))))))))))))))), ?_⟩
    obtain ⟨dx, ho⟩ := hA.o
    obtain ⟨ws, hcd, hml⟩ := hA.hcd
    unfold stepM at hs
    split at hs
    case isFalse => cases hs
    rename_i hsz
    cases hi : c[m.at_]? with
    | none => rw [hi] at hs; cases hs
    | some i =>
      rw [hi] at hs
      replace hs : exec ns seen rs i { m with at_ := m.at_ + 1 } = some m' := hs
      obtain ⟨t, hv, hat⟩ := hml.get hi
      refine ⟨_, rfl, x, C_Thinking, dx, _, _, rfl, ho, T.cl_Thinking, T.a_Thinking_code, rfl, _, rfl, x, C_Thinking, dx, _, _, rfl, ho, T.cl_Thinking, T.a_Thinking_at, rfl, _, _, _, _, rfl, rfl, SqT.of hcd, atI_nat hv, t, _, rfl, hat.sq, rfl, _, _, rfl, _, _, rfl, rfl, ?_⟩
      refine ⟨_, rfl, x, C_Thinking, dx, _, _, rfl, ho, T.cl_Thinking, T.a_Thinking_at, rfl, _, _, rfl, rfl, dx, _, ho, by show 10 < 1000; decide, ?_⟩
      refine ⟨_, rfl, x, C_Thinking, dx, _, _, rfl, upd_same, T.cl_Thinking, T.a_Thinking_steps, rfl, _, _, rfl, rfl, dx, _, upd_same, by show 10 < 1000; decide, ?_⟩
      rw [upd_upd]
      have q := hA.setO ho { m with at_ := m.at_ + 1 } (n + 1) rfl rfl rfl
      generalize hG : upd H x _ = H1
      have A1 : KAt K C_Thinking C_Tape H1 x cd tb tp rx tx sk sn ns seen rs c { m with at_ := m.at_ + 1 } (n + 1) := by rw [← hG]; exact q.1
      have K1 : Keep [x] H H1 := by rw [← hG]; exact q.2.1
      obtain ⟨dx1, ho1⟩ := A1.o
      clear q hG
      have hsz1 : ({ m with at_ := m.at_ + 1 } : MC).st.length ≤ 100000 := hsz
      generalize hm1 : ({ m with at_ := m.at_ + 1 } : MC) = m1 at *
      have lz : (m1.st.reverse.map V.int).length < sizeLine := smallL (by rw [List.length_map, List.length_reverse]; omega)
      have fin : ∀ H', KAt K C_Thinking C_Tape H' x cd tb tp rx tx sk sn ns seen rs c m' (n + 1) → Keep [x, tb, sk, tx] H1 H' → Q .non H' := fun H' a kk => k H' a ((K1.mono (by simp)).trans kk)
      have spec : IsSp i → sp_special K C_Thinking C_Tape [.ref x, .str (tagM i), .int (numM ns i)] H1 (fun _ H' => Q .non H') C8.E0 := fun hi => ⟨x, cd, tb, tp, rx, tx, sk, sn, ns, seen, rs, c, m1, m', n + 1, i, rfl, A1, hsz1, hi, hs, fun H2 A2 K2 => fin H2 A2 K2⟩
      cases i with
      | e i =>
        cases i with
        | push a =>
          cases hs
          refine ⟨_, rfl, rfl, _, rfl, iteDT rfl ?_⟩
          have q := A1.push a
          exact ⟨_, rfl, x, C_Thinking, dx1, _, _, rfl, ho1, T.cl_Thinking, T.a_Thinking_stack, rfl, .inl ⟨rfl, _, SqL.of A1.hsk⟩, _, rfl, sk, _, _, rfl, rfl, A1.hsk, lz, fin _ q.1 (q.2.mono (by simp))⟩
        | load y =>
          have hs' : (if y ∈ ns ∧ m1.cells.length = ns.length then some { m1 with st := m1.cells.getD (idx ns y) 0 :: m1.st } else none) = some m' := hs
          split at hs'
          case isFalse => cases hs'
          rename_i hy
          cases hs'
          refine ⟨_, rfl, rfl, _, rfl, iteDF (nes (show ("load" : Str) ≠ "push" by decide +kernel)) ?_⟩
          refine ⟨_, rfl, rfl, _, rfl, iteDT rfl ?_⟩
          have hl : idx ns y < m1.cells.length := by rw [hy.2]; exact idx_lt hy.1
          have hg : (m1.cells.map V.int)[idx ns y]? = some (.int (m1.cells.getD (idx ns y) 0)) := by rw [List.getElem?_map, List.getD_eq_getElem?_getD, List.getElem?_eq_getElem hl]; rfl
          have q := A1.push (m1.cells.getD (idx ns y) 0)
          exact ⟨_, rfl, x, C_Thinking, dx1, _, _, rfl, ho1, T.cl_Thinking, T.a_Thinking_stack, rfl, .inl ⟨rfl, _, SqL.of A1.hsk⟩, _, rfl, x, C_Thinking, dx1, _, _, rfl, ho1, T.cl_Thinking, T.a_Thinking_table, rfl, _, rfl, _, _, _, _, rfl, rfl, SqL.of A1.htb, atI_nat hg, sk, _, _, rfl, rfl, A1.hsk, lz, fin _ q.1 (q.2.mono (by simp))⟩
        | sign z =>
          cases hst : m1.st with
          | nil => have hs' : (match m1.st with | b :: a :: r => if z ∈ sgL ∧ 0 ≤ a ∧ a < 65536 ∧ 0 ≤ b ∧ b < 65536 then some { m1 with st := comb z a b :: r } else none | _ => none) = some m' := hs
                   rw [hst] at hs'; cases hs'
          | cons b2 r0 =>
            cases r0 with
            | nil => have hs' : (match m1.st with | b :: a :: r => if z ∈ sgL ∧ 0 ≤ a ∧ a < 65536 ∧ 0 ≤ b ∧ b < 65536 then some { m1 with st := comb z a b :: r } else none | _ => none) = some m' := hs
                     rw [hst] at hs'; cases hs'
            | cons a2 r =>
              have hs' : (match m1.st with | b :: a :: r => if z ∈ sgL ∧ 0 ≤ a ∧ a < 65536 ∧ 0 ≤ b ∧ b < 65536 then some { m1 with st := comb z a b :: r } else none | _ => none) = some m' := hs
              rw [hst] at hs'
              dsimp only at hs'
              split at hs'
              case isFalse => cases hs'
              rename_i hg
              cases hs'
              obtain ⟨g1, g2, g3, g4, g5⟩ := hg
              refine ⟨_, rfl, rfl, _, rfl, iteDF (nes (show ("sign" : Str) ≠ "push" by decide +kernel)) ?_⟩
              refine ⟨_, rfl, rfl, _, rfl, iteDF (nes (show ("sign" : Str) ≠ "load" by decide +kernel)) ?_⟩
              refine ⟨_, rfl, rfl, _, rfl, iteDT rfl ?_⟩
              have p1 := A1.pop hst
              have p2 := p1.2.1.pop rfl
              have q := p2.2.1.push (comb z a2 b2)
              obtain ⟨dx2, ho2⟩ := p1.2.1.o
              obtain ⟨dx3, ho3⟩ := p2.2.1.o
              refine ⟨_, rfl, x, C_Thinking, dx1, _, _, rfl, ho1, T.cl_Thinking, T.a_Thinking_stack, rfl, .inl ⟨rfl, _, SqL.of A1.hsk⟩, sk, _, _, rfl, rfl, A1.hsk, p1.1, ?_⟩
              refine ⟨_, rfl, x, C_Thinking, dx2, _, _, rfl, ho2, T.cl_Thinking, T.a_Thinking_stack, rfl, .inl ⟨rfl, _, SqL.of p1.2.1.hsk⟩, sk, _, _, rfl, rfl, p1.2.1.hsk, p2.1, ?_⟩
              refine ⟨_, rfl, x, C_Thinking, dx3, _, _, rfl, ho3, T.cl_Thinking, T.a_Thinking_stack, rfl, .inl ⟨rfl, _, SqL.of p2.2.1.hsk⟩, _, rfl, _, _, _, _, rfl, rfl, T.q_SIGNS _, atI_nat (strs_at (idx_get g1).1), _, rfl, _, rfl, z, a2, b2, rfl, g1, g2, g3, g4, g5, ?_⟩
              refine ⟨sk, _, _, rfl, rfl, p2.2.1.hsk, smallL (by rw [List.length_map, List.length_reverse]; show r.length ≤ 1000000; rw [hst, List.length_cons, List.length_cons] at hsz1; omega), fin _ q.1 ?_⟩
              exact ((p1.2.2.mono (by simp)).trans (p2.2.2.mono (by simp))).trans (q.2.mono (by simp))
        | view =>
          refine ⟨_, rfl, rfl, _, rfl, iteDF (nes (show ("view" : Str) ≠ "push" by decide +kernel)) ?_⟩
          refine ⟨_, rfl, rfl, _, rfl, iteDF (nes (show ("view" : Str) ≠ "load" by decide +kernel)) ?_⟩
          refine ⟨_, rfl, rfl, _, rfl, iteDF (nes (show ("view" : Str) ≠ "sign" by decide +kernel)) ?_⟩
          refine ⟨_, rfl, rfl, _, rfl, iteDF (nes (show ("view" : Str) ≠ "jump" by decide +kernel)) ?_⟩
          refine ⟨_, rfl, rfl, _, rfl, iteDF (nes (show ("view" : Str) ≠ "skip" by decide +kernel)) ?_⟩
          exact ⟨_, rfl, x, dx1, _, rfl, ho1, rfl, _, rfl, _, rfl, spec trivial⟩
        | long =>
          refine ⟨_, rfl, rfl, _, rfl, iteDF (nes (show ("long" : Str) ≠ "push" by decide +kernel)) ?_⟩
          refine ⟨_, rfl, rfl, _, rfl, iteDF (nes (show ("long" : Str) ≠ "load" by decide +kernel)) ?_⟩
          refine ⟨_, rfl, rfl, _, rfl, iteDF (nes (show ("long" : Str) ≠ "sign" by decide +kernel)) ?_⟩
          refine ⟨_, rfl, rfl, _, rfl, iteDF (nes (show ("long" : Str) ≠ "jump" by decide +kernel)) ?_⟩
          refine ⟨_, rfl, rfl, _, rfl, iteDF (nes (show ("long" : Str) ≠ "skip" by decide +kernel)) ?_⟩
          exact ⟨_, rfl, x, dx1, _, rfl, ho1, rfl, _, rfl, _, rfl, spec trivial⟩
      | skip a =>
        refine ⟨_, rfl, rfl, _, rfl, iteDF (nes (show ("skip" : Str) ≠ "push" by decide +kernel)) ?_⟩
        refine ⟨_, rfl, rfl, _, rfl, iteDF (nes (show ("skip" : Str) ≠ "load" by decide +kernel)) ?_⟩
        refine ⟨_, rfl, rfl, _, rfl, iteDF (nes (show ("skip" : Str) ≠ "sign" by decide +kernel)) ?_⟩
        refine ⟨_, rfl, rfl, _, rfl, iteDF (nes (show ("skip" : Str) ≠ "jump" by decide +kernel)) ?_⟩
        refine ⟨_, rfl, rfl, _, rfl, iteDT rfl ?_⟩
        cases hst : m1.st with
        | nil => have hs' : (match m1.st with | v :: r => some { m1 with st := r, at_ := if v = 0 then m1.at_ + a else m1.at_ } | [] => none) = some m' := hs
                 rw [hst] at hs'; cases hs'
        | cons v r =>
          have hs' : (match m1.st with | v :: r => some { m1 with st := r, at_ := if v = 0 then m1.at_ + a else m1.at_ } | [] => none) = some m' := hs
          rw [hst] at hs'
          have hs2 := Option.some.inj hs'
          have p1 := A1.pop hst
          obtain ⟨dx2, ho2⟩ := p1.2.1.o
          refine ⟨_, rfl, x, C_Thinking, dx1, _, _, rfl, ho1, T.cl_Thinking, T.a_Thinking_stack, rfl, .inl ⟨rfl, _, SqL.of A1.hsk⟩, sk, _, _, rfl, rfl, A1.hsk, p1.1, rfl, _, rfl, iteD (fun h => ?_) (fun h => ?_)⟩
          · rw [if_pos (V.int.inj h)] at hs2
            refine ⟨_, rfl, x, C_Thinking, dx2, _, _, rfl, ho2, T.cl_Thinking, T.a_Thinking_at, rfl, _, rfl, _, _, rfl, rfl, dx2, _, ho2, by show 10 < 1000; decide, ?_⟩
            have q := p1.2.1.setO ho2 { m1 with st := r, at_ := m1.at_ + a } (n + 1) rfl rfl rfl
            rw [hs2] at q
            rw [← hs2] at q
            refine fin _ (hs2 ▸ q.1) ((p1.2.2.mono (by simp)).trans (q.2.1.mono (by simp)))
          · rw [if_neg (fun z => h (congrArg V.int z))] at hs2
            exact fin _ (hs2 ▸ p1.2.1) (p1.2.2.mono (by simp))
      | jump a =>
        refine ⟨_, rfl, rfl, _, rfl, iteDF (nes (show ("jump" : Str) ≠ "push" by decide +kernel)) ?_⟩
        refine ⟨_, rfl, rfl, _, rfl, iteDF (nes (show ("jump" : Str) ≠ "load" by decide +kernel)) ?_⟩
        refine ⟨_, rfl, rfl, _, rfl, iteDF (nes (show ("jump" : Str) ≠ "sign" by decide +kernel)) ?_⟩
        refine ⟨_, rfl, rfl, _, rfl, iteDT rfl ?_⟩
        cases hs
        refine ⟨_, rfl, x, C_Thinking, dx1, _, _, rfl, ho1, T.cl_Thinking, T.a_Thinking_at, rfl, _, rfl, _, _, rfl, rfl, dx1, _, ho1, by show 10 < 1000; decide, ?_⟩
        have q := A1.setO ho1 { m1 with at_ := m1.at_ + a } (n + 1) rfl rfl rfl
        exact fin _ q.1 (q.2.1.mono (by simp))
      | back a =>
        refine ⟨_, rfl, rfl, _, rfl, iteDF (nes (show ("back" : Str) ≠ "push" by decide +kernel)) ?_⟩
        refine ⟨_, rfl, rfl, _, rfl, iteDF (nes (show ("back" : Str) ≠ "load" by decide +kernel)) ?_⟩
        refine ⟨_, rfl, rfl, _, rfl, iteDF (nes (show ("back" : Str) ≠ "sign" by decide +kernel)) ?_⟩
        refine ⟨_, rfl, rfl, _, rfl, iteDF (nes (show ("back" : Str) ≠ "jump" by decide +kernel)) ?_⟩
        refine ⟨_, rfl, rfl, _, rfl, iteDF (nes (show ("back" : Str) ≠ "skip" by decide +kernel)) ?_⟩
        exact ⟨_, rfl, x, dx1, _, rfl, ho1, rfl, _, rfl, _, rfl, spec trivial⟩
      | unit =>
        refine ⟨_, rfl, rfl, _, rfl, iteDF (nes (show ("unit" : Str) ≠ "push" by decide +kernel)) ?_⟩
        refine ⟨_, rfl, rfl, _, rfl, iteDF (nes (show ("unit" : Str) ≠ "load" by decide +kernel)) ?_⟩
        refine ⟨_, rfl, rfl, _, rfl, iteDF (nes (show ("unit" : Str) ≠ "sign" by decide +kernel)) ?_⟩
        refine ⟨_, rfl, rfl, _, rfl, iteDF (nes (show ("unit" : Str) ≠ "jump" by decide +kernel)) ?_⟩
        refine ⟨_, rfl, rfl, _, rfl, iteDF (nes (show ("unit" : Str) ≠ "skip" by decide +kernel)) ?_⟩
        exact ⟨_, rfl, x, dx1, _, rfl, ho1, rfl, _, rfl, _, rfl, spec trivial⟩
      | lot =>
        refine ⟨_, rfl, rfl, _, rfl, iteDF (nes (show ("lot" : Str) ≠ "push" by decide +kernel)) ?_⟩
        refine ⟨_, rfl, rfl, _, rfl, iteDF (nes (show ("lot" : Str) ≠ "load" by decide +kernel)) ?_⟩
        refine ⟨_, rfl, rfl, _, rfl, iteDF (nes (show ("lot" : Str) ≠ "sign" by decide +kernel)) ?_⟩
        refine ⟨_, rfl, rfl, _, rfl, iteDF (nes (show ("lot" : Str) ≠ "jump" by decide +kernel)) ?_⟩
        refine ⟨_, rfl, rfl, _, rfl, iteDF (nes (show ("lot" : Str) ≠ "skip" by decide +kernel)) ?_⟩
        exact ⟨_, rfl, x, dx1, _, rfl, ho1, rfl, _, rfl, _, rfl, spec trivial⟩
      | store y =>
        refine ⟨_, rfl, rfl, _, rfl, iteDF (nes (show ("store" : Str) ≠ "push" by decide +kernel)) ?_⟩
        refine ⟨_, rfl, rfl, _, rfl, iteDF (nes (show ("store" : Str) ≠ "load" by decide +kernel)) ?_⟩
        refine ⟨_, rfl, rfl, _, rfl, iteDF (nes (show ("store" : Str) ≠ "sign" by decide +kernel)) ?_⟩
        refine ⟨_, rfl, rfl, _, rfl, iteDF (nes (show ("store" : Str) ≠ "jump" by decide +kernel)) ?_⟩
        refine ⟨_, rfl, rfl, _, rfl, iteDF (nes (show ("store" : Str) ≠ "skip" by decide +kernel)) ?_⟩
        exact ⟨_, rfl, x, dx1, _, rfl, ho1, rfl, _, rfl, _, rfl, spec trivial⟩
      | fin =>
        refine ⟨_, rfl, rfl, _, rfl, iteDF (nes (show ("end" : Str) ≠ "push" by decide +kernel)) ?_⟩
        refine ⟨_, rfl, rfl, _, rfl, iteDF (nes (show ("end" : Str) ≠ "load" by decide +kernel)) ?_⟩
        refine ⟨_, rfl, rfl, _, rfl, iteDF (nes (show ("end" : Str) ≠ "sign" by decide +kernel)) ?_⟩
        refine ⟨_, rfl, rfl, _, rfl, iteDF (nes (show ("end" : Str) ≠ "jump" by decide +kernel)) ?_⟩
        refine ⟨_, rfl, rfl, _, rfl, iteDF (nes (show ("end" : Str) ≠ "skip" by decide +kernel)) ?_⟩
        exact ⟨_, rfl, x, dx1, _, rfl, ho1, rfl, _, rfl, _, rfl, spec trivial⟩
end

def mc0 (cs : List Int) (u : Int) (tk : List (Int × Int)) : MC := ⟨0, [], cs, u, false, false, tk⟩
/-- what the machine is told -/
structure MIn (K : PySem.W.Frag) (CM CT : Addr) (H : Hp) (M ca vw tp rx tx cd : Addr) (u : Int) (ns : List Str) (c : List MI) (cs : List Int) (es : List Ev) (rs : List Int) (tk : List (Int × Int)) : Prop where
  m : ∃ ca0 ks, MdA K CM H M u ca0 cd ks ns c
  ca : H ca = some (.tup (cs.map V.int))
  vw : ∃ xs, H vw = some (.tup xs) ∧ Evs H xs es
  eo : EvsOk es
  el : es.length ≤ 10000
  ta : TapeAt CT H tp rx tx rs tk
def sp_tkinit (K : PySem.W.Frag) (C CM CT : Addr) : Sp := fun vs H Q _ => ∃ (x dx M ca vw tp rx tx cd : Addr) (u : Int) (ns : List Str) (c : List MI) (cs : List Int) (es : List Ev) (rs : List Int) (tk : List (Int × Int)), vs = [.ref x, .ref M, .ref ca, .ref vw, .ref tp] ∧ H x = some (.ins C dx []) ∧ MIn K CM CT H M ca vw tp rx tx cd u ns c cs es rs tk ∧ x ≠ tp ∧ M ≠ x ∧
  ∀ tb sk sn H', H tb = none → H sk = none → KAt K C CT H' x cd tb tp rx tx sk sn ns (nums es) rs c (mc0 cs u tk) 0 → Keep [x] H H' → Q .non H'
def sp_tbc (K : PySem.W.Frag) (CM CT : Addr) : Sp := fun vs H Q _ => ∃ (M ca vw tp rx tx cd : Addr) (u : Int) (ns : List Str) (c : List MI) (cs : List Int) (es : List Ev) (rs : List Int) (tk : List (Int × Int)) (count : Int) (N : Nat) (mF : MC), vs = [.ref M, .ref ca, .ref vw, .int count, .ref tp] ∧ MIn K CM CT H M ca vw tp rx tx cd u ns c cs es rs tk ∧
  Pth ns (nums es) rs c N (mc0 cs u tk) mF ∧ mF.done = true ∧ (mF.silent = false → mF.st ≠ []) ∧
  ∀ t ct H', H t = none → H' t = some (.tup [.int (if mF.silent = true then 0 else if mF.st.headD 0 ≥ count then 0 else mF.st.headD 0), .ref ct, .int (N : Nat)]) → H' ct = some (.tup ((if mF.silent = true then cs else mF.cells).map V.int)) → TapeAt CT H' tp rx tx rs mF.tk → Keep [tx] H H' → Q (.ref t) H'
section
variable {P : Program} {w : World} {K : PySem.W.Frag} {mg : Str → Option Value} {base : Heap} {C_Tape : Addr} {C_Thinker : Addr} {C_Brain : Addr} {C_Mind : Addr} {C_Frame : Addr} {C_Thinking : Addr} {C_Checker : Addr} {T_EVENTS : Addr} {T_SIGNS : Addr} {T_ROUND_NAMES : Addr} {T_BRAIN_NAMES : Addr} {T_EFFECTS : Addr}
theorem ok_frinit {f : Addr} {fd : FuncData} (F : C8.Fun K "__init__" "Frame.__init__" s_Frame___init f fd) (T : Txt K mg C_Tape C_Thinker C_Brain C_Mind C_Frame C_Thinking C_Checker T_EVENTS T_SIGNS T_ROUND_NAMES T_BRAIN_NAMES T_EFFECTS) : FnOk P w K mg base C8.CX0 1 f fd ["self", "code", "table", "tape"] (sp_frinit C_Thinking) := by
  refine C8.fn0 F sc_Frame___init (fun vs H Q E h => ?_) (fun cdv A outer s H vs Q E hr h => ?_)
  · obtain ⟨x, dx, cd, tb, tp, rfl, _⟩ := h
    rfl
  · obtain ⟨x, dx, cd, tb, tp, rfl, hx, k⟩ := h
    refine ⟨_, (pss_cons (ps_fld (pv 0) (pv 1) rfl)
(pss_cons (ps_fld (pv 0) (pv 2) rfl)
(pss_cons (ps_fld (pv 0) (pv 3) rfl)
(pss_cons (ps_fld (pv 0) pe_int rfl)
(pss_cons (ps_fld (pv 0) (pe_lst pa_nil) rfl)
(pss_one (ps_fld (pv 0) pe_int rfl))))))), ?_⟩
    have mx : x ∈ [x] := List.mem_singleton.mpr rfl
    refine ⟨_, rfl, _, rfl, x, C_Thinking, dx, [], rfl, hx, T.cl_Thinking, T.a_Thinking_code, by show 0 < 1000; decide, ?_⟩
    refine ⟨_, rfl, _, rfl, x, C_Thinking, dx, _, rfl, upd_same, T.cl_Thinking, T.a_Thinking_table, by show 1 < 1000; decide, ?_⟩
    refine ⟨_, rfl, _, rfl, x, C_Thinking, dx, _, rfl, upd_same, T.cl_Thinking, T.a_Thinking_tape, by show 2 < 1000; decide, ?_⟩
    refine ⟨_, rfl, x, C_Thinking, dx, _, rfl, upd_same, T.cl_Thinking, T.a_Thinking_at, by show 3 < 1000; decide, ?_⟩
    rw [upd_upd, upd_upd, upd_upd]
    refine And.intro (by show 0 ≤ sizeLine; decide) <| fun sk nsk => ?_
    have nx : x ≠ sk := ne_of_none (H := upd H x _) upd_same nsk
    refine ⟨_, rfl, x, C_Thinking, dx, _, rfl, by rw [upd_ne nx]; exact upd_same, T.cl_Thinking, T.a_Thinking_stack, by show 4 < 1000; decide, ?_⟩
    refine ⟨_, rfl, x, C_Thinking, dx, _, rfl, upd_same, T.cl_Thinking, T.a_Thinking_steps, by show 5 < 1000; decide, ?_⟩
    rw [upd_upd]
    have nsk0 : H sk = none := by rw [upd_ne nx.symm] at nsk; exact nsk
    exact k sk _ nsk0 (by rw [upd_ne nx.symm]; exact upd_same) upd_same (((Keep.at_ mx).then_own nsk0).then_at mx)
theorem ok_tkinit {f f0 : Addr} {fd fd0 : FuncData} (M : Mk K C_Thinking f) (F : FunS P K "Thinking.__init__" s_Thinking___init f fd C_Thinking) (b : Binds K fd ["self", "mind", "cells", "view", "tape"] []) (U : SupOk P K mg C_Thinking f0) (F0 : FnOk P w K mg base C8.CX0 1 f0 fd0 ["self", "code", "table", "tape"] (sp_frinit C_Thinking)) (b0 : Binds K fd0 ["self", "code", "table", "tape"] []) (T : Txt K mg C_Tape C_Thinker C_Brain C_Mind C_Frame C_Thinking C_Checker T_EVENTS T_SIGNS T_ROUND_NAMES T_BRAIN_NAMES T_EFFECTS)
    (c_view_numbers : C8.Cal P w K mg base 1 "view_numbers" sp_views []) : C8.Mak P w K mg base 2 "Thinking" C_Thinking (sp_tkinit K C_Thinking C_Mind C_Tape) [] := by
  refine ⟨f, fd, ["self", "mind", "cells", "view", "tape"], [], M, ?_, T.m_Thinking, b, .nil⟩
  refine fn_super (k := 1) F sc_Thinking___init (fun vs H Q E h => ?_) U F0 b0 .nil (Nat.le_refl 1) rfl rfl rfl (by decide +kernel) (by decide +kernel) (fun _ => rfl) (fun _ => rfl) (fun _ => rfl) (fun cdv cc A outer s H vs Q E hr h => ?_)
  · obtain ⟨x, dx, M, ca, vw, tp, rx, tx, cd, u, ns, c, cs, es, rs, tk, rfl, _⟩ := h
    rfl
  · obtain ⟨x, dx, M, ca, vw, tp, rx, tx, cd, u, ns, c, cs, es, rs, tk, rfl, hx, hI, nxt, nMx, k⟩ := h
    refine ⟨_, _, x, dx, [], _, rfl, hx, (pa_cons (pe_fld (pv 1) rfl) (pa_cons (pe_callTy call_list_of (by rfl) T.n_list bo_list (pa_cons (pv 2) pa_nil)) (pa_cons (pv 4) pa_nil))), (pss_cons (ps_fld (pv 0) (pe_fld (pv 1) rfl) rfl)
(pss_cons (ps_fld (pv 0) (pe_c c_view_numbers hr (by first | exact Nat.le_refl _ | decide | omega) rfl (pa_cons (pv 3) pa_nil)) rfl)
(pss_cons (ps_fld (pv 0) pe_bl rfl)
(pss_one (ps_fld (pv 0) pe_bl rfl))))), fun q nq => ?_⟩
    obtain ⟨ca0, ks, ⟨dM, oM⟩, hca0, ws, hcd, hml⟩ := id hI.m
    obtain ⟨xs, hvw, hE⟩ := hI.vw
    have kq : Keep [] H (upd H q (.met f0 x)) := Keep.new nq
    refine ⟨_, rfl, M, C_Mind, dM, _, _, rfl, kq _ _ oM (by simp), T.cl_Mind, T.a_Mind_code, rfl, _, rfl, _, _, rfl, .inr (SqT.of (kq _ _ hI.ca (by simp))), fun tb ntb => ⟨_, rfl, ?_⟩⟩
    have k1 : Keep [] H (upd (upd H q (.met f0 x)) tb (.lst (cs.map V.int))) := kq.then_new ntb
    have hq1 : upd (upd H q (.met f0 x)) tb (.lst (cs.map V.int)) q = some (.met f0 x) := Keep.new (W := []) ntb _ _ upd_same (by simp)
    refine ⟨hq1, x, dx, cd, tb, tp, rfl, k1 _ _ hx (by simp), fun sk H2 nsk hsk hx2 K2 => ?_⟩
    have ntb0 : H tb = none := kq.free ntb
    have nsk0 : H sk = none := k1.free nsk
    have htb2 : H2 tb = some (.lst (cs.map V.int)) := K2 _ _ upd_same (by have := ne_of_none hx ntb0; simpa using this.symm)
    have ntk : tb ≠ sk := ne_of_none (H := upd (upd H q (.met f0 x)) tb (.lst (cs.map V.int))) upd_same nsk
    have K02 : Keep [x] H H2 := (k1.mono (by simp)).trans K2
    have tk02 : TK H H2 := fun b zs e => K02 _ _ e (by have := ne_of e hx (by intro z; cases z); simpa using this)
    have mx : x ∈ [x] := List.mem_singleton.mpr rfl
    have oM2 := K02 _ _ oM (by simpa using nMx)
    refine ⟨_, rfl, M, C_Mind, dM, _, _, rfl, oM2, T.cl_Mind, T.a_Mind_units, rfl, _, rfl, x, C_Thinking, dx, _, rfl, hx2, T.cl_Thinking, T.a_Thinking_left, by show 6 < 1000; decide, ?_⟩
    generalize hH3 : upd H2 x _ = H3
    have hx3 : H3 x = some (.ins C_Thinking dx [("code", .ref cd), ("table", .ref tb), ("tape", .ref tp), ("at", .int 0), ("stack", .ref sk), ("steps", .int 0), ("left", .int u)]) := by rw [← hH3]; exact upd_same
    have K23 : Keep [x] H2 H3 := by rw [← hH3]; exact Keep.at_ mx
    have K03 := K02.trans K23
    have tk03 : TK H H3 := fun b zs e => K03 _ _ e (by have := ne_of e hx (by intro z; cases z); simpa using this)
    refine ⟨_, rfl, vw, xs, es, rfl, tk03 _ _ hvw, hE.tk tk03, hI.eo, hI.el, fun sn H4 nsn hsn K4 => ⟨_, rfl, x, C_Thinking, dx, _, rfl, K4 _ _ hx3 (by simp), T.cl_Thinking, T.a_Thinking_seen, by show 7 < 1000; decide, ?_⟩⟩
    refine ⟨_, rfl, x, C_Thinking, dx, _, rfl, upd_same, T.cl_Thinking, T.a_Thinking_silent, by show 8 < 1000; decide, ?_⟩
    refine ⟨_, rfl, x, C_Thinking, dx, _, rfl, upd_same, T.cl_Thinking, T.a_Thinking_done, by show 9 < 1000; decide, ?_⟩
    rw [upd_upd, upd_upd]
    have K04 := K03.trans (K4.mono (by simp))
    have ex : ∀ {a : Addr} {o : HO}, H4 a = some o → (∀ d gs, o ≠ .ins C_Thinking d gs) → ∀ u, upd H4 x u a = some o := fun h1 h2 u => by
      rw [upd_ne (fun z => by rw [z, K4 _ _ hx3 (by simp)] at h1; exact h2 _ _ (Option.some.inj h1).symm)]; exact h1
    have htb4 := K4 _ _ (K23 _ _ htb2 (by have := ne_of_none hx ntb0; simpa using this.symm)) (by simp)
    have hsk4 := K4 _ _ (K23 _ _ hsk (by have := ne_of_none hx nsk0; simpa using this.symm)) (by simp)
    generalize hH5 : upd H4 x _ = H5
    have K45 : Keep [x] H4 H5 := by rw [← hH5]; exact Keep.at_ mx
    have K05 := K04.trans K45
    have tk05 : TK H H5 := fun b zs e => K05 _ _ e (by have := ne_of e hx (by intro z; cases z); simpa using this)
    have tk45 : TK H4 H5 := fun b zs e => by rw [← hH5]; exact ex e (by intro _ _ z; cases z) _
    obtain ⟨ys, ty, _⟩ := hI.ta.t
    obtain ⟨dt, ot⟩ := hI.ta.o
    refine k tb sk sn _ ntb0 nsk0 ⟨⟨dx, by rw [← hH5]; exact upd_same⟩, ⟨ws, tk05 _ _ hcd, hml.tk tk05⟩, ?_, ?_, tk45 _ _ hsn, ?_, ntk, ?_, ?_, ?_, ?_, nxt⟩ K05
    · rw [← hH5]; exact ex htb4 (by intro _ _ z; cases z) _
    · rw [← hH5]; exact ex hsk4 (by intro _ _ z; cases z) _
    · refine hI.ta.keep K05 tk05 (by simpa using nxt.symm) ?_ ?_
      · have := ne_of hI.ta.r hx (by intro z; cases z); simpa using this
      · have := ne_of ty hx (by intro z; cases z); simpa using this
    · exact (ne_of_none hI.ta.r ntb0).symm
    · exact (ne_of_none ty ntb0).symm
    · exact (ne_of_none hI.ta.r nsk0).symm
    · exact (ne_of_none ty nsk0).symm
theorem ok_tbc {f : Addr} {fd : FuncData} (D : C8.Def K mg "think_by_code" s_think_by_code f fd) (b : Binds K fd ["mind", "cells", "view", "count", "tape"] []) (T : Txt K mg C_Tape C_Thinker C_Brain C_Mind C_Frame C_Thinking C_Checker T_EVENTS T_SIGNS T_ROUND_NAMES T_BRAIN_NAMES T_EFFECTS) (c_Thinking : C8.Mak P w K mg base 2 "Thinking" C_Thinking (sp_tkinit K C_Thinking C_Mind C_Tape) []) (c_Thinking_advance : C8.Met P w K mg base 3 C_Thinking "advance" (sp_adv K C_Thinking C_Tape) []) : C8.Cal P w K mg base 4 "think_by_code" (sp_tbc K C_Mind C_Tape) [] := by
  refine cal0 D b .nil sc_think_by_code (fun vs H Q E h => ?_) (fun cdv A outer s H vs Q E hr h => ?_)
  · obtain ⟨M, ca, vw, tp, rx, tx, cd, u, ns, c, cs, es, rs, tk, count, N, mF, rfl, _⟩ := h
    rfl
  · obtain ⟨M, ca, vw, tp, rx, tx, cd, u, ns, c, cs, es, rs, tk, count, N, mF, rfl, hI, hP, hdone, hne, k⟩ := h
    refine ⟨_, (pss_cons (ps_set (i := 5) sc_think_by_code.nd rfl (by first | exact Or.inl rfl | exact Or.inr rfl) (pe_mk c_Thinking hr (by first | exact Nat.le_refl _ | decide | omega) rfl (pa_cons (pv 0) (pa_cons (pv 1) (pa_cons (pv 2) (pa_cons (pv 4) pa_nil))))))
(pss_cons (ps_while PassesOwn.never (pt_not (pt_truth (pe_fld (pv 5) rfl) (by intro _; rfl)))
  (pss_one (ps_expr (pe_mt0 c_Thinking_advance hr (by first | exact Nat.le_refl _ | decide | omega) (pv 5)))))
(pss_cons (ps_if (pt_truth (pe_fld (pv 5) rfl) (by intro _; rfl))
  (pss_one (ps_ret (pe_tup (pa_cons pe_int (pa_cons (pe_callTy call_tuple_of (by rfl) T.n_tuple bo_tuple (pa_cons (pv 1) pa_nil)) (pa_cons (pe_fld (pv 5) rfl) pa_nil))))))
  pss_nil)
(pss_cons (ps_set (i := 6) sc_think_by_code.nd rfl (by first | exact Or.inl rfl | exact Or.inr rfl) (pe_bm0 PySem.F.plainAttrs_list PySem.F.slot_list_pop PySem.F.type_list_pop mt_pop (pe_fld (pv 5) rfl)))
(pss_cons (ps_if (pt_cmpR op_ge (pv 6) (pv 3) (nomark _))
  (pss_one (ps_set (i := 6) sc_think_by_code.nd rfl (by first | exact Or.inl rfl | exact Or.inr rfl) pe_int))
  pss_nil)
(pss_one (ps_ret (pe_tup (pa_cons (pv 6) (pa_cons (pe_callTy call_tuple_of (by rfl) T.n_tuple bo_tuple (pa_cons (pe_fld (pv 5) rfl) pa_nil)) (pa_cons (pe_fld (pv 5) rfl) pa_nil))))))))))), ?_⟩
    obtain ⟨ca0, ks, ⟨dM, oM⟩, hca0, ws, hcd, hml⟩ := id hI.m
    obtain ⟨xs, hvw, hE⟩ := id hI.vw
    obtain ⟨dt, ot⟩ := hI.ta.o
    obtain ⟨ys, ty, _⟩ := id hI.ta.t
    refine ⟨_, rfl, _, rfl, _, rfl, _, rfl, fun x dx nx nd ne => ?_⟩
    have km : Keep [] H (upd (upd H dx (.own x)) x (.ins C_Thinking dx [])) := Keep.made nx nd
    refine ⟨x, dx, M, ca, vw, tp, rx, tx, cd, u, ns, c, cs, es, rs, tk, rfl, upd_same, ⟨⟨ca0, ks, ⟨dM, km _ _ oM (by simp)⟩, km _ _ hca0 (by simp), ws, km _ _ hcd (by simp), hml.tk km.tk⟩, km _ _ hI.ca (by simp), ⟨xs, km _ _ hvw (by simp), hE.tk km.tk⟩, hI.eo, hI.el, hI.ta.keep km km.tk (by simp) (by simp) (by simp)⟩, (ne_of_none ot nx).symm, ne_of_none oM nx, fun tb sk sn H1 ntb nsk A1 K1 => ⟨rfl, ?_⟩⟩
    have k01 : Keep [] H H1 := keep_made nx nd K1
    have ntb0 := km.free ntb
    have nsk0 := km.free nsk
    have lose : ∀ {H2 : Hp}, Keep [x, tb, sk, tx] H1 H2 → Keep [tx] H H2 := fun K2 a o h w => K2 _ _ (k01 _ _ h (by simp)) (by
      have h1 := ne_of_none h nx
      have h2 := ne_of_none h ntb0
      have h3 := ne_of_none h nsk0
      have h4 : a ≠ tx := by simpa using w
      simp [h1, h2, h3, h4])
    refine ⟨fun n σ H' => ∃ (m : MC) (j : Nat), σ = [some (.ref M), some (.ref ca), some (.ref vw), some (.int count), some (.ref tp), some (.ref x), none] ∧ KAt K C_Thinking C_Tape H' x cd tb tp rx tx sk sn ns (nums es) rs c m j ∧ Pth ns (nums es) rs c n m mF ∧ j + n = N ∧ Keep [x, tb, sk, tx] H1 H', ⟨N, _, 0, rfl, A1, hP, by omega, Keep.refl _ _⟩, ?_⟩
    rintro n σ H2 ⟨m, j, rfl, A2, P2, hj, K2⟩
    obtain ⟨dx2, ho2⟩ := A2.o
    cases P2 with
    | step hd hs P3 =>
      refine ⟨_, rfl, x, C_Thinking, dx2, _, _, rfl, ho2, T.cl_Thinking, T.a_Thinking_done, rfl, false, hd.symm, iteT ⟨_, fun _ _ z => z, ?_⟩⟩
      exact ⟨_, rfl, x, dx2, _, rfl, ho2, rfl, x, cd, tb, tp, rx, tx, sk, sn, ns, nums es, rs, c, m, _, j, rfl, A2, hs, fun H3 A3 K3 => ⟨_, Nat.lt_succ_self _, _, j + 1, rfl, A3, P3, by omega, K2.trans K3⟩⟩
    | refl _ =>
      refine ⟨_, rfl, x, C_Thinking, dx2, _, _, rfl, ho2, T.cl_Thinking, T.a_Thinking_done, rfl, true, hdone.symm, iteF ?_⟩
      have ej : j = N := hj
      subst ej
      have kx := lose K2
      have hca2 := kx _ _ hI.ca (by have := ne_of hI.ca ty (by intro z; cases z); simpa using this)
      cases hsi : mF.silent with
      | true =>
        refine ⟨_, rfl, x, C_Thinking, dx2, _, _, rfl, ho2, T.cl_Thinking, T.a_Thinking_silent, rfl, true, hsi.symm, iteT ?_⟩
        refine ⟨_, rfl, _, _, rfl, .inr ⟨SqT.of hca2, _, rfl, x, C_Thinking, dx2, _, _, rfl, ho2, T.cl_Thinking, T.a_Thinking_steps, rfl, by show 3 ≤ sizeLine; decide, fun t nt => ?_⟩⟩
        have kt : Keep [] H2 (upd H2 t (.tup [.int 0, .ref ca, .int (j : Nat)])) := Keep.new nt
        rw [hsi] at k
        obtain ⟨ws2, w1, _⟩ := id A2.hta.t
        exact k t ca _ (kx.free1 w1 nt) upd_same (kt _ _ hca2 (by simp)) (A2.hta.keep kt kt.tk (by simp) (by simp) (by simp)) (kx.trans (kt.mono (by simp)))
      | false =>
        rw [hsi] at k
        refine ⟨_, rfl, x, C_Thinking, dx2, _, _, rfl, ho2, T.cl_Thinking, T.a_Thinking_silent, rfl, false, hsi.symm, iteF ?_⟩
        obtain ⟨v, r, hst⟩ : ∃ v r, mF.st = v :: r := by
          cases e : mF.st with
          | nil => exact absurd e (hne hsi)
          | cons v r => exact ⟨v, r, rfl⟩
        have p1 := A2.pop hst
        rw [hst] at k
        refine ⟨_, rfl, x, C_Thinking, dx2, _, _, rfl, ho2, T.cl_Thinking, T.a_Thinking_stack, rfl, .inl ⟨rfl, _, SqL.of A2.hsk⟩, sk, _, _, rfl, rfl, A2.hsk, p1.1, ?_⟩
        have K3 : Keep [x, tb, sk, tx] H1 (upd H2 sk (.lst (mF.st.reverse.map V.int).dropLast)) := K2.trans (p1.2.2.mono (by simp))
        have A3 := p1.2.1
        generalize upd H2 sk (.lst (mF.st.reverse.map V.int).dropLast) = H3 at *
        have kx3 := lose K3
        obtain ⟨dx3, ho3⟩ := A3.o
        obtain ⟨ws2, w1, _⟩ := id A3.hta.t
        have fin : ∀ (z : Int), z = (if v ≥ count then 0 else v) → ∀ l, H3 l = none → ∀ t, upd H3 l (.tup (mF.cells.map V.int)) t = none → Q (.ref t) (upd (upd H3 l (.tup (mF.cells.map V.int))) t (.tup [.int z, .ref l, .int (j : Nat)])) := by
          intro z hz l nl t nt
          have k6 : Keep [] H3 (upd H3 l (.tup (mF.cells.map V.int))) := Keep.new nl
          have k7 := k6.then_new (o := .tup [.int z, .ref l, .int (j : Nat)]) nt
          subst hz
          exact k t l _ (kx3.free1 w1 (k6.free nt)) upd_same (Keep.new (W := []) nt _ _ upd_same (by simp)) (A3.hta.keep k7 k7.tk (by simp) (by simp) (by simp)) (kx3.trans (k7.mono (by simp)))
        refine ⟨_, rfl, _, rfl, _, _, rfl, rfl, _, rfl, iteD (fun h => ?_) (fun h => ?_)⟩
        · have h' : v ≥ count := h
          refine ⟨_, rfl, _, rfl, x, C_Thinking, dx3, _, _, rfl, ho3, T.cl_Thinking, T.a_Thinking_table, rfl, _, _, rfl, .inl ⟨SqL.of A3.htb, fun l nl => ?_⟩⟩
          refine ⟨_, rfl, x, C_Thinking, dx3, _, _, rfl, Keep.new (W := []) nl _ _ ho3 (by simp), T.cl_Thinking, T.a_Thinking_steps, rfl, by show 3 ≤ sizeLine; decide, fun t nt => ?_⟩
          exact fin 0 (by rw [if_pos h']) l nl t nt
        · have h' : ¬ v ≥ count := h
          refine ⟨_, rfl, _, rfl, x, C_Thinking, dx3, _, _, rfl, ho3, T.cl_Thinking, T.a_Thinking_table, rfl, _, _, rfl, .inl ⟨SqL.of A3.htb, fun l nl => ?_⟩⟩
          refine ⟨_, rfl, x, C_Thinking, dx3, _, _, rfl, Keep.new (W := []) nl _ _ ho3 (by simp), T.cl_Thinking, T.a_Thinking_steps, rfl, by show 3 ≤ sizeLine; decide, fun t nt => ?_⟩
          exact fin v (by rw [if_neg h']) l nl t nt
end

/-! what is spent bounds the code -/
theorem ec_op (s : Str) (l r : Ex) : (ec (.op s l r)).length = (ec l).length + (ec r).length + 1 := by
  show ((code offs l ++ code offs r ++ [Ins.sign s]).map MI.e).length = _
  unfold ec
  simp only [List.length_map, List.length_append, List.length_cons, List.length_nil]
theorem ec_view (e : Ex) : (ec (.view e)).length = (ec e).length + 1 := by
  show ((code offs e ++ [Ins.view]).map MI.e).length = _
  unfold ec
  simp only [List.length_map, List.length_append, List.length_cons, List.length_nil]
theorem cB_app : ∀ b c : Bl, cB (b.app c) = cB b ++ cB c
  | .nil, c => rfl
  | .cons t b, c => by
    show cT t ++ cB (b.app c) = (cT t ++ cB b) ++ cB c
    rw [cB_app b c, List.append_assoc]
theorem c1_len (t : Th) : (cB (.cons t .nil)).length = (cT t).length := by
  show (cT t ++ []).length = _
  rw [List.append_nil]
theorem ct_set (x : Str) (e : Ex) : (cT (.set x e)).length = (ec e).length + 2 := by
  show (MI.unit :: (ec e ++ [.store x])).length = _
  simp
theorem ct_lot (x : Str) (e : Ex) : (cT (.lot x e)).length = (ec e).length + 3 := by
  show (MI.unit :: (ec e ++ [.lot, .store x])).length = _
  simp
theorem ct_whl (t : Ex) (b : Bl) : (cT (.whl t b)).length = (ec t).length + (cB b).length + 3 := by
  show (MI.unit :: (ec t ++ (.skip ((cB b).length + 1) :: (cB b ++ [.back ((ec t).length + (cB b).length + 2)])))).length = _
  simp; omega
theorem ct_iff (t : Ex) (a b : Bl) : (cT (.iff t a b)).length ≤ (ec t).length + (cB a).length + (cB b).length + 3 := by
  show (MI.unit :: brn (ec t) (cB a) (cB b)).length ≤ _
  unfold brn
  split
  · simp; omega
  · simp; omega
def sp_expr (K : PySem.W.Frag) (n : Nat) : Sp := fun vs H Q _ => ∃ (p q la : Addr) (ns : PoolT) (xs : List Str) (d : Int), vs = [.ref p, .ref la, .int d] ∧ 1 ≤ d ∧ d.toNat ≤ n ∧ Pool H p q ns ∧
  H la = some (.lst (xs.map V.str)) ∧ la ≠ p ∧ xs.length ≤ 1000 ∧
  ∀ r e H' m, EV K H' r e → e.Ok xs [] → e.dep ≤ d.toNat → (ec e).length + 4 * m.toNat ≤ 1 + 4 * ns.2.toNat → Pool H' p q (ns.1, m) → Keep [p] H H' → Q r H'
theorem empty_ne {ys : List Str} (e : (!(ys.map V.str).isEmpty) = true) : 0 < ys.length := by
  cases ys with
  | nil => simp at e
  | cons a r => exact Nat.succ_pos _
theorem sg_at : ∀ m, m < 8 → ∃ s, s ∈ sgL ∧ ([.str "+", .str "-", .str "*", .str "/", .str "mod", .str "<", .str "=", .str "+"] : List V)[m]? = some (.str s)
  | 0, _ => ⟨_, by decide +kernel, rfl⟩
  | 1, _ => ⟨_, by decide +kernel, rfl⟩
  | 2, _ => ⟨_, by decide +kernel, rfl⟩
  | 3, _ => ⟨_, by decide +kernel, rfl⟩
  | 4, _ => ⟨_, by decide +kernel, rfl⟩
  | 5, _ => ⟨_, by decide +kernel, rfl⟩
  | 6, _ => ⟨_, by decide +kernel, rfl⟩
  | 7, _ => ⟨_, by decide +kernel, rfl⟩
section
variable {P : Program} {w : World} {K : PySem.W.Frag} {mg : Str → Option Value} {base : Heap} {C_Tape : Addr} {C_Thinker : Addr} {C_Brain : Addr} {C_Mind : Addr} {C_Frame : Addr} {C_Thinking : Addr} {C_Checker : Addr} {T_EVENTS : Addr} {T_SIGNS : Addr} {T_ROUND_NAMES : Addr} {T_BRAIN_NAMES : Addr} {T_EFFECTS : Addr}
theorem ok_law_expr0 {f : Addr} {fd : FuncData} (D : C8.Def K mg "_law_expression" s_law_expression f fd) (b : Binds K fd ["pool", "names", "deep"] []) : C8.Cal P w K mg base 3 "_law_expression" (sp_expr K 0) [] :=
  ⟨f, fd, ["pool", "names", "deep"], [], ⟨fun vs H Q E h => (by obtain ⟨p, q, la, ns, xs, d, rfl, _⟩ := h; rfl), fun A outer s H args us vs Q E _ _ _ _ h => (by obtain ⟨p, q, la, ns, xs, d, _, h1, h2, _⟩ := h; omega)⟩, D.mgf, D.kp, b, .nil⟩
theorem ok_law_expr {f : Addr} {fd : FuncData} (D : C8.Def K mg "_law_expression" s_law_expression f fd) (b : Binds K fd ["pool", "names", "deep"] []) (T : Txt K mg C_Tape C_Thinker C_Brain C_Mind C_Frame C_Thinking C_Checker T_EVENTS T_SIGNS T_ROUND_NAMES T_BRAIN_NAMES T_EFFECTS) {n k : Nat} (c_law_expression : C8.Cal P w K mg base k "_law_expression" (sp_expr K n) [])
    (c_law_draw : C8.Cal P w K mg base k "_law_draw" sp_law_draw []) (c_law_spend : C8.Cal P w K mg base k "_law_spend" sp_law_spend []) (c_law_number : C8.Cal P w K mg base k "_law_number" sp_law_number []) :
    C8.Cal P w K mg base (k + 1) "_law_expression" (sp_expr K (n + 1)) [] := by
  refine cal0 D b .nil sc_law_expression (fun vs H Q E h => ?_) (fun cdv A outer s H vs Q E hr h => ?_)
  · obtain ⟨p, q, la, ns, xs, d, rfl, _⟩ := h
    rfl
  · obtain ⟨p, q, la, ns, xs, d, rfl, d1, dn, hP, ha, nla, hxl, k⟩ := h
    refine ⟨_, (pss_cons (ps_set (i := 3) sc_law_expression.nd rfl (by first | exact Or.inl rfl | exact Or.inr rfl) (pe_c c_law_draw hr (by first | exact Nat.le_refl _ | decide | omega) rfl (pa_cons (pv 0) (pa_cons pe_int pa_nil))))
(pss_cut (ps_if (PW.pt (pw_and (pt_cmpR op_gt (pv 2) pe_int (nomark _)) (pw_and (pt_cmpR op_lt (pv 3) pe_int (nomark _)) (pw_and1 (pt_val (pe_c c_law_spend hr (by first | exact Nat.le_refl _ | decide | omega) rfl (pa_cons (pv 0) pa_nil)))))))
  (pss_cons (ps_if (pt_cmpR op_gt (pv 3) pe_int (nomark _))
    (pss_one (ps_ret (pe_tup (pa_cons pe_str (pa_cons (pe_c c_law_expression hr (by first | exact Nat.le_refl _ | decide | omega) rfl (pa_cons (pv 0) (pa_cons (pv 1) (pa_cons (pe_op op_sub (pv 2) pe_int) pa_nil)))) pa_nil)))))
    pss_nil)
  (pss_cons (ps_set (i := 4) sc_law_expression.nd rfl (by first | exact Or.inl rfl | exact Or.inr rfl) (pe_ix ix_tup (pe_tup (pa_cons pe_str (pa_cons pe_str (pa_cons pe_str (pa_cons pe_str (pa_cons pe_str (pa_cons pe_str (pa_cons pe_str (pa_cons pe_str pa_nil))))))))) (pv 3) (fun _ _ => rfl)))
  (pss_cons (ps_set (i := 5) sc_law_expression.nd rfl (by first | exact Or.inl rfl | exact Or.inr rfl) (pe_c c_law_expression hr (by first | exact Nat.le_refl _ | decide | omega) rfl (pa_cons (pv 0) (pa_cons (pv 1) (pa_cons (pe_op op_sub (pv 2) pe_int) pa_nil)))))
  (pss_one (ps_ret (pe_tup (pa_cons (pv 4) (pa_cons (pv 5) (pa_cons (pe_c c_law_expression hr (by first | exact Nat.le_refl _ | decide | omega) rfl (pa_cons (pv 0) (pa_cons (pv 1) (pa_cons (pe_op op_sub (pv 2) pe_int) pa_nil)))) pa_nil)))))))))
  pss_nil)
(pss_cons (ps_if (pt_cmpR op_eq (pv 3) pe_int (nomark _))
  (pss_one (ps_ret (pe_tup (pa_cons pe_str pa_nil))))
  pss_nil)
(pss_cut (ps_if (PW.pt (pw_and (pt_truth (pv 1) (by intro _; rfl)) (pw_and1 (pt_cmpR op_eq (pe_op op_mod (pe_callTy call_int1 (by rfl) T.n_int bo_int (pa_cons (pv 3) pa_nil)) pe_int) pe_int (nomark _)))))
  (pss_one (ps_ret (pe_tup (pa_cons pe_str (pa_cons (pe_ix ix_list (pv 1) (pe_c c_law_draw hr (by first | exact Nat.le_refl _ | decide | omega) rfl (pa_cons (pv 0) (pa_cons (pe_callB call_len_seq (by rfl) T.n_len bo_len (pa_cons (pv 1) pa_nil)) pa_nil))) (fun _ _ => rfl)) pa_nil)))))
  pss_nil)
(pss_one (ps_ret (pe_tup (pa_cons pe_str (pa_cons (pe_c c_law_number hr (by first | exact Nat.le_refl _ | decide | omega) rfl (pa_cons (pv 0) pa_nil)) pa_nil))))))))), ?_⟩
    -- one part of it
    have sub : ∀ {H1 : Hp} {R : VK} {E1 : XK} {m1 : Int}, 1 < d → Pool H1 p q (ns.1, m1) → Keep [p] H H1 → (∀ r e H' m, EV K H' r e → e.Ok xs [] → e.dep ≤ (d - 1).toNat → (ec e).length + 4 * m.toNat ≤ 1 + 4 * m1.toNat → Pool H' p q (ns.1, m) → Keep [p] H1 H' → R r H') → sp_expr K n [.ref p, .ref la, .int (d - 1)] H1 R E1 :=
      fun {_ _ _ m1} hd P1 K1 g => ⟨p, q, la, (ns.1, m1), xs, d - 1, rfl, by omega, by omega, P1, K1 _ _ ha (by simpa using nla), nla, hxl, g⟩
    have Ha : ∀ {H1 : Hp}, Keep [p] H H1 → H1 la = some (.lst (xs.map V.str)) := fun K1 => K1 _ _ ha (by simpa using nla)
    refine ⟨_, rfl, p, q, ns, 14, rfl, by decide, by decide, hP, fun kind H1 r0 r1 P1 K1 => ?_⟩
    refine ⟨fun σ H' => ∃ m : Int, σ = [some (.ref p), some (.ref la), some (.int d), some (.int kind), none, none] ∧ m.toNat ≤ ns.2.toNat ∧ Pool H' p q (ns.1, m) ∧ Keep [p] H H', ?_, ?_⟩
    · refine ⟨_, rfl, _, _, rfl, rfl, _, rfl, iteD (fun hd => ?_) (fun hd => ⟨ns.2, rfl, Nat.le_refl _, P1, K1⟩)⟩
      refine ⟨_, rfl, _, _, rfl, rfl, _, rfl, iteD (fun hk => ?_) (fun hk => ⟨ns.2, rfl, Nat.le_refl _, P1, K1⟩)⟩
      refine ⟨_, rfl, p, q, ns, rfl, P1, fun H2 P2 K2 => ⟨_, rfl, iteB (fun eb => ?_) (fun eb => ⟨_, rfl, by omega, P2, K1.trans K2⟩)⟩⟩
      have eb : ns.2 - 1 ≥ 0 := of_decide_eq_true eb
      have K2' := K1.trans K2
      refine ⟨_, rfl, _, _, rfl, rfl, _, rfl, iteD (fun _ => ?_) (fun hk8 => ?_)⟩
      · -- view
        refine ⟨_, rfl, _, rfl, _, rfl, _, _, rfl, rfl, sub (E1 := E) hd P2 K2' fun r e H4 m4 E4 o4 d4 b4 P4 K4 => ⟨by show 2 ≤ sizeLine; decide, fun t nt => ?_⟩⟩
        exact k _ (.view e) _ m4 (.view (.inl upd_same) (E4.tk (TK.new nt))) o4 (by show e.dep + 1 ≤ _; omega) (by rw [ec_view]; omega) (P4.new nt) ((K2'.trans K4).then_new nt)
      -- a sign
      obtain ⟨m, rfl⟩ : ∃ m : Nat, kind = (m : Int) := ⟨kind.toNat, by omega⟩
      obtain ⟨sg, hsg, hat⟩ := sg_at m (by omega)
      refine ⟨by show 8 ≤ sizeLine; decide, fun t nt => ?_⟩
      refine ⟨_, rfl, _, _, _, _, rfl, rfl, SqT.of upd_same, atI_nat hat, ?_⟩
      have P4 := P2.new (o := .tup [.str "+", .str "-", .str "*", .str "/", .str "mod", .str "<", .str "=", .str "+"]) nt
      have K4 := K2'.then_new (o := .tup [.str "+", .str "-", .str "*", .str "/", .str "mod", .str "<", .str "=", .str "+"]) nt
      refine ⟨_, rfl, _, rfl, _, rfl, _, _, rfl, rfl, sub (E1 := E) hd P4 K4 fun r1 e1 H5 m5 E5 o5 d5 b5 P5 K5 => ?_⟩
      have K5' := K4.trans K5
      refine ⟨_, rfl, _, rfl, _, rfl, _, rfl, _, rfl, _, _, rfl, rfl, sub (E1 := E) hd P5 K5' fun r2 e2 H7 m7 E7 o7 d7 b7 P7 K7 => ⟨by show 3 ≤ sizeLine; decide, fun t nt => ?_⟩⟩
      exact k _ (.op sg e1 e2) _ m7 (.op (.inl upd_same) ((E5.tk (P5.tk K7)).tk (TK.new nt)) (E7.tk (TK.new nt))) ⟨hsg, o5, o7⟩ (by show max e1.dep e2.dep + 1 ≤ _; omega) (by rw [ec_op]; omega) (P7.new nt) ((K5'.trans K7).then_new nt)
    rintro σ H2 ⟨m2, rfl, b2, P2, K2⟩
    refine ⟨_, rfl, rfl, _, rfl, iteD (fun _ => ?_) (fun _ => ?_)⟩
    · refine ⟨by show 1 ≤ sizeLine; decide, fun t nt => ?_⟩
      exact k _ .long _ m2 (.long (.inl upd_same)) trivial (by show 1 ≤ _; omega) (by show 1 + _ ≤ _; omega) (P2.new nt) (K2.then_new nt)
    refine ⟨fun σ H' => σ = [some (.ref p), some (.ref la), some (.int d), some (.int kind), none, none] ∧ H' = H2, ?_, ?_⟩
    · refine ⟨_, rfl, _, .inl ⟨_, SqL.of (Ha K2), rfl⟩, iteB (fun e => ?_) (fun e => ⟨rfl, rfl⟩)⟩
      have hy0 := empty_ne e
      refine ⟨_, rfl, .inl ⟨_, rfl, _, _, rfl, rfl, (by show (0 : Int) < 2; decide), rfl, _, rfl, iteD (fun _ => ?_) (fun _ => ⟨rfl, rfl⟩)⟩⟩
      refine ⟨_, rfl, _, rfl, _, rfl, _, _, rfl, .inl (SqL.of (Ha K2)), p, q, (ns.1, m2), _, rfl, by rw [List.length_map]; omega, by rw [List.length_map]; omega, P2, fun r H4 z0 z1 P4 K4 => ?_⟩
      rw [List.length_map] at z1
      obtain ⟨m, rfl⟩ : ∃ m : Nat, r = (m : Int) := ⟨r.toNat, by omega⟩
      have hm : m < xs.length := by omega
      refine ⟨_, _, _, _, rfl, rfl, SqL.of (Ha (K2.trans K4)), atI_nat (by rw [List.getElem?_map, List.getElem?_eq_getElem hm]; rfl), by show 2 ≤ sizeLine; decide, fun t nt => ?_⟩
      exact k _ (.var xs[m]) _ m2 (.var (.inl upd_same)) (List.getElem_mem hm) (by show 1 ≤ _; omega) (by show 1 + _ ≤ _; omega) (P4.new nt) ((K2.trans K4).then_new nt)
    rintro σ H' ⟨rfl, h33⟩
    rw [h33]
    refine ⟨_, rfl, p, q, (ns.1, m2), rfl, P2, fun r H3 z0 z1 P3 K3 => ⟨by show 2 ≤ sizeLine; decide, fun t nt => ?_⟩⟩
    exact k _ (.num r) _ m2 (.num (.inl upd_same)) ⟨z0, z1⟩ (by show 1 ≤ _; omega) (by show 1 + _ ≤ _; omega) (P3.new nt) ((K2.trans K3).then_new nt)
end
/-! how they are drawn -/
def sp_thoughts (K : PySem.W.Frag) (n : Nat) : Sp := fun vs H Q _ => ∃ (p q la : Addr) (ns : PoolT) (xs : List Str) (d : Int) (lp : Bool), vs = [.ref p, .ref la, .int d, .bl lp] ∧ 0 ≤ d ∧ d < (n : Int) ∧ Pool H p q ns ∧
  H la = some (.lst (xs.map V.str)) ∧ la ≠ p ∧ xs.length ≤ 1000 ∧ ∀ r b H' m, BV K H' b r → (b.Ok xs ∧ b.Sm) → b.dep ≤ d.toNat → b.len ≤ 5 → (cB b).length + 4 * m.toNat ≤ 4 * ns.2.toNat → Pool H' p q (ns.1, m) → Keep [p] H H' → Q (.ref r) H'
def sp_thought (K : PySem.W.Frag) (n : Nat) : Sp := fun vs H Q _ => ∃ (p q la : Addr) (ns : PoolT) (xs : List Str) (d : Int) (lp : Bool), vs = [.ref p, .ref la, .int d, .bl lp] ∧ 0 ≤ d ∧ d ≤ (n : Int) ∧ Pool H p q ns ∧
  H la = some (.lst (xs.map V.str)) ∧ la ≠ p ∧ xs.length ≤ 1000 ∧ ∀ r vs b H' m, H r = none → H' r = some (.lst vs) → TVs K H' b vs → (b.Ok xs ∧ b.Sm) → b.dep ≤ d.toNat → b.len ≤ 1 → (cB b).length + 4 * m.toNat ≤ 4 + 4 * ns.2.toNat → Pool H' p q (ns.1, m) → Keep [p] H H' → Q (.ref r) H'
section
variable {P : Program} {w : World} {K : PySem.W.Frag} {mg : Str → Option Value} {base : Heap} {C_Tape : Addr} {C_Thinker : Addr} {C_Brain : Addr} {C_Mind : Addr} {C_Frame : Addr} {C_Thinking : Addr} {C_Checker : Addr} {T_EVENTS : Addr} {T_SIGNS : Addr} {T_ROUND_NAMES : Addr} {T_BRAIN_NAMES : Addr} {T_EFFECTS : Addr}
theorem ok_thoughts0 {f : Addr} {fd : FuncData} (D : C8.Def K mg "_law_thoughts" s_law_thoughts f fd) (b : Binds K fd ["pool", "names", "deep", "loops"] []) {k : Nat} : C8.Cal P w K mg base k "_law_thoughts" (sp_thoughts K 0) [] :=
  ⟨f, fd, ["pool", "names", "deep", "loops"], [], ⟨fun vs H Q E h => (by obtain ⟨p, q, la, ns, xs, d, lp, rfl, _⟩ := h; rfl), fun A outer s H args us vs Q E _ _ _ _ h => (by obtain ⟨p, q, la, ns, xs, d, lp, _, h1, h2, _⟩ := h; exact absurd h2 (by omega))⟩, D.mgf, D.kp, b, .nil⟩
theorem ok_thought {f : Addr} {fd : FuncData} (D : C8.Def K mg "_law_thought" s_law_thought f fd) (b : Binds K fd ["pool", "names", "deep", "loops"] []) (T : Txt K mg C_Tape C_Thinker C_Brain C_Mind C_Frame C_Thinking C_Checker T_EVENTS T_SIGNS T_ROUND_NAMES T_BRAIN_NAMES T_EFFECTS) {n k : Nat} (c_law_thoughts : C8.Cal P w K mg base k "_law_thoughts" (sp_thoughts K n) []) (c_law_draw : C8.Cal P w K mg base k "_law_draw" sp_law_draw [])
    (c_law_expression : C8.Cal P w K mg base k "_law_expression" (sp_expr K 12) []) : C8.Cal P w K mg base (k + 1) "_law_thought" (sp_thought K n) [] := by
  refine cal0 D b .nil sc_law_thought (fun vs H Q E h => ?_) (fun cdv A outer s H vs Q E hr h => ?_)
  · obtain ⟨p, q, la, ns, xs, d, lp, rfl, _⟩ := h
    rfl
  · obtain ⟨p, q, la, ns, xs, d, lp, rfl, d0, d1, hP, ha, nla, hxl, k⟩ := h
    refine ⟨_, (pss_cons (ps_set (i := 4) sc_law_thought.nd rfl (by first | exact Or.inl rfl | exact Or.inr rfl) (pe_c c_law_draw hr (by first | exact Nat.le_refl _ | decide | omega) rfl (pa_cons (pv 0) (pa_cons pe_int pa_nil))))
(pss_cut (ps_if (PW.pt (pw_and (pt_cmpR op_eq (pv 4) pe_int (nomark _)) (pw_and (pt_cmpR op_gt (pv 2) pe_int (nomark _)) (pw_and1 (pt_val (pv 3))))))
  (pss_cons (ps_set (i := 5) sc_law_thought.nd rfl (by first | exact Or.inl rfl | exact Or.inr rfl) (pe_c c_law_expression hr (by first | exact Nat.le_refl _ | decide | omega) rfl (pa_cons (pv 0) (pa_cons (pv 1) (pa_cons pe_int pa_nil)))))
  (pss_one (ps_ret (pe_lst (pa_cons (pe_tup (pa_cons pe_str (pa_cons (pv 5) (pa_cons (pe_c c_law_thoughts hr (by first | exact Nat.le_refl _ | decide | omega) rfl (pa_cons (pv 0) (pa_cons (pv 1) (pa_cons (pe_op op_sub (pv 2) pe_int) (pa_cons (pv 3) pa_nil))))) pa_nil)))) pa_nil)))))
  pss_nil)
(pss_cut (ps_if (PW.pt (pw_and (pt_cmpR op_lt (pv 4) pe_int (nomark _)) (pw_and1 (pt_cmpR op_gt (pv 2) pe_int (nomark _)))))
  (pss_cons (ps_set (i := 5) sc_law_thought.nd rfl (by first | exact Or.inl rfl | exact Or.inr rfl) (pe_c c_law_expression hr (by first | exact Nat.le_refl _ | decide | omega) rfl (pa_cons (pv 0) (pa_cons (pv 1) (pa_cons pe_int pa_nil)))))
  (pss_cons (ps_set (i := 6) sc_law_thought.nd rfl (by first | exact Or.inl rfl | exact Or.inr rfl) (pe_c c_law_thoughts hr (by first | exact Nat.le_refl _ | decide | omega) rfl (pa_cons (pv 0) (pa_cons (pv 1) (pa_cons (pe_op op_sub (pv 2) pe_int) (pa_cons (pv 3) pa_nil))))))
  (pss_one (ps_ret (pe_lst (pa_cons (pe_tup (pa_cons pe_str (pa_cons (pv 5) (pa_cons (pv 6) (pa_cons (pe_c c_law_thoughts hr (by first | exact Nat.le_refl _ | decide | omega) rfl (pa_cons (pv 0) (pa_cons (pv 1) (pa_cons (pe_op op_sub (pv 2) pe_int) (pa_cons (pv 3) pa_nil))))) pa_nil))))) pa_nil))))))
  pss_nil)
(pss_cons (ps_if (pt_truth (pv 1) (by intro _; rfl))
  (pss_cons (ps_set (i := 7) sc_law_thought.nd rfl (by first | exact Or.inl rfl | exact Or.inr rfl) (pe_ix ix_list (pv 1) (pe_c c_law_draw hr (by first | exact Nat.le_refl _ | decide | omega) rfl (pa_cons (pv 0) (pa_cons (pe_callB call_len_seq (by rfl) T.n_len bo_len (pa_cons (pv 1) pa_nil)) pa_nil))) (fun _ _ => rfl)))
  (pss_one (ps_ret (pe_lst (pa_cons (pe_tup (pa_cons (pe_ix ix_tup (pe_tup (pa_cons pe_str (pa_cons pe_str pa_nil))) (pe_callTy call_int1 (by rfl) T.n_int bo_int (pa_cons (pe_cmpR op_gt (pv 4) pe_int (nomark _)) pa_nil)) (fun _ _ => rfl)) (pa_cons (pv 7) (pa_cons (pe_c c_law_expression hr (by first | exact Nat.le_refl _ | decide | omega) rfl (pa_cons (pv 0) (pa_cons (pv 1) (pa_cons pe_int pa_nil)))) pa_nil)))) pa_nil)))))
  pss_nil)
(pss_one (ps_ret (pe_lst pa_nil))))))), ?_⟩
    have Ha : ∀ {H1 : Hp}, Keep [p] H H1 → H1 la = some (.lst (xs.map V.str)) := fun K1 => K1 _ _ ha (by simpa using nla)
    refine ⟨_, rfl, p, q, ns, 10, rfl, by decide, by decide, hP, fun kind H1 r0 r1 P1 K1 => ?_⟩
    refine ⟨fun σ H' => H' = H1 ∧ σ = [some (.ref p), some (.ref la), some (.int d), some (.bl lp), some (.int kind), none, none, none], ?_, ?_⟩
    · refine ⟨_, rfl, rfl, _, rfl, iteD (fun _ => ⟨_, rfl, _, _, rfl, rfl, _, rfl, iteD (fun hd => ⟨_, rfl, _, rfl, iteB (fun _ => ?_) (fun _ => ⟨rfl, rfl⟩)⟩) (fun _ => ⟨rfl, rfl⟩)⟩) (fun _ => ⟨rfl, rfl⟩)⟩
      refine ⟨_, rfl, _, rfl, p, q, la, ns, xs, 12, rfl, by decide, by decide, P1, Ha K1, nla, hxl, fun t e H2 m2 E2 o2 e2 b2_ P2 K2 => ?_⟩
      have K02 := K1.trans K2
      refine ⟨_, rfl, _, rfl, _, rfl, _, rfl, _, _, rfl, rfl, _, rfl, p, q, la, (ns.1, m2), xs, d - 1, lp, rfl, by omega, by omega, P2, Ha K02, nla, hxl, fun r b H3 m3 B3 o3 d3 l3 b3_ P3 K3 => ?_⟩
      have K03 := K02.trans K3
      obtain ⟨ys, hy, ty⟩ := id B3
      refine And.intro (by show 3 ≤ sizeLine; decide) <| fun t1 n1 => And.intro (by show 1 ≤ sizeLine; decide) <| fun l1 nl1 => ?_
      have kk := (Keep.new (W := []) n1).then_new (o := .lst [.ref t1]) nl1
      have tkk := kk.tk
      refine k l1 _ (.cons (.whl e b) .nil) _ m3 (P3.free K03 ((Keep.new (W := []) n1).free nl1)) upd_same ?_ ⟨⟨⟨⟨o2, e2⟩, o3.1⟩, trivial⟩, ⟨l3, o3.2⟩, trivial⟩ (by show max (b.dep + 1) 0 ≤ _; omega) (Nat.le_refl 1) (by rw [c1_len, ct_whl]; dsimp only at b3_; omega) (P3.keep0 kk) (K03.trans (kk.mono (by simp)))
      exact ⟨_, _, rfl, ⟨t1, t, r, ys, rfl, .inl (Keep.new (W := []) nl1 _ _ upd_same (by simp)), (E2.tk (P2.tk K3)).tk tkk, hy.tk tkk, TVs.tk tkk b ty⟩, rfl⟩
    rintro σ H' ⟨rfl, rfl⟩
    refine ⟨fun σ H1 => H1 = H' ∧ σ = [some (.ref p), some (.ref la), some (.int d), some (.bl lp), some (.int kind), none, none, none], ?_, ?_⟩
    · refine ⟨_, rfl, _, _, rfl, rfl, _, rfl, iteD (fun _ => ⟨_, rfl, _, _, rfl, rfl, _, rfl, iteD (fun hd => ?_) (fun _ => ⟨rfl, rfl⟩)⟩) (fun _ => ⟨rfl, rfl⟩)⟩
      refine ⟨_, rfl, _, rfl, p, q, la, ns, xs, 12, rfl, by decide, by decide, P1, Ha K1, nla, hxl, fun t e H2 m2 E2 o2 e2 b2_ P2 K2 => ?_⟩
      have K02 := K1.trans K2
      refine ⟨_, rfl, _, rfl, _, rfl, _, _, rfl, rfl, _, rfl, p, q, la, (ns.1, m2), xs, d - 1, lp, rfl, by omega, by omega, P2, Ha K02, nla, hxl, fun r b H3 m3 B3 o3 d3 l3 b3_ P3 K3 => ?_⟩
      have K03 := K02.trans K3
      refine ⟨_, rfl, _, rfl, _, rfl, _, rfl, _, rfl, _, _, rfl, rfl, _, rfl, p, q, la, (ns.1, m3), xs, d - 1, lp, rfl, by omega, by omega, P3, Ha K03, nla, hxl, fun r2 b2 H4 m4 B4 o4 d4 l4 b4_ P4 K4 => ?_⟩
      have K04 := K03.trans K4
      obtain ⟨ys, hy, ty⟩ := B3.tk (P3.tk K4)
      obtain ⟨zs, hz, tz⟩ := id B4
      refine And.intro (by show 4 ≤ sizeLine; decide) <| fun t1 n1 => And.intro (by show 1 ≤ sizeLine; decide) <| fun l1 nl1 => ?_
      have kk := (Keep.new (W := []) n1).then_new (o := .lst [.ref t1]) nl1
      have tkk := kk.tk
      refine k l1 _ (.cons (.iff e b b2) .nil) _ m4 (P4.free K04 ((Keep.new (W := []) n1).free nl1)) upd_same ?_ ⟨⟨⟨⟨o2, e2⟩, o3.1, o4.1⟩, trivial⟩, ⟨⟨l3, o3.2⟩, l4, o4.2⟩, trivial⟩ (by show max (max b.dep b2.dep + 1) 0 ≤ _; omega) (Nat.le_refl 1) (by have := ct_iff e b b2; rw [c1_len]; dsimp only at b3_ b4_; omega) (P4.keep0 kk) (K04.trans (kk.mono (by simp)))
      exact ⟨_, _, rfl, ⟨t1, t, r, r2, ys, zs, rfl, .inl (Keep.new (W := []) nl1 _ _ upd_same (by simp)), ((E2.tk (P2.tk K3)).tk (P3.tk K4)).tk tkk, hy.tk tkk, TVs.tk tkk b ty, hz.tk tkk, TVs.tk tkk b2 tz⟩, rfl⟩
    rintro σ H1 ⟨rfl, rfl⟩
    refine ⟨_, rfl, _, .inl ⟨_, SqL.of (Ha K1), rfl⟩, iteB (fun e => ?_) (fun e => ?_)⟩
    · have hy0 := empty_ne e
      refine ⟨_, rfl, _, rfl, _, rfl, _, _, rfl, .inl (SqL.of (Ha K1)), p, q, ns, _, rfl, by rw [List.length_map]; omega, by rw [List.length_map]; omega, P1, fun r H4 z0 z1 P4 K4 => ?_⟩
      rw [List.length_map] at z1
      obtain ⟨m, rfl⟩ : ∃ m : Nat, r = (m : Int) := ⟨r.toNat, by omega⟩
      have hm : m < xs.length := by omega
      have K04 := K1.trans K4
      have hmem : xs[m] ∈ xs := List.getElem_mem hm
      have hat : (xs.map V.str)[m]? = some (.str xs[m]) := by rw [List.getElem?_map, List.getElem?_eq_getElem hm]; rfl
      generalize xs[m] = x at hmem hat
      refine ⟨_, _, _, _, rfl, rfl, SqL.of (Ha K04), atI_nat hat, ?_⟩
      refine And.intro (by show 2 ≤ sizeLine; decide) <| fun t0 n0 => ?_
      have k5 : Keep [] H4 (upd H4 t0 (.tup [.str "set", .str "lot"])) := Keep.new n0
      refine ⟨_, rfl, _, _, rfl, rfl, .inr ⟨_, rfl, ?_⟩⟩
      obtain ⟨wd, hwd, hwc⟩ : ∃ wd : Str, atI [V.str "set", V.str "lot"] (if decide (7 < kind) = true then 1 else 0) = some (.str wd) ∧ (wd = "set" ∨ wd = "lot") := by
        by_cases h : 7 < kind
        · exact ⟨"lot", by rw [decide_eq_true h]; rfl, .inr rfl⟩
        · exact ⟨"set", by rw [decide_eq_false h]; rfl, .inl rfl⟩
      refine ⟨t0, _, _, _, rfl, rfl, SqT.of upd_same, hwd, ?_⟩
      have K05 := K04.trans (k5.mono (by simp))
      refine ⟨_, rfl, _, rfl, _, rfl, p, q, la, ns, xs, 12, rfl, by decide, by decide, P4.keep0 k5, Ha K05, nla, hxl, fun t e H6 m6 E6 o6 e6 b6_ P6 K6 => ?_⟩
      have K06 := K05.trans K6
      refine And.intro (by show 3 ≤ sizeLine; decide) <| fun t1 n1 => And.intro (by show 1 ≤ sizeLine; decide) <| fun l1 nl1 => ?_
      have kk := (Keep.new (W := []) n1).then_new (o := .lst [.ref t1]) nl1
      have tkk := kk.tk
      rcases hwc with rfl | rfl
      · exact k l1 _ (.cons (.set x e) .nil) _ m6 (P6.free K06 ((Keep.new (W := []) n1).free nl1)) upd_same ⟨_, _, rfl, ⟨t1, t, rfl, .inl (Keep.new (W := []) nl1 _ _ upd_same (by simp)), E6.tk tkk⟩, rfl⟩ ⟨⟨⟨hmem, o6, e6⟩, trivial⟩, trivial, trivial⟩ (Nat.zero_le _) (Nat.le_refl 1) (by rw [c1_len]; first | (rw [ct_set]; omega) | (rw [ct_lot]; omega)) (P6.keep0 kk) (K06.trans (kk.mono (by simp)))
      · exact k l1 _ (.cons (.lot x e) .nil) _ m6 (P6.free K06 ((Keep.new (W := []) n1).free nl1)) upd_same ⟨_, _, rfl, ⟨t1, t, rfl, .inl (Keep.new (W := []) nl1 _ _ upd_same (by simp)), E6.tk tkk⟩, rfl⟩ ⟨⟨⟨hmem, o6, e6⟩, trivial⟩, trivial, trivial⟩ (Nat.zero_le _) (Nat.le_refl 1) (by rw [c1_len]; first | (rw [ct_set]; omega) | (rw [ct_lot]; omega)) (P6.keep0 kk) (K06.trans (kk.mono (by simp)))
    · exact ⟨Nat.zero_le _, fun l nl => k l _ .nil _ ns.2 (P1.free K1 nl) upd_same rfl ⟨trivial, trivial⟩ (Nat.zero_le _) (Nat.zero_le _) (by show 0 + _ ≤ _; omega) (P1.new nl) (K1.then_new nl)⟩
theorem ok_thoughts {f : Addr} {fd : FuncData} (D : C8.Def K mg "_law_thoughts" s_law_thoughts f fd) (b : Binds K fd ["pool", "names", "deep", "loops"] []) (T : Txt K mg C_Tape C_Thinker C_Brain C_Mind C_Frame C_Thinking C_Checker T_EVENTS T_SIGNS T_ROUND_NAMES T_BRAIN_NAMES T_EFFECTS) {n k : Nat} (c_law_thought : C8.Cal P w K mg base k "_law_thought" (sp_thought K n) []) (c_law_few : C8.Cal P w K mg base k "_law_few" sp_law_few [])
    (c_law_spend : C8.Cal P w K mg base k "_law_spend" sp_law_spend []) : C8.Cal P w K mg base (k + 1) "_law_thoughts" (sp_thoughts K (n + 1)) [] := by
  refine cal0 D b .nil sc_law_thoughts (fun vs H Q E h => ?_) (fun cdv A outer s H vs Q E hr h => ?_)
  · obtain ⟨p, q, la, ns, xs, d, lp, rfl, _⟩ := h
    rfl
  · obtain ⟨p, q, la, ns, xs, d, lp, rfl, d0, d1, hP, ha, nla, hxl, k⟩ := h
    refine ⟨_, (pss_cons (ps_set (i := 4) sc_law_thoughts.nd rfl (by first | exact Or.inl rfl | exact Or.inr rfl) (pe_lst pa_nil))
(pss_cons (ps_for PassesOwn.never rfl (pi_range1 (by rfl) T.n_range (pa_cons (pe_c c_law_few hr (by first | exact Nat.le_refl _ | decide | omega) rfl (pa_cons (pv 0) (pa_cons pe_int pa_nil))) pa_nil)) (pg_name (i := 5) sc_law_thoughts.nd rfl (by first | exact Or.inl rfl | exact Or.inr rfl))
  (pss_one (ps_if (pt_val (pe_c c_law_spend hr (by first | exact Nat.le_refl _ | decide | omega) rfl (pa_cons (pv 0) pa_nil)))
    (pss_one (ps_set (i := 4) sc_law_thoughts.nd rfl (by first | exact Or.inl rfl | exact Or.inr rfl) (pe_op op_cat (pv 4) (pe_c c_law_thought hr (by first | exact Nat.le_refl _ | decide | omega) rfl (pa_cons (pv 0) (pa_cons (pv 1) (pa_cons (pv 2) (pa_cons (pv 3) pa_nil))))))))
    pss_nil)))
(pss_one (ps_ret (pe_callTy call_tuple_of (by rfl) T.n_tuple bo_tuple (pa_cons (pv 4) pa_nil)))))), ?_⟩
    have Ha : ∀ {H1 : Hp}, Keep [p] H H1 → H1 la = some (.lst (xs.map V.str)) := fun K1 => K1 _ _ ha (by simpa using nla)
    refine ⟨Nat.zero_le _, fun l0 nl0 => ?_⟩
    have P1 := hP.new (o := .lst []) nl0
    refine ⟨_, rfl, p, q, ns, 5, rfl, by decide, by decide, P1, fun f H2 f0 f1 P2 K2 => ?_⟩
    have K02 : Keep [p] H H2 := (Keep.new nl0).trans K2
    refine ⟨_, rfl, by omega, by omega, for_range (lo := 0) (n := f.toNat) (fun i σ H' => ∃ (l : Addr) (vs : List V) (bl : Bl) (o : Option V) (m : Int), σ = [some (.ref p), some (.ref la), some (.int d), some (.bl lp), some (.ref l), o] ∧ H l = none ∧ H' l = some (.lst vs) ∧ TVs K H' bl vs ∧ (bl.Ok xs ∧ bl.Sm) ∧ bl.dep ≤ d.toNat ∧ bl.len ≤ i ∧ (cB bl).length + 4 * m.toNat ≤ 4 * ns.2.toNat ∧ Pool H' p q (ns.1, m) ∧ Keep [p] H H')
      ⟨l0, [], .nil, none, ns.2, rfl, nl0, K2 _ _ upd_same (by simpa using hP.nep nl0), rfl, ⟨trivial, trivial⟩, Nat.zero_le _, Nat.zero_le _, by show 0 + _ ≤ _; omega, P2, K02⟩ ?_ ?_⟩
    · rintro i σ H3 hi ⟨l, vs, bl, o, m, rfl, nl, hl, tv, ok, dp, ln, bb, P3, K3⟩
      refine ⟨_, rfl, p, q, (ns.1, m), rfl, P3, fun H4 P4 K4 => ⟨_, rfl, iteB (fun eb => ?_) (fun _ => ⟨l, vs, bl, _, m - 1, rfl, nl, K4 _ _ hl (by simpa using hP.nep nl), TVs.tk (P3.tk K4) bl tv, ok, dp, by omega, by omega, P4, K3.trans K4⟩)⟩⟩
      have eb : m - 1 ≥ 0 := of_decide_eq_true eb
      have hl4 := K4 _ _ hl (by simpa using hP.nep nl)
      have tv4 := TVs.tk (P3.tk K4) bl tv
      refine ⟨_, rfl, _, rfl, _, rfl, _, rfl, _, rfl, p, q, la, (ns.1, m - 1), xs, d, lp, rfl, d0, by omega, P4, Ha (K3.trans K4), nla, hxl, fun r us b H5 m5 nr hr tu oku dpu lnu b5 P5 K5 => ?_⟩
      have hl5 := K5 _ _ hl4 (by simpa using hP.nep nl)
      have tv5 := TVs.tk (P4.tk K5) bl tv4
      have e1 := tv5.len
      have e2 := tu.len
      have K05 := (K3.trans K4).trans K5
      refine ⟨_, _, _, _, rfl, rfl, hl5, hr, smallM (by omega), fun z nz => ?_⟩
      exact ⟨z, _, bl.app b, _, m5, rfl, P5.free K05 nz, upd_same, TVs.tk (TK.new nz) _ (tv5.app tu), ⟨Bl.app_ok ok.1 oku.1, Bl.app_sm ok.2 oku.2⟩, by rw [Bl.app_dep]; omega, by rw [Bl.app_len]; omega, by rw [cB_app, List.length_append]; dsimp only at b5; omega, P5.new nz, K05.then_new nz⟩
    · rintro σ H3 ⟨l, vs, bl, o, m, rfl, nl, hl, tv, ok, dp, ln, bb, P3, K3⟩
      refine ⟨_, rfl, _, _, rfl, .inl ⟨SqL.of hl, fun t nt => ?_⟩⟩
      exact k t bl _ m ⟨vs, .inl upd_same, TVs.tk (TK.new nt) bl tv⟩ ok dp (by omega) bb (P3.new nt) (K3.then_new nt)
theorem thoughts_all {f g : Addr} {fd gd : FuncData} (D : C8.Def K mg "_law_thoughts" s_law_thoughts f fd) (b : Binds K fd ["pool", "names", "deep", "loops"] []) (D2 : C8.Def K mg "_law_thought" s_law_thought g gd) (b2 : Binds K gd ["pool", "names", "deep", "loops"] []) (T : Txt K mg C_Tape C_Thinker C_Brain C_Mind C_Frame C_Thinking C_Checker T_EVENTS T_SIGNS T_ROUND_NAMES T_BRAIN_NAMES T_EFFECTS)
    (c1 : C8.Cal P w K mg base 1 "_law_draw" sp_law_draw []) (c2 : C8.Cal P w K mg base 1 "_law_spend" sp_law_spend []) (c3 : C8.Cal P w K mg base 2 "_law_few" sp_law_few []) (c4 : C8.Cal P w K mg base 15 "_law_expression" (sp_expr K 12) []) : ∀ n, C8.Cal P w K mg base (2 * n + 15) "_law_thoughts" (sp_thoughts K n) []
  | 0 => ok_thoughts0 D b
  | n + 1 => ok_thoughts D b T (ok_thought D2 b2 T (thoughts_all D b D2 b2 T c1 c2 c3 c4 n) (calUp c1 (by omega)) (calUp c4 (by omega))) (calUp c3 (by omega)) (calUp c2 (by omega))
end

/-! what a code does is what its statements do -/
section
variable {ns : List Str} {seen rs : List Int} {c : List MI}
theorem Pth.trans {n k : Nat} {a b r : MC} (h : Pth ns seen rs c n a b) (g : Pth ns seen rs c k b r) : Pth ns seen rs c (n + k) a r := by
  induction h with
  | refl m => rw [Nat.zero_add]; exact g
  | @step n m m' r' hd hs _ ih =>
    rw [show n + 1 + k = (n + k) + 1 by omega]
    exact .step hd hs (ih g)
/-- the machine at p, with the stack R, in the state s of the brain -/
def mcA (ns : List Str) (p : Nat) (R : List Int) (s : MS) : MC := ⟨p, R, ns.map s.tb, s.left, false, false, s.tk⟩
theorem Pth.one {i : MI} {p : Nat} {R : List Int} {s : MS} {m' : MC} (hi : c[p]? = some i) (hR : R.length ≤ 100000) (he : exec ns seen rs i (mcA ns (p + 1) R s) = some m') : Pth ns seen rs c 1 (mcA ns p R s) m' := by
  refine .step rfl ?_ (.refl _)
  unfold stepM
  show (if R.length ≤ 100000 then (c[p]?).bind _ else none) = _
  rw [if_pos hR, hi]
  exact he
theorem map_getD {tb : Str → Int} {x : Str} (h : x ∈ ns) : (ns.map tb).getD (idx ns x) 0 = tb x := by
  rw [List.getD_eq_getElem?_getD, List.getElem?_map, (idx_get h).1]; rfl
theorem exec_step {p : Nat} {R R' : List Int} {s : MS} {i : Ins} (hs : seen.length ≤ 60000) (hi : i.Ok ns) (hR : InR R) (h : step s.tb seen i R = some R') : exec ns seen rs (.e i) (mcA ns p R s) = some (mcA ns p R' s) := by
  cases i with
  | push n => cases h; rfl
  | load x =>
    cases h
    show (if x ∈ ns ∧ (ns.map s.tb).length = ns.length then some _ else none) = _
    rw [if_pos ⟨hi, List.length_map _⟩]
    show some (MC.mk p ((ns.map s.tb).getD (idx ns x) 0 :: R) _ _ _ _ _) = _
    rw [map_getD hi]; rfl
  | long =>
    cases h
    show some (MC.mk p ((if (65535 : Int) < (seen.length : Int) then 65535 else (seen.length : Int)) :: R) _ _ _ _ _) = _
    rw [if_neg (by omega)]; rfl
  | view =>
    cases R with
    | nil => cases h
    | cons a r =>
      cases h
      show (if 0 ≤ a then some _ else none) = _
      rw [if_pos (hR a (List.mem_cons_self ..)).1]; rfl
  | sign z =>
    cases R with
    | nil => cases h
    | cons b r0 =>
      cases r0 with
      | nil => cases h
      | cons a r =>
        cases h
        have h1 := hR b (List.mem_cons_self ..)
        have h2 := hR a (List.mem_cons_of_mem _ (List.mem_cons_self ..))
        show (if z ∈ sgL ∧ 0 ≤ a ∧ a < 65536 ∧ 0 ≤ b ∧ b < 65536 then some _ else none) = _
        rw [if_pos ⟨hi, h2.1, h2.2, h1.1, h1.2⟩]; rfl
theorem at_app {pre post : List MI} {i : MI} (hc : c = pre ++ (i :: post)) : c[pre.length]? = some i := by
  rw [hc, List.getElem?_append_right (Nat.le_refl _), Nat.sub_self]; rfl
theorem ins_path {s : MS} (ht : TbOk ns s.tb) (hsk : SeenOk seen) (hs : seen.length ≤ 60000) : ∀ (l : List Ins) (pre post : List MI) (R R' : List Int), runI s.tb seen l R = some R' → (∀ i ∈ l, i.Ok ns) → InR R → R.length + l.length ≤ 100000 → c = pre ++ (l.map MI.e ++ post) →
    Pth ns seen rs c l.length (mcA ns pre.length R s) (mcA ns (pre.length + l.length) R' s)
  | [], pre, post, R, R', h, _, _, _, _ => by cases h; exact .refl _
  | i :: l, pre, post, R, R', h, ok, hR, hl, hc => by
    have h' : (step s.tb seen i R).bind (runI s.tb seen l) = some R' := h
    cases e : step s.tb seen i R with
    | none => rw [e] at h'; cases h'
    | some R1 =>
      rw [e] at h'
      have oki := ok i (List.mem_cons_self ..)
      have hR1 := step_range ht hsk (by omega) oki hR e
      have len1 : R1.length ≤ R.length + 1 := by
        cases i with
        | push n => cases e; exact Nat.le_refl _
        | load x => cases e; exact Nat.le_refl _
        | long => cases e; exact Nat.le_refl _
        | view =>
          cases R with
          | nil => cases e
          | cons a r => cases e; exact Nat.le_succ _
        | sign z =>
          cases R with
          | nil => cases e
          | cons b r0 =>
            cases r0 with
            | nil => cases e
            | cons a r => cases e; simp
      rw [List.length_cons] at hl
      have p1 : Pth ns seen rs c 1 (mcA ns pre.length R s) (mcA ns (pre.length + 1) R1 s) := Pth.one (i := .e i) (at_app (post := l.map MI.e ++ post) (by rw [hc]; rfl)) (by omega) (exec_step hs oki hR e)
      have p2 := ins_path (s := s) ht hsk hs l (pre ++ [.e i]) post R1 R' h' (fun j hj => ok j (List.mem_cons_of_mem _ hj)) hR1 (by omega) (by rw [hc]; simp)
      rw [List.length_append, List.length_singleton] at p2
      have := p1.trans p2
      rw [List.length_cons, show l.length + 1 = 1 + l.length by omega, ← Nat.add_assoc]
      exact this
theorem ex_path {s : MS} (hk : MOk ns s) (hsk : SeenOk seen) (hs : seen.length ≤ 60000) {e : Ex} (he : ExOk ns e) {pre post : List MI} {R : List Int} (hR : InR R) (hl : R.length ≤ 1000) (hc : c = pre ++ (ec e ++ post)) :
    Pth ns seen rs c (ec e).length (mcA ns pre.length R s) (mcA ns (pre.length + (ec e).length) (s.ev seen e :: R) s) := by
  have h := ins_path (rs := rs) (c := c) (s := s) hk.t hsk hs (code offs e) pre post R _ (run_code (by omega) e R) (code_ok offs e he.1) hR (by have := code_small offs (e := e) (by have := he.2; omega); omega) hc
  unfold ec
  rw [List.length_map]
  exact h
/-- from m0 the machine comes to what b says, at p -/
def Gs (ns : List Str) (seen rs : List Int) (c : List MI) (m0 : MC) (b : Bool × MS) (p : Nat) : Prop :=
  (b.1 = true → ∃ n, Pth ns seen rs c n m0 (mcA ns p [] b.2)) ∧ (b.1 = false → ∃ n m', Pth ns seen rs c n m0 m' ∧ m'.done = true ∧ m'.silent = true ∧ m'.tk = b.2.tk)
theorem Gs.pre {n : Nat} {m0 m1 : MC} {b : Bool × MS} {p : Nat} (h : Pth ns seen rs c n m0 m1) (g : Gs ns seen rs c m1 b p) : Gs ns seen rs c m0 b p :=
  ⟨fun e => let ⟨k, q⟩ := g.1 e; ⟨_, h.trans q⟩, fun e => let ⟨k, m', q, r⟩ := g.2 e; ⟨_, m', h.trans q, r⟩⟩
theorem Gs.post {m0 : MC} {b : Bool × MS} {p p' : Nat} (g : Gs ns seen rs c m0 b p) (h : ∀ s, ∃ n, Pth ns seen rs c n (mcA ns p [] s) (mcA ns p' [] s)) : Gs ns seen rs c m0 b p' :=
  ⟨fun e => let ⟨k, q⟩ := g.1 e; let ⟨k', q'⟩ := h b.2; ⟨_, q.trans q'⟩, g.2⟩
theorem Gs.bind {m0 : MC} {b d : Bool × MS} {p p' : Nat} (g : Gs ns seen rs c m0 b p) (h : b.1 = true → Gs ns seen rs c (mcA ns p [] b.2) d p') (hf : b.1 = false → d = b) : Gs ns seen rs c m0 d p' := by
  cases hb : b.1 with
  | true =>
    obtain ⟨n, q⟩ := g.1 hb
    exact (h hb).pre q
  | false =>
    rw [hf hb]
    exact ⟨(fun e => by rw [hb] at e; cases e), g.2⟩
/-- the first unit of a statement -/
theorem unit_gs {s : MS} {p p' : Nat} {d : Bool × MS} (hi : c[p]? = some .unit) (hz : s.left = 0 → d = (false, s)) (hn : s.left ≠ 0 → Gs ns seen rs c (mcA ns (p + 1) [] { s with left := s.left - 1 }) d p') : Gs ns seen rs c (mcA ns p [] s) d p' := by
  by_cases z : s.left = 0
  · rw [hz z]
    refine ⟨(fun e => by cases e), fun _ => ?_⟩
    refine ⟨1, ⟨p + 1, [], ns.map s.tb, s.left - 1, true, true, s.tk⟩, Pth.one hi (Nat.zero_le _) ?_, rfl, rfl, rfl⟩
    show some (MC.mk (p + 1) [] (ns.map s.tb) (s.left - 1) (decide (V.int s.left = V.int 0)) (decide (V.int s.left = V.int 0)) s.tk) = _
    rw [z, decide_eq_true rfl]
  · refine (hn z).pre (n := 1) (Pth.one hi (Nat.zero_le _) ?_)
    show some (MC.mk (p + 1) [] (ns.map s.tb) (s.left - 1) (decide (V.int s.left = V.int 0)) (decide (V.int s.left = V.int 0)) s.tk) = _
    rw [decide_eq_false (fun h => z (V.int.inj h))]; rfl
theorem map_set {tb : Str → Int} {x : Str} {v : Int} (nd : ns.Nodup) (h : x ∈ ns) : (ns.map tb).set (idx ns x) v = ns.map fun y => if y = x then v else tb y := by
  refine List.ext_getElem? fun j => ?_
  rw [List.getElem?_set, List.getElem?_map, List.getElem?_map]
  have hx := (idx_get h).1
  by_cases e : idx ns x = j
  · subst e
    rw [if_pos rfl, if_pos (by rw [List.length_map]; exact idx_lt h), hx]
    show some v = some (if x = x then v else tb x)
    rw [if_pos rfl]
  · rw [if_neg e]
    cases q : ns[j]? with
    | none => rfl
    | some y =>
      have ne : y ≠ x := fun z => e (by
        subst z
        obtain ⟨h1, h2⟩ := List.getElem?_eq_some_iff.mp hx
        obtain ⟨h3, h4⟩ := List.getElem?_eq_some_iff.mp q
        exact (List.getElem_inj nd).mp (h2.trans h4.symm))
      show some (tb y) = some (if y = x then v else tb y)
      rw [if_neg ne]
theorem store_path {s : MS} {p : Nat} {x : Str} {v : Int} (nd : ns.Nodup) (hx : x ∈ ns) (hi : c[p]? = some (.store x)) : Pth ns seen rs c 1 (mcA ns p [v] s) (mcA ns (p + 1) [] (s.put x v)) := by
  refine Pth.one hi (by simp) ?_
  show (if x ∈ ns ∧ (ns.map s.tb).length = ns.length then some _ else none) = _
  rw [if_pos ⟨hx, List.length_map _⟩]
  show some (MC.mk (p + 1) [] ((ns.map s.tb).set (idx ns x) v) s.left false false s.tk) = _
  rw [map_set nd hx]; rfl
theorem skip_path {s : MS} {p n : Nat} {v : Int} (hi : c[p]? = some (.skip n)) : Pth ns seen rs c 1 (mcA ns p [v] s) (mcA ns (if v = 0 then p + 1 + n else p + 1) [] s) := by
  exact Pth.one hi (by simp) rfl
theorem cB_nil : ∀ {b : Bl}, cB b = [] → b = .nil
  | .nil, _ => rfl
  | .cons t b, h => by
    have h' : cT t ++ cB b = [] := h
    cases t <;> cases h'
theorem getR {pre post : List MI} {i : MI} {n : Nat} (hc : c = pre ++ (i :: post)) (hn : n = pre.length) : c[n]? = some i := by
  subst hn; exact at_app hc
theorem loop_gs {t : Ex} {b : Bl} {pre post : List MI} (hsk : SeenOk seen) (hs : seen.length ≤ 60000) (ht : ExOk ns t) (bok : b.Ok ns) (hc : c = pre ++ (cT (.whl t b) ++ post))
    (hb : ∀ s, MOk ns s → s.left.toNat + s.tk.length ≤ 90000 → Gs ns seen rs c (mcA ns (pre.length + 1 + (ec t).length + 1) [] s) (runB seen rs b s) (pre.length + 1 + (ec t).length + 1 + (cB b).length)) :
    ∀ (n : Nat) (s : MS), s.left.toNat < n → MOk ns s → s.left.toNat + s.tk.length ≤ 90000 → Gs ns seen rs c (mcA ns (pre.length + 1) [] s) (loopM (fun s => decide (s.ev seen t ≠ 0)) (fun s => runB seen rs b s) n s) (pre.length + (cT (.whl t b)).length)
  | 0, s, h, _, _ => absurd h (Nat.not_lt_zero _)
  | n + 1, s, h, hm, hbd => by
    have lt : (cT (.whl t b)).length = (ec t).length + (cB b).length + 3 := by
      show (MI.unit :: (ec t ++ (.skip ((cB b).length + 1) :: (cB b ++ [.back ((ec t).length + (cB b).length + 2)])))).length = _
      simp; omega
    have hc1 : c = (pre ++ [.unit]) ++ (ec t ++ (.skip ((cB b).length + 1) :: (cB b ++ (.back ((ec t).length + (cB b).length + 2) :: post)))) := by
      rw [hc]
      show pre ++ ((MI.unit :: (ec t ++ (.skip ((cB b).length + 1) :: (cB b ++ [.back ((ec t).length + (cB b).length + 2)])))) ++ post) = _
      simp
    have p1 := ex_path (rs := rs) (R := []) hm hsk hs ht (fun x hx => by cases hx) (Nat.zero_le _) hc1
    rw [List.length_append, List.length_singleton] at p1
    have hsk1 : c[pre.length + 1 + (ec t).length]? = some (.skip ((cB b).length + 1)) := getR (pre := (pre ++ [.unit]) ++ ec t) (post := cB b ++ (.back ((ec t).length + (cB b).length + 2) :: post)) (by rw [hc1]; simp) (by simp; omega)
    have p2 := p1.trans (skip_path (rs := rs) (ns := ns) (seen := seen) (s := s) (v := s.ev seen t) hsk1)
    refine Gs.pre p2 ?_
    unfold loopM
    by_cases z : s.ev seen t = 0
    · rw [if_pos z, if_pos (decide_eq_false (not_not_intro z)), lt]
      exact ⟨fun _ => ⟨0, by rw [show pre.length + ((ec t).length + (cB b).length + 3) = pre.length + 1 + (ec t).length + 1 + ((cB b).length + 1) by omega]; exact .refl _⟩, fun e => by cases e⟩
    · rw [if_neg z, if_neg (by simpa using z)]
      have mv := runB_mv (rs := rs) hsk b bok s hm
      have mvk := mv.k
      refine (hb s hm hbd).bind (fun e1 => ?_) (fun e1 => by rw [if_pos e1]; exact Prod.ext e1.symm rfl)
      rw [if_neg (by rw [e1]; decide)]
      generalize (runB seen rs b s).2 = s2 at *
      have hbk : c[pre.length + 1 + (ec t).length + 1 + (cB b).length]? = some (.back ((ec t).length + (cB b).length + 2)) := getR (pre := (pre ++ [.unit]) ++ (ec t ++ (.skip ((cB b).length + 1) :: cB b))) (post := post) (by rw [hc1]; simp) (by simp; omega)
      have p3 : Pth ns seen rs c 1 (mcA ns (pre.length + 1 + (ec t).length + 1 + (cB b).length) [] s2) (mcA ns pre.length [] s2) := by
        refine Pth.one hbk (Nat.zero_le _) ?_
        show (if (ec t).length + (cB b).length + 2 + 1 ≤ pre.length + 1 + (ec t).length + 1 + (cB b).length + 1 then some _ else none) = _
        rw [if_pos (by omega)]
        show some (MC.mk (pre.length + 1 + (ec t).length + 1 + (cB b).length + 1 - 1 - ((ec t).length + (cB b).length + 2)) _ _ _ _ _ _) = _
        rw [show pre.length + 1 + (ec t).length + 1 + (cB b).length + 1 - 1 - ((ec t).length + (cB b).length + 2) = pre.length by omega]; rfl
      refine Gs.pre p3 ?_
      refine unit_gs (at_app (post := (ec t ++ (.skip ((cB b).length + 1) :: (cB b ++ (.back ((ec t).length + (cB b).length + 2) :: post))))) (by rw [hc1]; simp)) (fun e2 => by rw [if_pos e2]) (fun e2 => ?_)
      rw [if_neg e2]
      have hl2 := mv.ok.l
      have hl3 := mv.l
      exact loop_gs hsk hs ht bok hc hb n { s2 with left := s2.left - 1 } (by show (s2.left - 1).toNat < n; have := hm.l; omega) (mv.ok.dec e2) (by show (s2.left - 1).toNat + s2.tk.length ≤ 90000; omega)
theorem app2 (a b d : List MI) : (a ++ b) ++ d = a ++ (b ++ d) := List.append_assoc a b d
mutual
theorem gT (nd : ns.Nodup) (hsk : SeenOk seen) (hs : seen.length ≤ 60000) : ∀ (t : Th), t.Ok ns → ∀ (pre post : List MI), c = pre ++ (cT t ++ post) → ∀ s, MOk ns s → s.left.toNat + s.tk.length ≤ 90000 → Gs ns seen rs c (mcA ns (pre.length + 1) [] s) (runT seen rs t s) (pre.length + (cT t).length)
  | .set x e, ok, pre, post, hc, s, hm, hbd => by
    have lt : (cT (.set x e)).length = (ec e).length + 2 := by show (MI.unit :: (ec e ++ [.store x])).length = _; simp
    have hc1 : c = (pre ++ [.unit]) ++ (ec e ++ (.store x :: post)) := by
      rw [hc]
      show pre ++ ((MI.unit :: (ec e ++ [.store x])) ++ post) = _
      simp
    have p1 := ex_path (rs := rs) (R := []) hm hsk hs ok.2 (fun x hx => by cases hx) (Nat.zero_le _) hc1
    rw [List.length_append, List.length_singleton] at p1
    have hi : c[pre.length + 1 + (ec e).length]? = some (.store x) := getR (pre := (pre ++ [.unit]) ++ ec e) (post := post) (by rw [hc1]; simp) (by simp; omega)
    have p2 := p1.trans (store_path (rs := rs) (seen := seen) (s := s) (v := s.ev seen e) nd ok.1 hi)
    rw [lt, show pre.length + ((ec e).length + 2) = pre.length + 1 + (ec e).length + 1 by omega]
    unfold runT
    exact ⟨fun _ => ⟨_, p2⟩, fun e => by cases e⟩
  | .lot x e, ok, pre, post, hc, s, hm, hbd => by
    have lt : (cT (.lot x e)).length = (ec e).length + 3 := by show (MI.unit :: (ec e ++ [.lot, .store x])).length = _; simp
    have hc1 : c = (pre ++ [.unit]) ++ (ec e ++ (.lot :: (.store x :: post))) := by
      rw [hc]
      show pre ++ ((MI.unit :: (ec e ++ [.lot, .store x])) ++ post) = _
      simp
    have p1 := ex_path (rs := rs) (R := []) hm hsk hs ok.2 (fun x hx => by cases hx) (Nat.zero_le _) hc1
    rw [List.length_append, List.length_singleton] at p1
    have hi1 : c[pre.length + 1 + (ec e).length]? = some .lot := getR (pre := (pre ++ [.unit]) ++ ec e) (post := .store x :: post) (by rw [hc1]; simp) (by simp; omega)
    have hi2 : c[pre.length + 1 + (ec e).length + 1]? = some (.store x) := getR (pre := (pre ++ [.unit]) ++ (ec e ++ [.lot])) (post := post) (by rw [hc1]; simp) (by simp; omega)
    have hv := hm.ev hsk ok.2
    rw [lt, show pre.length + ((ec e).length + 3) = pre.length + 1 + (ec e).length + 1 + 1 by omega]
    unfold runT
    refine ⟨fun _ => ?_, fun e => by cases e⟩
    unfold lotS
    by_cases h : s.ev seen e > 0
    · rw [if_pos h]
      have p2 : Pth ns seen rs c 1 (mcA ns (pre.length + 1 + (ec e).length) [s.ev seen e] s) (mcA ns (pre.length + 1 + (ec e).length + 1) [nextR rs s.tk (s.ev seen e)] { s with tk := s.tk ++ [(nextR rs s.tk (s.ev seen e), s.ev seen e)] }) := by
        refine Pth.one hi1 (by simp) ?_
        show (if s.ev seen e < 65536 ∧ s.tk.length ≤ 90000 then some (if s.ev seen e > 0 then _ else _) else none) = _
        rw [if_pos ⟨hv.2, by omega⟩, if_pos h]; rfl
      exact ⟨_, (p1.trans p2).trans (store_path (rs := rs) (seen := seen) nd ok.1 hi2)⟩
    · rw [if_neg h]
      have hz : s.ev seen e = 0 := by omega
      have p2 : Pth ns seen rs c 1 (mcA ns (pre.length + 1 + (ec e).length) [s.ev seen e] s) (mcA ns (pre.length + 1 + (ec e).length + 1) [s.ev seen e] s) := by
        refine Pth.one hi1 (by simp) ?_
        show (if s.ev seen e < 65536 ∧ s.tk.length ≤ 90000 then some (if s.ev seen e > 0 then _ else _) else none) = _
        rw [if_pos ⟨hv.2, by omega⟩, if_neg h, hz]; rfl
      exact ⟨_, (p1.trans p2).trans (store_path (rs := rs) (seen := seen) nd ok.1 hi2)⟩
  | .whl t b, ok, pre, post, hc, s, hm, hbd => by
    unfold runT
    refine loop_gs hsk hs ok.1 ok.2 hc (fun s' hm' hbd' => ?_) _ s (Nat.lt_succ_self _) hm hbd
    have h := gB nd hsk hs b ok.2 ((pre ++ [.unit]) ++ (ec t ++ [.skip ((cB b).length + 1)])) (.back ((ec t).length + (cB b).length + 2) :: post) (by
      rw [hc]
      show pre ++ ((MI.unit :: (ec t ++ (.skip ((cB b).length + 1) :: (cB b ++ [.back ((ec t).length + (cB b).length + 2)])))) ++ post) = _
      simp) s' hm' hbd'
    rw [show ((pre ++ [MI.unit]) ++ (ec t ++ [MI.skip ((cB b).length + 1)])).length = pre.length + 1 + (ec t).length + 1 by simp; omega] at h
    exact h
  | .iff t a b, ok, pre, post, hc, s, hm, hbd => by
    have hc0 : c = (pre ++ [.unit]) ++ (brn (ec t) (cB a) (cB b) ++ post) := by
      rw [hc]
      show pre ++ ((MI.unit :: brn (ec t) (cB a) (cB b)) ++ post) = _
      simp
    have lt : (cT (.iff t a b)).length = (brn (ec t) (cB a) (cB b)).length + 1 := rfl
    unfold runT
    by_cases hb0 : cB b = []
    · have eb : brn (ec t) (cB a) (cB b) = ec t ++ (.skip (cB a).length :: cB a) := by unfold brn; rw [if_pos hb0]
      rw [eb] at hc0 lt
      have hc1 : c = (pre ++ [.unit]) ++ (ec t ++ (.skip (cB a).length :: (cB a ++ post))) := by rw [hc0]; simp
      have p1 := ex_path (rs := rs) (R := []) hm hsk hs ok.1 (fun x hx => by cases hx) (Nat.zero_le _) hc1
      rw [List.length_append, List.length_singleton] at p1
      have hi : c[pre.length + 1 + (ec t).length]? = some (.skip (cB a).length) := getR (pre := (pre ++ [.unit]) ++ ec t) (post := cB a ++ post) (by rw [hc1]; simp) (by simp; omega)
      refine Gs.pre (p1.trans (skip_path (rs := rs) (ns := ns) (seen := seen) (s := s) (v := s.ev seen t) hi)) ?_
      rw [List.length_append, List.length_cons] at lt
      by_cases z : s.ev seen t = 0
      · rw [if_pos z, if_neg (not_not_intro z), lt, cB_nil hb0]
        have er : runB seen rs .nil s = (true, s) := by unfold runB; rfl
        rw [er]
        exact ⟨fun _ => ⟨0, by rw [show pre.length + ((ec t).length + ((cB a).length + 1) + 1) = pre.length + 1 + (ec t).length + 1 + (cB a).length by omega]; exact .refl _⟩, fun e => by cases e⟩
      · rw [if_neg z, if_pos z, lt]
        have h := gB nd hsk hs a ok.2.1 ((pre ++ [.unit]) ++ (ec t ++ [.skip (cB a).length])) post (by rw [hc1]; simp) s hm hbd
        rw [show ((pre ++ [MI.unit]) ++ (ec t ++ [MI.skip (cB a).length])).length = pre.length + 1 + (ec t).length + 1 by simp; omega] at h
        rw [show pre.length + ((ec t).length + ((cB a).length + 1) + 1) = pre.length + 1 + (ec t).length + 1 + (cB a).length by omega]
        exact h
    · have eb : brn (ec t) (cB a) (cB b) = ec t ++ (.skip ((cB a).length + 1) :: (cB a ++ (.jump (cB b).length :: cB b))) := by unfold brn; rw [if_neg hb0]
      rw [eb] at hc0 lt
      have hc1 : c = (pre ++ [.unit]) ++ (ec t ++ (.skip ((cB a).length + 1) :: (cB a ++ (.jump (cB b).length :: (cB b ++ post))))) := by rw [hc0]; simp
      have p1 := ex_path (rs := rs) (R := []) hm hsk hs ok.1 (fun x hx => by cases hx) (Nat.zero_le _) hc1
      rw [List.length_append, List.length_singleton] at p1
      have hi : c[pre.length + 1 + (ec t).length]? = some (.skip ((cB a).length + 1)) := getR (pre := (pre ++ [.unit]) ++ ec t) (post := cB a ++ (.jump (cB b).length :: (cB b ++ post))) (by rw [hc1]; simp) (by simp; omega)
      refine Gs.pre (p1.trans (skip_path (rs := rs) (ns := ns) (seen := seen) (s := s) (v := s.ev seen t) hi)) ?_
      rw [List.length_append, List.length_cons, List.length_append, List.length_cons] at lt
      by_cases z : s.ev seen t = 0
      · rw [if_pos z, if_neg (not_not_intro z), lt]
        have h := gB nd hsk hs b ok.2.2 ((pre ++ [.unit]) ++ (ec t ++ (.skip ((cB a).length + 1) :: (cB a ++ [.jump (cB b).length])))) post (by rw [hc1]; simp) s hm hbd
        rw [show ((pre ++ [MI.unit]) ++ (ec t ++ (MI.skip ((cB a).length + 1) :: (cB a ++ [MI.jump (cB b).length])))).length = pre.length + 1 + (ec t).length + 1 + ((cB a).length + 1) by simp; omega] at h
        rw [show pre.length + ((ec t).length + ((cB a).length + ((cB b).length + 1) + 1) + 1) = pre.length + 1 + (ec t).length + 1 + ((cB a).length + 1) + (cB b).length by omega]
        exact h
      · rw [if_neg z, if_pos z, lt]
        have h := gB nd hsk hs a ok.2.1 ((pre ++ [.unit]) ++ (ec t ++ [.skip ((cB a).length + 1)])) (.jump (cB b).length :: (cB b ++ post)) (by rw [hc1]; simp) s hm hbd
        rw [show ((pre ++ [MI.unit]) ++ (ec t ++ [MI.skip ((cB a).length + 1)])).length = pre.length + 1 + (ec t).length + 1 by simp; omega] at h
        refine h.post fun s' => ⟨1, ?_⟩
        have hj : c[pre.length + 1 + (ec t).length + 1 + (cB a).length]? = some (.jump (cB b).length) := getR (pre := (pre ++ [.unit]) ++ (ec t ++ (.skip ((cB a).length + 1) :: cB a))) (post := cB b ++ post) (by rw [hc1]; simp) (by simp; omega)
        refine Pth.one hj (Nat.zero_le _) ?_
        show some (MC.mk (pre.length + 1 + (ec t).length + 1 + (cB a).length + 1 + (cB b).length) _ _ _ _ _ _) = _
        rw [show pre.length + ((ec t).length + ((cB a).length + ((cB b).length + 1) + 1) + 1) = pre.length + 1 + (ec t).length + 1 + (cB a).length + 1 + (cB b).length by omega]; rfl
theorem gB (nd : ns.Nodup) (hsk : SeenOk seen) (hs : seen.length ≤ 60000) : ∀ (b : Bl), b.Ok ns → ∀ (pre post : List MI), c = pre ++ (cB b ++ post) → ∀ s, MOk ns s → s.left.toNat + s.tk.length ≤ 90000 → Gs ns seen rs c (mcA ns pre.length [] s) (runB seen rs b s) (pre.length + (cB b).length)
  | .nil, _, pre, post, hc, s, hm, hbd => by
    unfold runB
    exact ⟨fun _ => ⟨0, .refl _⟩, fun e => by cases e⟩
  | .cons t b, ok, pre, post, hc, s, hm, hbd => by
    have hc1 : c = pre ++ (cT t ++ (cB b ++ post)) := by
      rw [hc]
      show pre ++ ((cT t ++ cB b) ++ post) = _
      simp
    have lt : (cB (.cons t b)).length = (cT t).length + (cB b).length := by show (cT t ++ cB b).length = _; simp
    have hu : c[pre.length]? = some .unit := by
      cases t <;> exact at_app hc1
    unfold runB
    refine unit_gs hu (fun z => by rw [if_pos z]) (fun z => ?_)
    rw [if_neg z]
    have h1 := hm.dec z
    have h2 := gT nd hsk hs t ok.1 pre (cB b ++ post) hc1 { s with left := s.left - 1 } h1 (by show (s.left - 1).toNat + s.tk.length ≤ 90000; have := hm.l; omega)
    have mv := runT_mv (rs := rs) hsk t ok.1 _ h1
    have mvk := mv.k
    refine h2.bind (fun e1 => ?_) (fun e1 => by rw [if_pos e1])
    rw [if_neg (by rw [e1]; decide)]
    have h3 := gB nd hsk hs b ok.2 (pre ++ cT t) post (by rw [hc1]; simp) (runT seen rs t { s with left := s.left - 1 }).2 mv.ok (by
      have := hm.l
      change _ ≤ (s.left - 1).toNat + s.tk.length + 1 at mvk
      omega)
    rw [List.length_append] at h3
    rw [lt, ← Nat.add_assoc]
    exact h3
end
end

/-! codes, in plain words -/
abbrev In2 := Str × Int
def allNm : List Str := ["push", "load", "store", "sign", "jump", "skip", "lot", "end", "ask", "show", "pay", "take", "view", "long", "unit", "back"]
def nmsOf (brain : Bool) : List Str := if brain then ["push", "load", "store", "sign", "jump", "skip", "lot", "end", "view", "long", "unit", "back"] else ["push", "load", "store", "sign", "jump", "skip", "lot", "end", "ask", "show", "pay", "take"]
def fitsA (n : Str) (a slots moves : Int) : Bool :=
  if n = "push" then decide (0 ≤ a ∧ a ≤ 65535) else if n = "load" ∨ n = "store" then decide (0 ≤ a ∧ a < slots) else if n = "sign" then decide (0 ≤ a ∧ a < 7) else if n = "show" then decide (0 ≤ a ∧ a ≤ 2)
  else if n = "ask" then decide (0 ≤ a ∧ a < moves) else if n = "jump" ∨ n = "skip" ∨ n = "back" then decide (a ≥ 0) else decide (a = 0)
def tgts (at_ : Int) (n : Str) (a : Int) : List Int := if n = "end" ∨ n = "back" then [] else if n = "jump" then [at_ + 1 + a] else if n = "skip" then [at_ + 1, at_ + 1 + a] else [at_ + 1]
def eff (n : Str) : Int × Int :=
  if n = "push" ∨ n = "load" ∨ n = "ask" ∨ n = "long" then (0, 1) else if n = "store" ∨ n = "skip" ∨ n = "show" ∨ n = "pay" ∨ n = "take" then (1, 0) else if n = "sign" then (2, 1) else if n = "lot" ∨ n = "view" then (1, 1) else (0, 0)
abbrev Hts := Int → Option Int
def setH (h : Hts) (i v : Int) : Hts := fun j => if j = i then some v else h j
/-- the heights at the targets -/
def reach (len : Nat) (v : Int) : List Int → Hts → Option Hts
  | [], h => some h
  | t :: ts, h => if t ≥ (len : Int) ∨ (h t).getD v ≠ v then none else reach len v ts (setH h t v)
def backOk (cs : List In2) (h : Hts) (i t : Int) : Bool := decide (0 ≤ t ∧ t < i) && decide (cs[t.toNat]? = some (("unit" : Str), (0 : Int))) && decide (h t = h i)
def b2i' (b : Bool) : Int := if b then 1 else 0
/-- one place of a code -/
def good1 (cs : List In2) (slots moves : Int) (brain : Bool) (i : Int) (n : Str) (a : Int) (h : Hts) (top : Int) : Option (Hts × Int) :=
  match h i with
  | none => none
  | some v =>
    if n ∉ nmsOf brain then none else if fitsA n a slots moves = false then none
    else if v < (eff n).1 ∨ v - (eff n).1 + (eff n).2 > 16 then none
    else
      let w := v - (eff n).1 + (eff n).2
      let top' := if w > top then w else top
      if n = "end" then (if v = b2i' brain then some (h, top') else none)
      else if n = "back" then (if backOk cs h i (i - a) = true then some (h, top') else none)
      else (reach cs.length w (tgts i n a) h).map fun h' => (h', top')
def h0 : Hts := fun j => if j = 0 then some 0 else none
/-- the first i places -/
def upto (cs : List In2) (slots moves : Int) (brain : Bool) : Nat → Option (Hts × Int)
  | 0 => some (h0, 0)
  | i + 1 => match upto cs slots moves brain i, cs[i]? with
    | some s, some p => good1 cs slots moves brain (i : Int) p.1 p.2 s.1 s.2
    | _, _ => none
/-! codes in the heap -/
inductive Prs (H : Hp) : List V → List In2 → Prop
  | nil : Prs H [] []
  | cons {t : Addr} {n : Str} {a : Int} {vs : List V} {l : List In2} : H t = some (.tup [.str n, .int a]) → Prs H vs l → Prs H (.ref t :: vs) ((n, a) :: l)
theorem Prs.tk {H H' : Hp} (k : TK H H') {vs : List V} {l : List In2} (h : Prs H vs l) : Prs H' vs l := by
  induction h with
  | nil => exact .nil
  | cons h _ ih => exact .cons (k _ _ h) ih
theorem Prs.app {H : Hp} {vs us : List V} {l m : List In2} (h : Prs H vs l) (g : Prs H us m) : Prs H (vs ++ us) (l ++ m) := by
  induction h with
  | nil => exact g
  | cons h _ ih => exact .cons h ih
theorem Prs.len {H : Hp} {vs : List V} {l : List In2} (h : Prs H vs l) : vs.length = l.length := by
  induction h with
  | nil => rfl
  | cons _ _ ih => rw [List.length_cons, List.length_cons, ih]
theorem Prs.get {H : Hp} {vs : List V} {l : List In2} (h : Prs H vs l) : ∀ {i : Nat} {n : Str} {a : Int}, l[i]? = some (n, a) → ∃ t, vs[i]? = some (.ref t) ∧ H t = some (.tup [.str n, .int a]) := by
  induction h with
  | nil => intro i n a h; simp at h
  | cons h _ ih =>
    intro i n a hv
    cases i with
    | zero => simp at hv; obtain ⟨rfl, rfl⟩ := hv; exact ⟨_, rfl, h⟩
    | succ i => simpa using ih (by simpa using hv)
theorem Prs.take {H : Hp} {vs : List V} {l : List In2} (h : Prs H vs l) : ∀ (i : Nat), Prs H (vs.take i) (l.take i) := by
  induction h with
  | nil => intro i; simp; exact .nil
  | cons h _ ih =>
    intro i
    cases i with
    | zero => exact .nil
    | succ i => exact .cons h (ih i)
theorem Prs.drop {H : Hp} {vs : List V} {l : List In2} (h : Prs H vs l) : ∀ (i : Nat), Prs H (vs.drop i) (l.drop i) := by
  induction h with
  | nil => intro i; simp; exact .nil
  | cons h h2 ih =>
    intro i
    cases i with
    | zero => exact .cons h h2
    | succ i => exact ih i
/-- a code, as a list or as a tuple -/
def CodeAt (H : Hp) (c : Addr) (cs : List In2) : Prop := ∃ xs, (H c = some (.lst xs) ∨ H c = some (.tup xs)) ∧ Prs H xs cs
theorem CodeAt.keep {H H' : Hp} {c : Addr} {cs : List In2} {W : List Addr} (h : CodeAt H c cs) (k : Keep W H H') (t : TK H H') (w : c ∉ W) : CodeAt H' c cs := by
  obtain ⟨xs, h1, h2⟩ := h
  exact ⟨xs, h1.elim (fun z => .inl (k _ _ z w)) fun z => .inr (k _ _ z w), h2.tk t⟩
/-- the names that a code may hold -/
def NmOk (cs : List In2) : Prop := ∀ p ∈ cs, p.1 ∈ allNm ++ (["", "halt", "push ", "pushes"] : List Str)
/-- the heights, as the dict has them -/
def HtsAt (H : Hp) (d : Addr) (h : Hts) (m : Nat) : Prop := ∃ kvs : List (Key × V), H d = some (.dK kvs) ∧ kvs.length ≤ m ∧ ∀ i : Int, valV kvs (.inl i) = (h i).map V.int
theorem HtsAt.get {H : Hp} {d : Addr} {h : Hts} {m : Nat} (x : HtsAt H d h m) (i : Int) : DGet H d (.int i) ((h i).map V.int) := by
  obtain ⟨kvs, h1, _, h3⟩ := x
  rw [← h3]
  exact DGet.k (k := .inl i) h1
theorem HtsAt.put {H : Hp} {d : Addr} {h : Hts} {m : Nat} (x : HtsAt H d h m) (i v : Int) (hm : m < 1000000) : ∃ H', DPut H d (.int i) (.int v) H' ∧ HtsAt H' d (setH h i v) (m + 1) ∧ (∃ o, H d = some o ∧ ∃ kvs, o = .dK kvs) ∧ ∃ o', H' = upd H d o' := by
  obtain ⟨kvs, h1, h2, h3⟩ := x
  refine ⟨_, DPut.k (k := .inl i) h1 (smallL (by omega)), ⟨_, upd_same, ?_, fun j => ?_⟩, ⟨_, h1, _, rfl⟩, _, rfl⟩
  · have := length_putK kvs (.inl i) (.int v)
    omega
  · rw [valV_put]
    unfold setH
    by_cases e : j = i
    · subst e; rw [if_pos rfl, if_pos rfl]; rfl
    · rw [if_neg (fun z => e (Sum.inl.inj z)), if_neg e, h3]
def chkF (c d : Addr) (slots moves : Int) (brain : Bool) (top : Int) : List (Str × V) := [("code", .ref c), ("slots", .int slots), ("moves", .int moves), ("thinking", .bl brain), ("heights", .ref d), ("highest", .int top)]
/-- a Checker at x -/
structure ChkAt (C : Addr) (H : Hp) (x c d : Addr) (cs : List In2) (slots moves : Int) (brain : Bool) (h : Hts) (top : Int) (m : Nat) : Prop where
  o : ∃ dx, H x = some (.ins C dx (chkF c d slots moves brain top))
  c : CodeAt H c cs
  d : HtsAt H d h m
/-! the defs -/
def sp_fits (K : PySem.W.Frag) : Sp := fun vs H Q _ => ∃ (t : Addr) (n : Str) (a slots moves : Int), vs = [.ref t, .int slots, .int moves] ∧ H t = some (.tup [.str n, .int a]) ∧ Q (.bl (fitsA n a slots moves)) H
def sp_tgts (K : PySem.W.Frag) : Sp := fun vs H Q _ => ∃ (t : Addr) (n : Str) (a i : Int), vs = [.int i, .ref t] ∧ H t = some (.tup [.str n, .int a]) ∧ ∀ l H', H l = none → H' l = some (.lst ((tgts i n a).map V.int)) → Keep [] H H' → Q (.ref l) H'
theorem boolQ {Q : Bool → Prop} {p q : Bool} (h : p = q) (k : Q p) : Q q := h ▸ k
section
variable {P : Program} {w : World} {K : PySem.W.Frag} {mg : Str → Option Value} {base : Heap} {C_Tape : Addr} {C_Thinker : Addr} {C_Brain : Addr} {C_Mind : Addr} {C_Frame : Addr} {C_Thinking : Addr} {C_Checker : Addr} {T_EVENTS : Addr} {T_SIGNS : Addr} {T_ROUND_NAMES : Addr} {T_BRAIN_NAMES : Addr} {T_EFFECTS : Addr}
theorem ok_fits {f : Addr} {fd : FuncData} (D : C8.Def K mg "argument_fits" s_argument_fits f fd) (b : Binds K fd ["instruction", "slots", "moves"] []) (T : Txt K mg C_Tape C_Thinker C_Brain C_Mind C_Frame C_Thinking C_Checker T_EVENTS T_SIGNS T_ROUND_NAMES T_BRAIN_NAMES T_EFFECTS) : C8.Cal P w K mg base 1 "argument_fits" (sp_fits K) [] := by
  refine cal0 D b .nil sc_argument_fits (fun vs H Q E h => ?_) (fun cdv A outer s H vs Q E hr h => ?_)
  · obtain ⟨t, n, a, sl, mo, rfl, _⟩ := h
    rfl
  · obtain ⟨t, n, a, sl, mo, rfl, ht, k⟩ := h
    refine ⟨_, (pss_cons (ps_asg (pv 0) (pg_tup (by rfl) (pgs_cons (pg_name (i := 3) sc_argument_fits.nd rfl (by first | exact Or.inl rfl | exact Or.inr rfl)) (pgs_cons (pg_name (i := 4) sc_argument_fits.nd rfl (by first | exact Or.inl rfl | exact Or.inr rfl)) pgs_nil))))
(pss_cons (ps_if (pt_cmpR op_eq (pv 3) pe_str (nomark _))
  (pss_one (ps_ret (pe_chain op_le op_le pe_int (pv 4) (pe_gc rfl T.v_GREATEST))))
  pss_nil)
(pss_cons (ps_if (PW.pt (pw_or (pt_cmpR op_eq (pv 3) pe_str (nomark _)) (pw_or1 (pt_cmpR op_eq (pv 3) pe_str (nomark _)))))
  (pss_one (ps_ret (pe_chain op_le op_lt pe_int (pv 4) (pv 1))))
  pss_nil)
(pss_cons (ps_if (pt_cmpR op_eq (pv 3) pe_str (nomark _))
  (pss_one (ps_ret (pe_chain op_le op_lt pe_int (pv 4) (pe_callB call_len_seq (by rfl) T.n_len bo_len (pa_cons (pe_gc rfl T.v_SIGNS) pa_nil)))))
  pss_nil)
(pss_cons (ps_if (pt_cmpR op_eq (pv 3) pe_str (nomark _))
  (pss_one (ps_ret (pe_chain op_le op_le pe_int (pv 4) pe_int)))
  pss_nil)
(pss_cons (ps_if (pt_cmpR op_eq (pv 3) pe_str (nomark _))
  (pss_one (ps_ret (pe_chain op_le op_lt pe_int (pv 4) (pv 2))))
  pss_nil)
(pss_cons (ps_if (PW.pt (pw_or (pt_cmpR op_eq (pv 3) pe_str (nomark _)) (pw_or (pt_cmpR op_eq (pv 3) pe_str (nomark _)) (pw_or1 (pt_cmpR op_eq (pv 3) pe_str (nomark _))))))
  (pss_one (ps_ret (pe_cmpR op_ge (pv 4) pe_int (nomark _))))
  pss_nil)
(pss_one (ps_ret (pe_cmpR op_eq (pv 4) pe_int (nomark _))))))))))), ?_⟩
    unfold fitsA at k
    refine ⟨_, rfl, t, _, rfl, SqT.of ht, rfl, _, _, rfl, _, _, rfl, rfl, ?_⟩
    have ch : ∀ {p q : Prop} [Decidable p] [Decidable q], p → decide (p ∧ q) = decide q := fun hp => by simp [hp]
    have cf : ∀ {p q : Prop} [Decidable p] [Decidable q], ¬ p → decide (p ∧ q) = false := fun hp => by simp [hp]
    have two : ∀ {lo hi : Prop} [Decidable lo] [Decidable hi], Q (.bl (decide (lo ∧ hi))) H → (lo → Q (.bl (decide hi)) H) ∧ (¬ lo → Q (.bl false) H) := fun z => ⟨fun hp => by rwa [ch hp] at z, fun hp => by rwa [cf hp] at z⟩
    have ne : ∀ {y : Str}, ¬ V.str n = V.str y → ¬ n = y := fun h z => h (congrArg V.str z)
    refine ⟨_, rfl, rfl, _, rfl, iteD (fun e => ?_) (fun e => ?_)⟩
    · rw [if_pos (V.str.inj e)] at k
      exact ⟨_, rfl, _, _, rfl, rfl, _, rfl, iteD (fun h => ⟨_, _, rfl, rfl, (two k).1 h⟩) (fun h => (two k).2 h)⟩
    rw [if_neg (ne e)] at k
    have slotsCase : (n = "load" ∨ n = "store") → ∃ x, some (some (V.int a)) = some (some x) ∧ ∃ i j : Int, V.int 0 = .int i ∧ x = .int j ∧ ∃ c, V.bl (decide (i ≤ j)) = .bl c ∧ if c = true then ∃ y, some (some (V.int sl)) = some (some y) ∧ ∃ i' j' : Int, x = .int i' ∧ y = .int j' ∧ Q (.bl (decide (i' < j'))) H else Q (.bl false) H := fun e2 => by
      rw [if_pos e2] at k
      exact ⟨_, rfl, _, _, rfl, rfl, _, rfl, iteD (fun h => ⟨_, rfl, _, _, rfl, rfl, (two k).1 h⟩) (fun h => (two k).2 h)⟩
    refine ⟨_, rfl, rfl, _, rfl, iteD (fun e => slotsCase (.inl (V.str.inj e))) (fun e => ⟨_, rfl, rfl, _, rfl, iteD (fun e2 => slotsCase (.inr (V.str.inj e2))) (fun e2 => ?_)⟩)⟩
    rw [if_neg (fun z => z.elim (ne e) (ne e2))] at k
    refine ⟨_, rfl, rfl, _, rfl, iteD (fun e => ?_) (fun e => ?_)⟩
    · rw [if_pos (V.str.inj e)] at k
      exact ⟨_, rfl, _, _, rfl, rfl, _, rfl, iteD (fun h => ⟨_, _, rfl, .inr (T.q_SIGNS _), _, _, rfl, rfl, (two k).1 h⟩) (fun h => (two k).2 h)⟩
    rw [if_neg (ne e)] at k
    refine ⟨_, rfl, rfl, _, rfl, iteD (fun e => ?_) (fun e => ?_)⟩
    · rw [if_pos (V.str.inj e)] at k
      exact ⟨_, rfl, _, _, rfl, rfl, _, rfl, iteD (fun h => ⟨_, _, rfl, rfl, (two k).1 h⟩) (fun h => (two k).2 h)⟩
    rw [if_neg (ne e)] at k
    refine ⟨_, rfl, rfl, _, rfl, iteD (fun e => ?_) (fun e => ?_)⟩
    · rw [if_pos (V.str.inj e)] at k
      exact ⟨_, rfl, _, _, rfl, rfl, _, rfl, iteD (fun h => ⟨_, rfl, _, _, rfl, rfl, (two k).1 h⟩) (fun h => (two k).2 h)⟩
    rw [if_neg (ne e)] at k
    have geCase : (n = "jump" ∨ n = "skip" ∨ n = "back") → Q (.bl (decide (a ≥ 0))) H := fun e2 => by rwa [if_pos e2] at k
    refine ⟨_, rfl, rfl, _, rfl, iteD (fun e => ⟨_, rfl, _, _, rfl, rfl, geCase (.inl (V.str.inj e))⟩) (fun e => ⟨_, rfl, rfl, _, rfl, iteD (fun e2 => ⟨_, rfl, _, _, rfl, rfl, geCase (.inr (.inl (V.str.inj e2)))⟩) (fun e2 => ⟨_, rfl, rfl, _, rfl, iteD (fun e3 => ⟨_, rfl, _, _, rfl, rfl, geCase (.inr (.inr (V.str.inj e3)))⟩) (fun e3 => ?_)⟩)⟩)⟩
    rw [if_neg (fun z => z.elim (ne e) fun z => z.elim (ne e2) (ne e3))] at k
    refine ⟨_, rfl, rfl, ?_⟩
    have : decide (V.int a = V.int 0) = decide (a = 0) := by simp
    rw [this]; exact k
theorem ok_tgts {f : Addr} {fd : FuncData} (D : C8.Def K mg "targets_of" s_targets_of f fd) (b : Binds K fd ["at", "instruction"] []) (T : Txt K mg C_Tape C_Thinker C_Brain C_Mind C_Frame C_Thinking C_Checker T_EVENTS T_SIGNS T_ROUND_NAMES T_BRAIN_NAMES T_EFFECTS) : C8.Cal P w K mg base 1 "targets_of" (sp_tgts K) [] := by
  refine cal0 D b .nil sc_targets_of (fun vs H Q E h => ?_) (fun cdv A outer s H vs Q E hr h => ?_)
  · obtain ⟨t, n, a, i, rfl, _⟩ := h
    rfl
  · obtain ⟨t, n, a, i, rfl, ht, k⟩ := h
    refine ⟨_, (pss_cons (ps_asg (pv 1) (pg_tup (by rfl) (pgs_cons (pg_name (i := 2) sc_targets_of.nd rfl (by first | exact Or.inl rfl | exact Or.inr rfl)) (pgs_cons (pg_name (i := 3) sc_targets_of.nd rfl (by first | exact Or.inl rfl | exact Or.inr rfl)) pgs_nil))))
(pss_cons (ps_if (PW.pt (pw_or (pt_cmpR op_eq (pv 2) pe_str (nomark _)) (pw_or1 (pt_cmpR op_eq (pv 2) pe_str (nomark _)))))
  (pss_one (ps_ret (pe_lst pa_nil)))
  pss_nil)
(pss_cons (ps_if (pt_cmpR op_eq (pv 2) pe_str (nomark _))
  (pss_one (ps_ret (pe_lst (pa_cons (pe_op op_add (pe_op op_add (pv 0) pe_int) (pv 3)) pa_nil))))
  pss_nil)
(pss_cons (ps_if (pt_cmpR op_eq (pv 2) pe_str (nomark _))
  (pss_one (ps_ret (pe_lst (pa_cons (pe_op op_add (pv 0) pe_int) (pa_cons (pe_op op_add (pe_op op_add (pv 0) pe_int) (pv 3)) pa_nil)))))
  pss_nil)
(pss_one (ps_ret (pe_lst (pa_cons (pe_op op_add (pv 0) pe_int) pa_nil)))))))), ?_⟩
    unfold tgts at k
    have ne : ∀ {y : Str}, ¬ V.str n = V.str y → ¬ n = y := fun h z => h (congrArg V.str z)
    refine ⟨_, rfl, t, _, rfl, SqT.of ht, rfl, _, _, rfl, _, _, rfl, rfl, ?_⟩
    have c0 : (n = "end" ∨ n = "back") → 0 ≤ sizeLine ∧ ∀ p, H p = none → Q (.ref p) (upd H p (.lst [])) := fun e => by
      rw [if_pos e] at k
      exact ⟨Nat.zero_le _, fun p np => k p _ np upd_same (Keep.new np)⟩
    refine ⟨_, rfl, rfl, _, rfl, iteD (fun e => c0 (.inl (V.str.inj e))) (fun e => ⟨_, rfl, rfl, _, rfl, iteD (fun e2 => c0 (.inr (V.str.inj e2))) (fun e2 => ?_)⟩)⟩
    rw [if_neg (fun z => z.elim (ne e) (ne e2))] at k
    refine ⟨_, rfl, rfl, _, rfl, iteD (fun e => ?_) (fun e => ?_)⟩
    · rw [if_pos (V.str.inj e)] at k
      exact ⟨_, rfl, _, _, rfl, rfl, _, rfl, _, _, rfl, rfl, by show 1 ≤ sizeLine; decide, fun p np => k p _ np upd_same (Keep.new np)⟩
    rw [if_neg (ne e)] at k
    refine ⟨_, rfl, rfl, _, rfl, iteD (fun e => ?_) (fun e => ?_)⟩
    · rw [if_pos (V.str.inj e)] at k
      exact ⟨_, rfl, _, _, rfl, rfl, _, rfl, _, _, rfl, rfl, _, rfl, _, _, rfl, rfl, by show 2 ≤ sizeLine; decide, fun p np => k p _ np upd_same (Keep.new np)⟩
    rw [if_neg (ne e)] at k
    exact ⟨_, rfl, _, _, rfl, rfl, by show 1 ≤ sizeLine; decide, fun p np => k p _ np upd_same (Keep.new np)⟩
end

theorem nm_ok : ∀ n ∈ allNm ++ (["", "halt", "push ", "pushes"] : List Str), PyData.strOk n = true := by decide +kernel
theorem shp {n : Str} {a : Int} (h : PyData.strOk n = true) : SeqAt.shaped (.tuple [.str n, .int a]) = true := by
  simp [SeqAt.shaped, PyData.canLay0, PyData.canLayAll0, PyData.depth, PyData.depthAll, h]
theorem eqv_ins (n m : Str) (a c : Int) : PyData.eqv (.tuple [.str n, .int a]) (.tuple [.str m, .int c]) = decide ((n, a) = (m, c)) := by
  have e1 : PyData.eqv (.str n) (.str m) = decide (n = m) := by
    by_cases h : n = m
    · subst h; simp [PyData.eqv]
    · simp [PyData.eqv, h]
  have e2 : PyData.eqv (.int a) (.int c) = decide (a = c) := by
    by_cases h : a = c
    · subst h; simp [PyData.eqv]
    · simp [PyData.eqv, h]
  have e3 : PyData.eqv (.tuple [.str n, .int a]) (.tuple [.str m, .int c]) = (PyData.eqv (.str n) (.str m) && (PyData.eqv (.int a) (.int c) && true)) := by
    simp [PyData.eqv, PyData.eqvAll]
  rw [e3, e1, e2]
  by_cases h : n = m <;> by_cases g : a = c <;> simp [h, g]
theorem dpIns {K : PySem.W.Frag} {H : Hp} {t : Addr} {n : Str} {a : Int} (h : H t = some (.tup [.str n, .int a])) : Dp K H (.ref t) (.tuple [.str n, .int a]) := .tup (SqT.of h) (.cons (.str n) (.cons (.int a) .nil))
theorem ChkAt.sq {K : PySem.W.Frag} {C : Addr} {H : Hp} {x c d : Addr} {cs : List In2} {sl mo : Int} {b : Bool} {h : Hts} {top : Int} {m : Nat} (z : ChkAt C H x c d cs sl mo b h top m) : ∃ xs, (SqL K H c xs ∨ SqT K H c xs) ∧ Prs H xs cs := by
  obtain ⟨xs, h1, h2⟩ := z.c
  exact ⟨xs, h1.elim (fun w => .inl (SqL.of w)) fun w => .inr (SqT.of w), h2⟩
theorem HtsAt.isD {H : Hp} {d : Addr} {h : Hts} {m : Nat} (z : HtsAt H d h m) : IsD H d := by
  obtain ⟨kvs, h1, _⟩ := z
  exact .inl ⟨kvs, .inl h1⟩
theorem ChkAt.keepD {C : Addr} {H H' : Hp} {x c d : Addr} {cs : List In2} {sl mo : Int} {b : Bool} {h h' : Hts} {top : Int} {m m' : Nat} {o : HO} (z : ChkAt C H x c d cs sl mo b h top m) (e : H' = upd H d o) (w : HtsAt H' d h' m') : ChkAt C H' x c d cs sl mo b h' top m' := by
  obtain ⟨⟨dx, o1⟩, c1, ⟨kvs, d1, _⟩⟩ := z
  obtain ⟨xs, h1, h2⟩ := c1
  subst e
  refine ⟨⟨dx, by rw [upd_ne (ne_of o1 d1 (by intro z; cases z))]; exact o1⟩, ⟨xs, ?_, h2.tk fun b ys q => by rw [upd_ne (ne_of q d1 (by intro z; cases z))]; exact q⟩, w⟩
  rcases h1 with h1 | h1
  · left; rw [upd_ne (ne_of h1 d1 (by intro z; cases z))]; exact h1
  · right; rw [upd_ne (ne_of h1 d1 (by intro z; cases z))]; exact h1
theorem ChkAt.keep0 {C : Addr} {H H' : Hp} {x c d : Addr} {cs : List In2} {sl mo : Int} {b : Bool} {h : Hts} {top : Int} {m : Nat} (z : ChkAt C H x c d cs sl mo b h top m) (k : Keep [] H H') : ChkAt C H' x c d cs sl mo b h top m := by
  obtain ⟨⟨dx, o1⟩, c1, ⟨kvs, d1, d2⟩⟩ := z
  exact ⟨⟨dx, k _ _ o1 (by simp)⟩, c1.keep k k.tk (by simp), ⟨kvs, k _ _ d1 (by simp), d2⟩⟩
def sp_chk (C : Addr) : Sp := fun vs H Q _ => ∃ (x dx c : Addr) (cs : List In2) (sl mo : Int) (b : Bool), vs = [.ref x, .ref c, .int sl, .int mo, .bl b] ∧ H x = some (.ins C dx []) ∧ CodeAt H c cs ∧ ∀ d H', H d = none → Keep [x] H H' → ChkAt C H' x c d cs sl mo b h0 0 1 → Q .non H'
def sp_reaches (C : Addr) : Sp := fun vs H Q _ => ∃ (x c d l : Addr) (cs : List In2) (sl mo : Int) (b : Bool) (h : Hts) (top : Int) (m : Nat) (ts : List Int) (v : Int), vs = [.ref x, .ref l, .int v] ∧ ChkAt C H x c d cs sl mo b h top m ∧ H l = some (.lst (ts.map V.int)) ∧ m + ts.length < 1000000 ∧ cs.length ≤ 1000000 ∧
  ((∀ h' H', reach cs.length v ts h = some h' → ChkAt C H' x c d cs sl mo b h' top (m + ts.length) → Keep [d] H H' → Q (.bl true) H') ∧ (∀ H', reach cs.length v ts h = none → Keep [d] H H' → Q (.bl false) H'))
def sp_returns (C : Addr) : Sp := fun vs H Q _ => ∃ (x c d : Addr) (cs : List In2) (sl mo : Int) (b : Bool) (h : Hts) (top : Int) (m : Nat) (i t v : Int), vs = [.ref x, .int i, .int t] ∧ ChkAt C H x c d cs sl mo b h top m ∧ NmOk cs ∧ i < (cs.length : Int) ∧ h i = some v ∧ (∀ j : Int, 0 ≤ j → j < i → (h j).isSome) ∧
  ∀ H', Keep [] H H' → Q (.bl (backOk cs h i t)) H'
section
variable {P : Program} {w : World} {K : PySem.W.Frag} {mg : Str → Option Value} {base : Heap} {C_Tape : Addr} {C_Thinker : Addr} {C_Brain : Addr} {C_Mind : Addr} {C_Frame : Addr} {C_Thinking : Addr} {C_Checker : Addr} {T_EVENTS : Addr} {T_SIGNS : Addr} {T_ROUND_NAMES : Addr} {T_BRAIN_NAMES : Addr} {T_EFFECTS : Addr}
theorem ok_chk_init {f : Addr} {fd : FuncData} (M : Mk K C_Checker f) (F : C8.Fun K "__init__" "Checker.__init__" s_Checker___init f fd) (b : Binds K fd ["self", "code", "slots", "moves", "thinking"] []) (T : Txt K mg C_Tape C_Thinker C_Brain C_Mind C_Frame C_Thinking C_Checker T_EVENTS T_SIGNS T_ROUND_NAMES T_BRAIN_NAMES T_EFFECTS) : C8.Mak P w K mg base 1 "Checker" C_Checker (sp_chk C_Checker) [] := by
  refine mak0 M T.m_Checker F b .nil sc_Checker___init (fun vs H Q E h => ?_) (fun cdv A outer s H vs Q E hr h => ?_)
  · obtain ⟨x, dx, c, cs, sl, mo, b, rfl, _⟩ := h
    rfl
  · obtain ⟨x, dx, c, cs, sl, mo, b, rfl, hx, hc, k⟩ := h
    refine ⟨_, (pss_cons (ps_fld (pv 0) (pv 1) rfl)
(pss_cons (ps_fld (pv 0) (pv 2) rfl)
(pss_cons (ps_fld (pv 0) (pv 3) rfl)
(pss_cons (ps_fld (pv 0) (pv 4) rfl)
(pss_cons (ps_fld (pv 0) (pe_disp (pps_cons pe_int pe_int pps_nil) (by rfl) (by rfl) (fun z => by cases z) (by decide)) rfl)
(pss_one (ps_fld (pv 0) pe_int rfl))))))), ?_⟩
    refine ⟨_, rfl, _, rfl, x, C_Checker, dx, [], rfl, hx, T.cl_Checker, T.a_Checker_code, by show 0 < 1000; decide, ?_⟩
    refine ⟨_, rfl, _, rfl, x, C_Checker, dx, _, rfl, upd_same, T.cl_Checker, T.a_Checker_slots, by show 1 < 1000; decide, ?_⟩
    refine ⟨_, rfl, _, rfl, x, C_Checker, dx, _, rfl, upd_same, T.cl_Checker, T.a_Checker_moves, by show 2 < 1000; decide, ?_⟩
    refine ⟨_, rfl, _, rfl, x, C_Checker, dx, _, rfl, upd_same, T.cl_Checker, T.a_Checker_thinking, by show 3 < 1000; decide, ?_⟩
    refine fun d nd => ⟨upd_same, [(.inl 0, .int 0)], rfl, by decide, ?_⟩
    have exd : x ≠ d := ne_of_none upd_same nd
    refine ⟨_, rfl, x, C_Checker, dx, _, rfl, by rw [upd_ne exd, upd_ne exd]; exact upd_same, T.cl_Checker, T.a_Checker_heights, by show 4 < 1000; decide, ?_⟩
    refine ⟨_, rfl, x, C_Checker, dx, _, rfl, upd_same, T.cl_Checker, T.a_Checker_highest, by show 5 < 1000; decide, ?_⟩
    have nd0 : H d = none := by
      rw [upd_ne exd.symm, upd_ne exd.symm, upd_ne exd.symm, upd_ne exd.symm] at nd
      exact nd
    refine (?_ : ∀ H9 : Hp, H9 = _ → Q .non H9) _ rfl
    intro H9 e9
    have mx : x ∈ [x] := List.mem_singleton.mpr rfl
    have kk : Keep [x] H H9 := by
      rw [e9]
      exact ((((((((Keep.at_ mx).then_at mx).then_at mx).then_at mx).then_own nd0).then_own nd0).then_at mx).then_at mx)
    refine k d _ nd0 kk ⟨⟨dx, by rw [e9]; exact upd_same⟩, ?_, ⟨[(.inl 0, .int 0)], ?_, Nat.le_refl _, fun i => ?_⟩⟩
    · have ncx : c ≠ x := by
        obtain ⟨xs, h1, _⟩ := hc
        rcases h1 with h1 | h1 <;> exact ne_of h1 hx (by intro z; cases z)
      refine hc.keep kk (fun e ys q => kk _ _ q ?_) (by simpa using ncx)
      have := ne_of q hx (by intro z; cases z)
      simpa using this
    · rw [e9, upd_ne exd.symm, upd_ne exd.symm]; exact upd_same
    · unfold h0
      by_cases e : i = 0
      · subst e; rfl
      · rw [if_neg e, valV_neg (fun z => e (Sum.inl.inj z).symm)]; rfl
theorem ok_reaches {f : Addr} {fd : FuncData} (me : Meth K C_Checker "reaches" f) (F : C8.Fun K "reaches" "Checker.reaches" s_Checker_reaches f fd) (b : Binds K fd ["self", "targets", "height"] []) (T : Txt K mg C_Tape C_Thinker C_Brain C_Mind C_Frame C_Thinking C_Checker T_EVENTS T_SIGNS T_ROUND_NAMES T_BRAIN_NAMES T_EFFECTS) : C8.Met P w K mg base 1 C_Checker "reaches" (sp_reaches C_Checker) [] := by
  refine met0 T.cl_Checker me F b sc_Checker_reaches (fun vs H Q E h => ?_) (fun cdv A outer s H vs Q E hr h => ?_)
  · obtain ⟨x, c, d, l, cs, sl, mo, b, h, top, m, ts, v, rfl, _⟩ := h
    rfl
  · obtain ⟨x, c, d, l, cs, sl, mo, b, h, top, m, ts, v, rfl, hC, hl, hm, hn, kT, kF⟩ := h
    have hu := hu_of hr
    refine ⟨_, (pss_cons (ps_for PassesOwn.never rfl (pi_list (pv 1)) (pg_name (i := 3) sc_Checker_reaches.nd rfl (by first | exact Or.inl rfl | exact Or.inr rfl))
  (pss_cons (ps_if (PW.pt (pw_or (pt_cmpR op_ge (pv 3) (pe_callB call_len_seq (by rfl) T.n_len bo_len (pa_cons (pe_fld (pv 0) rfl) pa_nil)) (nomark _)) (pw_or1 (pt_cmpR op_ne (pe_dget2 hu (pe_fld (pv 0) rfl) (pv 3) (pv 2) ⟨rfl, by rfl, rfl, rfl⟩) (pv 2) (nomark _)))))
    (pss_one (ps_ret pe_bl))
    pss_nil)
  (pss_one (ps_dput hu (pe_fld (pv 0) rfl) (pv 3) (pv 2) (by rfl)))))
(pss_one (ps_ret pe_bl))), ?_⟩
    have nld : l ∉ [d] := by
      obtain ⟨kvs, d1, _⟩ := hC.d
      simpa using ne_of hl d1 (by intro z; cases z)
    refine ⟨_, rfl, l, rfl, ⟨_, SqL.of hl⟩, for_list (K := K) (a := l) (xs := ts.map V.int) (fun i σ H' => ∃ (hi : Hts) (o3 : Option V), σ = [some (.ref x), some (.ref l), some (.int v), o3] ∧ ChkAt C_Checker H' x c d cs sl mo b hi top (m + i) ∧ reach cs.length v ts h = reach cs.length v (ts.drop i) hi ∧ Keep [d] H H')
      ⟨h, none, rfl, hC, rfl, Keep.refl _ _⟩ (fun i σ H' _ ⟨_, _, _, _, _, kk⟩ => SqL.of (kk _ _ hl nld)) ?_ ?_⟩
    · rintro i y σ H' hi ⟨hh, o3, rfl, hC', hre, kk⟩
      obtain ⟨t, ht, rfl⟩ := ints_get hi
      obtain ⟨hlt, he⟩ := List.getElem?_eq_some_iff.mp ht
      rw [List.drop_eq_getElem_cons hlt, he] at hre
      obtain ⟨dx, ho⟩ := hC'.o
      obtain ⟨xs, sq, prs⟩ := hC'.sq (K := K)
      have hlen := prs.len
      have go : ¬ t ≥ (cs.length : Int) → ¬ (hh t).getD v ≠ v → reach cs.length v ts h = reach cs.length v (ts.drop (i + 1)) (setH hh t v) := fun h1 h2 => by
        rw [hre]
        show (if t ≥ (cs.length : Int) ∨ (hh t).getD v ≠ v then none else reach cs.length v (ts.drop (i + 1)) (setH hh t v)) = _
        rw [if_neg (fun z => z.elim h1 h2)]
      have no : (t ≥ (cs.length : Int) ∨ (hh t).getD v ≠ v) → reach cs.length v ts h = none := fun z => by
        rw [hre]
        exact if_pos z
      refine ⟨_, rfl, _, rfl, x, C_Checker, dx, _, _, rfl, ho, T.cl_Checker, T.a_Checker_code, rfl, _, _, rfl, sq, _, _, rfl, rfl, _, rfl, iteD (fun h1 => ?_) (fun h1 => ?_)⟩
      · exact kF _ (no (.inl (by rw [hlen] at h1; exact h1))) kk
      refine ⟨_, rfl, x, C_Checker, dx, _, _, rfl, ho, T.cl_Checker, T.a_Checker_heights, rfl, d, rfl, hC'.d.isD, _, rfl, _, rfl, _, hC'.d.get t, _, rfl, ?_, _, rfl, ?_⟩
      · cases hh t <;> rfl
      have eg : ((hh t).map V.int).getD (.int v) = .int ((hh t).getD v) := by cases hh t <;> rfl
      rw [eg]
      refine iteN (fun h2 => ?_) (fun h2 => ?_)
      · exact kF _ (no (.inr fun z => h2 (congrArg V.int z))) kk
      obtain ⟨H2, dp, ha, ⟨od, hod, kvs0, _⟩, o', eH⟩ := hC'.d.put t v (show m + i < 1000000 by
        have : i < ts.length := hlt
        omega)
      refine ⟨_, rfl, _, rfl, x, C_Checker, dx, _, _, rfl, ho, T.cl_Checker, T.a_Checker_heights, rfl, _, rfl, d, H2, rfl, dp, ?_⟩
      refine ⟨_, _, rfl, hC'.keepD eH ha, go (by rw [hlen] at h1; exact h1) (fun z => z (V.int.inj h2)), ?_⟩
      rw [eH]
      exact kk.then_at (List.mem_singleton.mpr rfl)
    · rintro σ H' ⟨hh, o3, rfl, hC', hre, kk⟩
      rw [List.length_map] at hC' hre
      rw [List.drop_of_length_le (Nat.le_refl _)] at hre
      exact kT hh _ hre hC' kk
theorem ok_returns {f : Addr} {fd : FuncData} (me : Meth K C_Checker "returns" f) (F : C8.Fun K "returns" "Checker.returns" s_Checker_returns f fd) (b : Binds K fd ["self", "at", "target"] []) (T : Txt K mg C_Tape C_Thinker C_Brain C_Mind C_Frame C_Thinking C_Checker T_EVENTS T_SIGNS T_ROUND_NAMES T_BRAIN_NAMES T_EFFECTS) : C8.Met P w K mg base 1 C_Checker "returns" (sp_returns C_Checker) [] := by
  refine met0 T.cl_Checker me F b sc_Checker_returns (fun vs H Q E h => ?_) (fun cdv A outer s H vs Q E hr h => ?_)
  · obtain ⟨x, c, d, cs, sl, mo, b, h, top, m, i, t, v, rfl, _⟩ := h
    rfl
  · obtain ⟨x, c, d, cs, sl, mo, b, h, top, m, i, t, v, rfl, hC, hnm, hi, hv, hall, k⟩ := h
    have hu := hu_of hr
    refine ⟨_, (pss_cons (ps_if (PW.pt (pw_or (pt_not (pt_chain op_le op_lt pe_int (pv 2) (pv 1))) (pw_or1 (pt_cmpR (op_neD hr.units) (pe_ix ix_seq (pe_fld (pv 0) rfl) (pv 2) (fun _ _ => rfl)) (pe_tup (pa_cons pe_str (pa_cons pe_int pa_nil))) (nomark _)))))
  (pss_one (ps_ret pe_bl))
  pss_nil)
(pss_one (ps_ret (pe_cmpR op_eq (pe_dget hu (pe_fld (pv 0) rfl) (pv 2) (fun _ _ => rfl)) (pe_dget hu (pe_fld (pv 0) rfl) (pv 1) (fun _ _ => rfl)) (nomark _))))), ?_⟩
    unfold backOk at k
    obtain ⟨dx, ho⟩ := hC.o
    obtain ⟨xs, sq, prs⟩ := hC.sq (K := K)
    have out : ¬ (0 ≤ t ∧ t < i) → Q (.bl false) H := fun z => by
      have := k H (Keep.refl _ _)
      rw [decide_eq_false z] at this
      exact this
    refine ⟨_, rfl, _, _, rfl, rfl, _, rfl, iteD (fun h1 => ⟨_, rfl, _, _, rfl, rfl, _, rfl, iteN (fun h2 => out fun z => h2 z.2) (fun h2 => ?_)⟩) (fun h1 => ⟨_, rfl, iteT (out fun z => h1 z.1)⟩)⟩
    have hlt : t.toNat < cs.length := by omega
    have ht : cs[t.toNat]? = some cs[t.toNat] := List.getElem?_eq_getElem _
    have hmem : cs[t.toNat] ∈ cs := List.getElem_mem _
    generalize cs[t.toNat] = p at ht hmem
    obtain ⟨n, a⟩ := p
    obtain ⟨u, hu1, hu2⟩ := prs.get ht
    have et : t = ((t.toNat : Nat) : Int) := by omega
    have hnn : PyData.strOk n = true := nm_ok n (hnm (n, a) hmem)
    have atu : atI xs t = some (.ref u) := by rw [et]; exact atI_nat hu1
    have ixr : ∀ {Q' : VK}, Q' (.ref u) H → rIxL K (.ref c) (.int t) H Q' ∨ rIxT K (.ref c) (.int t) H Q' ∨ rIxS (.ref c) (.int t) H Q' := fun q => sq.elim (fun w => .inl ⟨_, _, _, _, rfl, rfl, w, atu, q⟩) fun w => .inr (.inl ⟨_, _, _, _, rfl, rfl, w, atu, q⟩)
    refine ⟨_, rfl, x, C_Checker, dx, _, _, rfl, ho, T.cl_Checker, T.a_Checker_code, rfl, _, rfl, ixr ?_⟩
    refine ⟨by show 2 ≤ sizeLine; decide, fun w nw => ?_⟩
    have k1 : Keep [] H (upd H w (.tup [.str "unit", .int 0])) := Keep.new nw
    refine ⟨_, _, dpIns (k1 _ _ hu2 (by simp)), dpIns upd_same, shp hnn, shp (by decide +kernel), _, rfl, ?_⟩
    rw [eqv_ins]
    have kk := k _ k1
    rw [decide_eq_true (show 0 ≤ t ∧ t < i from ⟨h1, h2⟩), ht] at kk
    refine iteN (fun e => ?_) (fun e => ?_)
    · rw [decide_eq_false (fun z => e (Option.some.inj z))] at kk
      exact kk
    · rw [decide_eq_true (congrArg some e)] at kk
      have hC1 := hC.keep0 k1
      obtain ⟨dx1, ho1⟩ := hC1.o
      obtain ⟨v', hv'⟩ := Option.isSome_iff_exists.mp (hall t h1 h2)
      have g1 := hC1.d.get t
      have g2 := hC1.d.get i
      rw [hv'] at g1
      rw [hv] at g2
      refine ⟨_, rfl, x, C_Checker, dx1, _, _, rfl, ho1, T.cl_Checker, T.a_Checker_heights, rfl, _, rfl, d, _, rfl, g1, _, rfl, x, C_Checker, dx1, _, _, rfl, ho1, T.cl_Checker, T.a_Checker_heights, rfl, _, rfl, d, _, rfl, g2, rfl, ?_⟩
      have e2 : decide (h t = h i) = decide (V.int v' = V.int v) := by
        rw [hv', hv]; simp
      rw [e2] at kk
      exact kk
end

theorem ChkAt.setTop {C : Addr} {H : Hp} {x c d : Addr} {cs : List In2} {sl mo : Int} {b : Bool} {h : Hts} {top top' : Int} {m : Nat} {dx : Addr} (z : ChkAt C H x c d cs sl mo b h top m) (ho : H x = some (.ins C dx (chkF c d sl mo b top))) : ChkAt C (upd H x (.ins C dx (chkF c d sl mo b top'))) x c d cs sl mo b h top' m := by
  obtain ⟨_, ⟨xs, h1, h2⟩, ⟨kvs, d1, d2⟩⟩ := z
  refine ⟨⟨dx, upd_same⟩, ⟨xs, ?_, h2.tk fun e ys q => by rw [upd_ne (ne_of q ho (by intro z; cases z))]; exact q⟩, ⟨kvs, by rw [upd_ne (ne_of d1 ho (by intro z; cases z))]; exact d1, d2⟩⟩
  rcases h1 with h1 | h1
  · left; rw [upd_ne (ne_of h1 ho (by intro z; cases z))]; exact h1
  · right; rw [upd_ne (ne_of h1 ho (by intro z; cases z))]; exact h1
theorem HtsAt.mono {H : Hp} {d : Addr} {h : Hts} {m m' : Nat} (z : HtsAt H d h m) (e : m ≤ m') : HtsAt H d h m' := by
  obtain ⟨kvs, h1, h2, h3⟩ := z
  exact ⟨kvs, h1, Nat.le_trans h2 e, h3⟩
theorem ChkAt.mono {C : Addr} {H : Hp} {x c d : Addr} {cs : List In2} {sl mo : Int} {b : Bool} {h : Hts} {top : Int} {m m' : Nat} (z : ChkAt C H x c d cs sl mo b h top m) (e : m ≤ m') : ChkAt C H x c d cs sl mo b h top m' := ⟨z.o, z.c, z.d.mono e⟩
def EffOk (K : PySem.W.Frag) (w : World) (TE : Addr) : Prop := ∀ n ∈ allNm, ∃ tp, KDct K w TE n (.ref tp) ∧ ∀ H : Hp, SqT K H tp [.int (eff n).1, .int (eff n).2]
theorem nms_all : ∀ b : Bool, ∀ n ∈ nmsOf b, n ∈ allNm := by decide +kernel
theorem tgts_len (i : Int) (n : Str) (a : Int) : (tgts i n a).length ≤ 2 := by
  unfold tgts
  split
  · simp
  · split
    · simp
    · split <;> simp
def sp_good (C : Addr) : Sp := fun vs H Q _ => ∃ (x c d : Addr) (cs : List In2) (sl mo : Int) (b : Bool) (h : Hts) (top : Int) (m : Nat) (i : Nat) (n : Str) (a : Int), vs = [.ref x, .int (i : Int)] ∧ ChkAt C H x c d cs sl mo b h top m ∧ NmOk cs ∧ cs[i]? = some (n, a) ∧ m + 2 < 1000000 ∧ cs.length ≤ 1000000 ∧ (∀ j : Int, 0 ≤ j → j < (i : Int) → (h j).isSome) ∧
  ((∀ r H', good1 cs sl mo b (i : Int) n a h top = some r → ChkAt C H' x c d cs sl mo b r.1 r.2 (m + 2) → Keep [x, d] H H' → Q (.bl true) H') ∧ (∀ H', good1 cs sl mo b (i : Int) n a h top = none → Keep [x, d] H H' → Q (.bl false) H'))
section
variable {P : Program} {w : World} {K : PySem.W.Frag} {mg : Str → Option Value} {base : Heap} {C_Tape : Addr} {C_Thinker : Addr} {C_Brain : Addr} {C_Mind : Addr} {C_Frame : Addr} {C_Thinking : Addr} {C_Checker : Addr} {T_EVENTS : Addr} {T_SIGNS : Addr} {T_ROUND_NAMES : Addr} {T_BRAIN_NAMES : Addr} {T_EFFECTS : Addr}
theorem ok_good {f : Addr} {fd : FuncData} (me : Meth K C_Checker "good" f) (F : C8.Fun K "good" "Checker.good" s_Checker_good f fd) (b : Binds K fd ["self", "at"] []) (T : Txt K mg C_Tape C_Thinker C_Brain C_Mind C_Frame C_Thinking C_Checker T_EVENTS T_SIGNS T_ROUND_NAMES T_BRAIN_NAMES T_EFFECTS) (hE : EffOk K w T_EFFECTS) (c_argument_fits : C8.Cal P w K mg base 1 "argument_fits" (sp_fits K) []) (c_targets_of : C8.Cal P w K mg base 1 "targets_of" (sp_tgts K) [])
    (c_Checker_returns : C8.Met P w K mg base 1 C_Checker "returns" (sp_returns C_Checker) []) (c_Checker_reaches : C8.Met P w K mg base 1 C_Checker "reaches" (sp_reaches C_Checker) []) : C8.Met P w K mg base 2 C_Checker "good" (sp_good C_Checker) [] := by
  refine met0 T.cl_Checker me F b sc_Checker_good (fun vs H Q E h => ?_) (fun cdv A outer s H vs Q E hr h => ?_)
  · obtain ⟨x, c, d, cs, sl, mo, b, h, top, m, i, n, a, rfl, _⟩ := h
    rfl
  · obtain ⟨x, c, d, cs, sl, mo, b, h, top, m, i, n, a, rfl, hC, hnm, hi, hm, hn, hall, kT, kF⟩ := h
    have hu := hu_of hr
    refine ⟨_, (pss_cut (ps_set (i := 2) sc_Checker_good.nd rfl (by first | exact Or.inl rfl | exact Or.inr rfl) (pe_ifExp (pt_val (pe_fld (pv 0) rfl)) (pe_gc rfl T.v_BRAIN_NAMES) (pe_gc rfl T.v_ROUND_NAMES)))
(pss_cons (ps_set (i := 3) sc_Checker_good.nd rfl (by first | exact Or.inl rfl | exact Or.inr rfl) (pe_ix ix_seq (pe_fld (pv 0) rfl) (pv 1) (fun _ _ => rfl)))
(pss_cons (ps_if (PW.pt (pw_or (pt_cmp (pc_dnotin hu (pv 1) (pe_fld (pv 0) rfl))) (pw_or1 (pt_cmpR op_notIn_seq (pe_ix ix_tup (pv 3) pe_int (fun _ _ => rfl)) (pv 2) (by rfl)))))
  (pss_one (ps_ret pe_bl))
  pss_nil)
(pss_cons (ps_if (pt_not (pt_val (pe_c c_argument_fits hr (by first | exact Nat.le_refl _ | decide | omega) rfl (pa_cons (pv 3) (pa_cons (pe_fld (pv 0) rfl) (pa_cons (pe_fld (pv 0) rfl) pa_nil))))))
  (pss_one (ps_ret pe_bl))
  pss_nil)
(pss_cons (ps_asg (pe_ix ix_kdict (pe_gc rfl T.v_EFFECTS) (pe_ix ix_tup (pv 3) pe_int (fun _ _ => rfl)) (fun _ _ => rfl)) (pg_tup (by rfl) (pgs_cons (pg_name (i := 4) sc_Checker_good.nd rfl (by first | exact Or.inl rfl | exact Or.inr rfl)) (pgs_cons (pg_name (i := 5) sc_Checker_good.nd rfl (by first | exact Or.inl rfl | exact Or.inr rfl)) pgs_nil))))
(pss_cons (ps_set (i := 6) sc_Checker_good.nd rfl (by first | exact Or.inl rfl | exact Or.inr rfl) (pe_dget hu (pe_fld (pv 0) rfl) (pv 1) (fun _ _ => rfl)))
(pss_cons (ps_set (i := 7) sc_Checker_good.nd rfl (by first | exact Or.inl rfl | exact Or.inr rfl) (pe_op op_add (pe_op op_sub (pv 6) (pv 4)) (pv 5)))
(pss_cons (ps_if (PW.pt (pw_or (pt_cmpR op_lt (pv 6) (pv 4) (nomark _)) (pw_or1 (pt_cmpR op_gt (pv 7) (pe_gc rfl T.v_HIGHEST) (nomark _)))))
  (pss_one (ps_ret pe_bl))
  pss_nil)
(pss_cons (ps_fld (pv 0) (pe_callB (call_max2 rfl) (by rfl) T.n_max bo_max (pa_cons (pe_fld (pv 0) rfl) (pa_cons (pv 7) pa_nil))) rfl)
(pss_cons (ps_if (pt_cmpR op_eq (pe_ix ix_tup (pv 3) pe_int (fun _ _ => rfl)) pe_str (nomark _))
  (pss_one (ps_ret (pe_cmpR op_eq (pv 6) (pe_callTy call_int1 (by rfl) T.n_int bo_int (pa_cons (pe_fld (pv 0) rfl) pa_nil)) (nomark _))))
  pss_nil)
(pss_cons (ps_if (pt_cmpR op_eq (pe_ix ix_tup (pv 3) pe_int (fun _ _ => rfl)) pe_str (nomark _))
  (pss_one (ps_ret (pe_mt c_Checker_returns hr (by first | exact Nat.le_refl _ | decide | omega) (pv 0) (pa_cons (pv 1) (pa_cons (pe_op op_sub (pv 1) (pe_ix ix_tup (pv 3) pe_int (fun _ _ => rfl))) pa_nil)))))
  pss_nil)
(pss_one (ps_ret (pe_mt c_Checker_reaches hr (by first | exact Nat.le_refl _ | decide | omega) (pv 0) (pa_cons (pe_c c_targets_of hr (by first | exact Nat.le_refl _ | decide | omega) rfl (pa_cons (pv 1) (pa_cons (pv 3) pa_nil))) (pa_cons (pv 7) pa_nil)))))))))))))))), ?_⟩
    obtain ⟨dx, ho⟩ := hC.o
    obtain ⟨xs, sq, prs⟩ := hC.sq (K := K)
    have nx : ∀ {H1 H2 : Hp}, Keep [] H1 H2 → Keep [x, d] H1 H2 := fun k => k.mono (by simp)
    -- the names
    refine ⟨fun σ H' => H' = H ∧ ∃ tn : Addr, (∀ H0 : Hp, SqT K H0 tn ((nmsOf b).map V.str)) ∧ σ = [some (.ref x), some (.int (i : Int)), some (.ref tn), none, none, none, none, none], ?_, ?_⟩
    · refine ⟨_, rfl, x, C_Checker, dx, _, _, rfl, ho, T.cl_Checker, T.a_Checker_thinking, rfl, _, rfl, iteB (fun e => ?_) (fun e => ?_)⟩
      · subst e; exact ⟨rfl, _, T.q_BRAIN_NAMES, rfl⟩
      · subst e; exact ⟨rfl, _, T.q_ROUND_NAMES, rfl⟩
    rintro σ H' ⟨rfl, tn, htn, rfl⟩
    obtain ⟨u, hu1, hu2⟩ := prs.get hi
    have ixr : ∀ {Q' : VK}, Q' (.ref u) H' → rIxL K (.ref c) (.int (i : Int)) H' Q' ∨ rIxT K (.ref c) (.int (i : Int)) H' Q' ∨ rIxS (.ref c) (.int (i : Int)) H' Q' := fun q => sq.elim (fun w => .inl ⟨_, _, _, _, rfl, rfl, w, atI_nat hu1, q⟩) fun w => .inr (.inl ⟨_, _, _, _, rfl, rfl, w, atI_nat hu1, q⟩)
    refine ⟨_, rfl, x, C_Checker, dx, _, _, rfl, ho, T.cl_Checker, T.a_Checker_code, rfl, _, rfl, ixr ?_⟩
    have hg := hC.d.get (i : Int)
    unfold good1 at kT kF
    refine ⟨_, rfl, _, rfl, x, C_Checker, dx, _, _, rfl, ho, T.cl_Checker, T.a_Checker_heights, rfl, d, _, rfl, hg, _, rfl, ?_⟩
    cases hv : h (i : Int) with
    | none =>
      simp only [hv] at kF
      exact iteT (kF _ trivial (Keep.refl _ _))
    | some v =>
      rw [hv] at hg
      simp only [hv] at kT kF
      refine iteF ?_
      refine ⟨_, rfl, _, _, _, _, rfl, rfl, SqT.of hu2, rfl, _, rfl, _, _, rfl, .inr (htn _), rfl, flat_strs _, _, rfl, iteB (fun e => ?_) (fun e => ?_)⟩
      · have e' : (!inV (.str n) ((nmsOf b).map V.str)) = true := e
        rw [inV_strs] at e'
        have hno : n ∉ nmsOf b := by simpa using e'
        rw [if_pos hno] at kF
        exact kF _ rfl (Keep.refl _ _)
      have e' : (!inV (.str n) ((nmsOf b).map V.str)) = false := e
      rw [inV_strs] at e'
      have hin : n ∈ nmsOf b := by simpa using e'
      rw [if_neg (fun z => z hin)] at kT kF
      refine ⟨_, rfl, _, rfl, x, C_Checker, dx, _, _, rfl, ho, T.cl_Checker, T.a_Checker_slots, rfl, _, rfl, x, C_Checker, dx, _, _, rfl, ho, T.cl_Checker, T.a_Checker_moves, rfl, u, n, a, sl, mo, rfl, hu2, _, rfl, ?_⟩
      cases hf : fitsA n a sl mo with
      | false =>
        rw [if_pos hf] at kF
        exact iteT (kF _ rfl (Keep.refl _ _))
      | true =>
        rw [if_neg (by rw [hf]; simp)] at kT kF
        refine iteF ?_
        obtain ⟨tp, hkd, hsq⟩ := hE n (nms_all b n hin)
        refine ⟨_, rfl, _, _, _, _, rfl, rfl, SqT.of hu2, rfl, T_EFFECTS, n, _, rfl, rfl, hkd, tp, _, rfl, hsq _, rfl, _, _, rfl, _, _, rfl, rfl, ?_⟩
        refine ⟨_, rfl, x, C_Checker, dx, _, _, rfl, ho, T.cl_Checker, T.a_Checker_heights, rfl, _, rfl, d, _, rfl, hg, ?_⟩
        refine ⟨_, rfl, _, rfl, _, _, rfl, rfl, _, rfl, _, _, rfl, rfl, ?_⟩
        have bad : (v < (eff n).1 ∨ v - (eff n).1 + (eff n).2 > 16) → Q (.bl false) H' := fun z => by
          rw [if_pos z] at kF
          exact kF _ rfl (Keep.refl _ _)
        refine ⟨_, rfl, _, rfl, _, _, rfl, rfl, _, rfl, iteD (fun z => bad (.inl z)) (fun z1 => ⟨_, rfl, _, _, rfl, rfl, _, rfl, iteD (fun z => bad (.inr z)) (fun z2 => ?_)⟩)⟩
        rw [if_neg (fun z => z.elim z1 z2)] at kT kF
        refine ⟨_, rfl, x, C_Checker, dx, _, _, rfl, ho, T.cl_Checker, T.a_Checker_highest, rfl, _, rfl, _, _, rfl, _, rfl, x, C_Checker, dx, _, rfl, ho, T.cl_Checker, T.a_Checker_highest, by show 6 < 1000; decide, ?_⟩
        have hC1 := hC.setTop (top' := if v - (eff n).1 + (eff n).2 > top then v - (eff n).1 + (eff n).2 else top) ho
        have K1 : Keep [x, d] H' (upd H' x (.ins C_Checker dx (chkF c d sl mo b (if v - (eff n).1 + (eff n).2 > top then v - (eff n).1 + (eff n).2 else top)))) := Keep.at_ (by simp)
        have K0 : ∀ {e : Addr} {ys : List V}, H' e = some (.tup ys) → upd H' x (.ins C_Checker dx (chkF c d sl mo b (if v - (eff n).1 + (eff n).2 > top then v - (eff n).1 + (eff n).2 else top))) e = some (.tup ys) := fun q => by
          rw [upd_ne (ne_of q ho (by intro z; cases z))]; exact q
        have hu3 := K0 hu2
        have ho1 : upd H' x (.ins C_Checker dx (chkF c d sl mo b (if v - (eff n).1 + (eff n).2 > top then v - (eff n).1 + (eff n).2 else top))) x = some (.ins C_Checker dx (chkF c d sl mo b (if v - (eff n).1 + (eff n).2 > top then v - (eff n).1 + (eff n).2 else top))) := upd_same
        refine ⟨_, rfl, _, _, _, _, rfl, rfl, SqT.of hu3, rfl, rfl, _, rfl, iteD (fun e1 => ?_) (fun e1 => ?_)⟩
        · have e1 := V.str.inj e1
          refine ⟨_, rfl, _, rfl, x, C_Checker, dx, _, _, rfl, ho1, T.cl_Checker, T.a_Checker_thinking, rfl, .inr ⟨_, rfl, rfl, ?_⟩⟩
          rw [if_pos e1] at kT kF
          have eb : decide (V.int v = V.int (if b = true then 1 else 0)) = decide (v = b2i' b) := by
            unfold b2i'
            simp
          rw [eb]
          by_cases hb : v = b2i' b
          · rw [if_pos hb] at kT
            rw [decide_eq_true hb]
            exact kT _ _ rfl (hC1.mono (by omega)) K1
          · rw [if_neg hb] at kF
            rw [decide_eq_false hb]
            exact kF _ rfl K1
        have e1 : ¬ n = "end" := fun z => e1 (congrArg V.str z)
        rw [if_neg e1] at kT kF
        refine ⟨_, rfl, _, _, _, _, rfl, rfl, SqT.of hu3, rfl, rfl, _, rfl, iteD (fun e2 => ?_) (fun e2 => ?_)⟩
        · have e2 := V.str.inj e2
          rw [if_pos e2] at kT kF
          have hil : (i : Int) < (cs.length : Int) := by
            have := (List.getElem?_eq_some_iff.mp hi).1
            omega
          refine ⟨_, rfl, x, dx, _, rfl, ho1, rfl, _, rfl, _, rfl, _, rfl, _, _, _, _, rfl, rfl, SqT.of hu3, rfl, _, _, rfl, rfl, x, c, d, cs, sl, mo, b, h, _, m, (i : Int), (i : Int) - a, v, rfl, hC1, hnm, hil, hv, hall, fun H2 K2 => ?_⟩
          cases hb : backOk cs h (i : Int) ((i : Int) - a) with
          | true =>
            rw [if_pos hb] at kT
            exact kT _ _ rfl ((hC1.keep0 K2).mono (by omega)) (K1.trans (nx K2))
          | false =>
            rw [if_neg (by rw [hb]; simp)] at kF
            exact kF _ rfl (K1.trans (nx K2))
        have e2 : ¬ n = "back" := fun z => e2 (congrArg V.str z)
        rw [if_neg e2] at kT kF
        refine ⟨_, rfl, x, dx, _, rfl, ho1, rfl, _, rfl, _, rfl, u, n, a, (i : Int), rfl, hu3, fun l H2 nl hl K2 => ?_⟩
        have hC2 := hC1.keep0 K2
        have hlen := tgts_len (i : Int) n a
        refine ⟨_, rfl, x, c, d, l, cs, sl, mo, b, h, _, m, tgts (i : Int) n a, v - (eff n).1 + (eff n).2, rfl, hC2, hl, by omega, hn, fun h' H3 er hC3 K3 => ?_, fun H3 er K3 => ?_⟩
        · rw [er] at kT
          exact kT _ _ rfl (hC3.mono (by omega)) ((K1.trans (nx K2)).trans (K3.mono (by simp)))
        · rw [er] at kF
          exact kF _ rfl ((K1.trans (nx K2)).trans (K3.mono (by simp)))
end

theorem reach_mono {len : Nat} {v : Int} : ∀ (ts : List Int) {h h' : Hts}, reach len v ts h = some h' → ∀ j, (h j).isSome → (h' j).isSome
  | [], h, h', e, j, hj => by cases e; exact hj
  | t :: ts, h, h', e, j, hj => by
    unfold reach at e
    split at e
    · cases e
    · refine reach_mono ts e j ?_
      unfold setH
      split
      · rfl
      · exact hj
theorem good1_mono {cs : List In2} {sl mo : Int} {b : Bool} {i : Int} {n : Str} {a : Int} {h : Hts} {top : Int} {r : Hts × Int} (e : good1 cs sl mo b i n a h top = some r) : (h i).isSome ∧ ∀ j, (h j).isSome → (r.1 j).isSome := by
  unfold good1 at e
  cases hv : h i with
  | none => simp [hv] at e
  | some v =>
    refine ⟨rfl, ?_⟩
    simp only [hv] at e
    split at e
    · cases e
    split at e
    · cases e
    split at e
    · cases e
    split at e
    · split at e
      · cases e; exact fun j hj => hj
      · cases e
    split at e
    · split at e
      · cases e; exact fun j hj => hj
      · cases e
    rw [Option.map_eq_some_iff] at e
    obtain ⟨h', e1, rfl⟩ := e
    exact reach_mono _ e1
/-! codes that pass: nothing is raised -/
theorem upto_le {cs : List In2} {sl mo : Int} {b : Bool} : ∀ {n : Nat} {s : Hts × Int}, upto cs sl mo b n = some s → ∀ i, i ≤ n → ∃ t, upto cs sl mo b i = some t
  | 0, s, h, i, hi => by
    have : i = 0 := by omega
    subst this
    exact ⟨_, h⟩
  | n + 1, s, h, i, hi => by
    by_cases z : i = n + 1
    · subst z; exact ⟨_, h⟩
    · have h' : (match upto cs sl mo b n, cs[n]? with | some s, some p => good1 cs sl mo b (n : Int) p.1 p.2 s.1 s.2 | _, _ => none) = some s := h
      cases e : upto cs sl mo b n with
      | none => rw [e] at h'; cases h'
      | some t => exact upto_le e i (by omega)
def pr (ns : List Str) (i : MI) : In2 := (tagM i, numM ns i)
def cod (ns : List Str) (c : List MI) : List In2 := c.map (pr ns)
theorem cod_len (ns : List Str) (c : List MI) : (cod ns c).length = c.length := List.length_map _
theorem ML.prs {K : PySem.W.Frag} {H : Hp} {ns : List Str} {vs : List V} {c : List MI} (h : ML K H ns vs c) : Prs H vs (cod ns c) := by
  induction h with
  | nil => exact .nil
  | cons h _ ih => exact .cons h.get ih
theorem nm_e : ∀ i : Ins, tagI i ∈ nmsOf true
  | .push _ => (by decide +kernel : ("push" : Str) ∈ nmsOf true)
  | .load _ => (by decide +kernel : ("load" : Str) ∈ nmsOf true)
  | .long => (by decide +kernel : ("long" : Str) ∈ nmsOf true)
  | .view => (by decide +kernel : ("view" : Str) ∈ nmsOf true)
  | .sign _ => (by decide +kernel : ("sign" : Str) ∈ nmsOf true)
theorem nm_m : ∀ i : MI, tagM i ∈ nmsOf true
  | .e i => nm_e i
  | .skip _ => (by decide +kernel : ("skip" : Str) ∈ nmsOf true)
  | .jump _ => (by decide +kernel : ("jump" : Str) ∈ nmsOf true)
  | .back _ => (by decide +kernel : ("back" : Str) ∈ nmsOf true)
  | .unit => (by decide +kernel : ("unit" : Str) ∈ nmsOf true)
  | .lot => (by decide +kernel : ("lot" : Str) ∈ nmsOf true)
  | .store _ => (by decide +kernel : ("store" : Str) ∈ nmsOf true)
  | .fin => (by decide +kernel : ("end" : Str) ∈ nmsOf true)
theorem cod_nm (ns : List Str) (c : List MI) : NmOk (cod ns c) := fun p hp => by
  obtain ⟨i, _, rfl⟩ := List.mem_map.mp hp
  exact List.mem_append_left _ (nms_all true _ (nm_m i))
def sp_chk0 : Sp := fun vs H Q _ => ∃ (c : Addr) (cs : List In2) (sl mo : Int) (b : Bool) (s : Hts × Int), vs = [.ref c, .int sl, .int mo, .bl b] ∧ CodeAt H c cs ∧ NmOk cs ∧ cs.length ≤ 200000 ∧ cs ≠ [] ∧ upto cs sl mo b cs.length = some s ∧ ∀ H', Keep [] H H' → Q (.int s.2) H'
def sp_cmind (K : PySem.W.Frag) (CM : Addr) : Sp := fun vs H Q _ => ∃ (M ca cd : Addr) (u : Int) (ks : List Int) (ns : List Str) (c : List MI) (s : Hts × Int), vs = [.ref M] ∧ MdA K CM H M u ca cd ks ns c ∧ c.length ≤ 200000 ∧ c ≠ [] ∧ upto (cod ns c) ks.length 0 true c.length = some s ∧ ∀ H', Keep [] H H' → Q (.int s.2) H'
section
variable {P : Program} {w : World} {K : PySem.W.Frag} {mg : Str → Option Value} {base : Heap} {C_Tape : Addr} {C_Thinker : Addr} {C_Brain : Addr} {C_Mind : Addr} {C_Frame : Addr} {C_Thinking : Addr} {C_Checker : Addr} {T_EVENTS : Addr} {T_SIGNS : Addr} {T_ROUND_NAMES : Addr} {T_BRAIN_NAMES : Addr} {T_EFFECTS : Addr}
theorem ok_check {f : Addr} {fd : FuncData} (D : C8.Def K mg "check_code" s_check_code f fd) (T : Txt K mg C_Tape C_Thinker C_Brain C_Mind C_Frame C_Thinking C_Checker T_EVENTS T_SIGNS T_ROUND_NAMES T_BRAIN_NAMES T_EFFECTS) (c_Checker : C8.Mak P w K mg base 1 "Checker" C_Checker (sp_chk C_Checker) [])
    (c_Checker_good : C8.Met P w K mg base 2 C_Checker "good" (sp_good C_Checker) []) : FnOk P w K mg base C8.CX0 3 f fd ["code", "slots", "moves", "thinking"] sp_chk0 := by
  refine C8.fn0 D.fn sc_check_code (fun vs H Q E h => ?_) (fun cdv A outer s H vs Q E hr h => ?_)
  · obtain ⟨c, cs, sl, mo, b, s, rfl, _⟩ := h
    rfl
  · obtain ⟨c, cs, sl, mo, b, s, rfl, hc, hnm, hn, hne, hall0, kQ⟩ := h
    refine ⟨_, (pss_cons (ps_if (pt_not (pt_truth (pv 0) (by intro _; rfl)))
  (pss_one ps_never)
  pss_nil)
(pss_cons (ps_set (i := 4) sc_check_code.nd rfl (by first | exact Or.inl rfl | exact Or.inr rfl) (pe_mk c_Checker hr (by first | exact Nat.le_refl _ | decide | omega) rfl (pa_cons (pv 0) (pa_cons (pv 1) (pa_cons (pv 2) (pa_cons (pv 3) pa_nil))))))
(pss_cons (ps_for PassesOwn.never rfl (pi_range1 (by rfl) T.n_range (pa_cons (pe_callB call_len_seq (by rfl) T.n_len bo_len (pa_cons (pv 0) pa_nil)) pa_nil)) (pg_name (i := 5) sc_check_code.nd rfl (by first | exact Or.inl rfl | exact Or.inr rfl))
  (pss_one (ps_if (pt_not (pt_truth (pe_mt c_Checker_good hr (by first | exact Nat.le_refl _ | decide | omega) (pv 4) (pa_cons (pv 5) pa_nil)) (by intro _; rfl)))
    (pss_one ps_never)
    pss_nil)))
(pss_one (ps_ret (pe_fld (pv 4) rfl)))))), ?_⟩
    obtain ⟨xs, h1, prs⟩ := id hc
    have hlen := prs.len
    have sq : ∀ {H' : Hp}, Keep [] H H' → SqL K H' c xs ∨ SqT K H' c xs := fun k => h1.elim (fun z => .inl (SqL.of (k _ _ z (by simp)))) fun z => .inr (SqT.of (k _ _ z (by simp)))
    have xne : xs.isEmpty = false := by
      cases xs with
      | nil => exact absurd (List.eq_nil_of_length_eq_zero hlen.symm) hne
      | cons y r => rfl
    refine ⟨_, rfl, !xs.isEmpty, (sq (Keep.refl _ _)).elim (fun z => .inl ⟨xs, z, rfl⟩) (fun z => .inr (.inl ⟨xs, z, rfl⟩)), iteB (fun e => ?_) (fun e => ?_)⟩
    · rw [xne] at e; cases e
    refine ⟨_, rfl, _, rfl, _, rfl, _, rfl, fun x dx nx nd ne => ⟨x, dx, c, cs, sl, mo, b, rfl, upd_same, hc.keep (Keep.made nx nd) (Keep.made nx nd).tk (by simp), fun d H2 nd2 K2 hC => ⟨rfl, ?_⟩⟩⟩
    have K02 := keep_made nx nd K2
    have nd2' : H d = none := (Keep.made (o := .ins C_Checker dx []) nx nd).free nd2
    refine ⟨_, rfl, _, _, rfl, sq K02, _, rfl, by omega, by omega, ?_⟩
    rw [hlen]
    refine for_range (lo := 0) (n := cs.length) (fun i σ H' => ∃ (st : Hts × Int) (o5 : Option V), σ = [some (.ref c), some (.int sl), some (.int mo), some (.bl b), some (.ref x), o5] ∧ upto cs sl mo b i = some st ∧ ChkAt C_Checker H' x c d cs sl mo b st.1 st.2 (1 + 2 * i) ∧ (∀ j : Int, 0 ≤ j → j < (i : Int) → (st.1 j).isSome) ∧ Keep [] H H')
      ⟨(h0, 0), none, rfl, rfl, hC, fun j h1 h2 => by omega, K02⟩ ?_ ?_
    · rintro i σ H' hi ⟨st, o5, rfl, hst, hC', hall, kk⟩
      have e0 : (0 : Int) + (i : Int) = (i : Int) := by omega
      rw [e0]
      have hget : cs[i]? = some cs[i] := List.getElem?_eq_getElem hi
      generalize cs[i] = p at hget
      obtain ⟨n, a⟩ := p
      have hup : upto cs sl mo b (i + 1) = good1 cs sl mo b (i : Int) n a st.1 st.2 := by
        show (match upto cs sl mo b i, cs[i]? with | some s, some p => good1 cs sl mo b (i : Int) p.1 p.2 s.1 s.2 | _, _ => none) = _
        rw [hst, hget]
      obtain ⟨dx', ho⟩ := hC'.o
      have kown : ∀ {H2 : Hp}, Keep [x, d] H' H2 → Keep [] H H2 := fun k2 e o he hw => k2 e o (kk e o he (by simp)) (by simp [ne_of_none he nx, ne_of_none he nd2'])
      refine ⟨_, rfl, x, dx', _, rfl, ho, rfl, _, rfl, x, c, d, cs, sl, mo, b, st.1, st.2, _, i, n, a, rfl, hC', hnm, hget, by omega, by omega, hall, fun r H2 er hC2 K2 => ⟨_, rfl, iteF (A := True) ?_⟩, fun H2 er K2 => ?_⟩
      · have mono := good1_mono er
        refine ⟨r, _, rfl, hup.trans er, hC2.mono (by omega), fun j j0 j1 => ?_, kown K2⟩
        by_cases z : j = (i : Int)
        · rw [z]; exact mono.2 _ mono.1
        · exact mono.2 _ (hall j j0 (by omega))
      · obtain ⟨t, ht⟩ := upto_le hall0 (i + 1) hi
        rw [hup, er] at ht
        cases ht
    · rintro σ H' ⟨st, o5, rfl, hst, hC', hall, kk⟩
      obtain ⟨dx', ho⟩ := hC'.o
      rw [hall0] at hst
      cases hst
      exact ⟨_, rfl, x, C_Checker, dx', _, _, rfl, ho, T.cl_Checker, T.a_Checker_highest, rfl, kQ _ kk⟩
theorem ok_cmind {f : Addr} {fd : FuncData} (D : C8.Def K mg "check_mind" s_check_mind f fd) (b : Binds K fd ["mind"] []) (T : Txt K mg C_Tape C_Thinker C_Brain C_Mind C_Frame C_Thinking C_Checker T_EVENTS T_SIGNS T_ROUND_NAMES T_BRAIN_NAMES T_EFFECTS) {gV : List V → List V → List V} (hg : gV = fun us ws => us ++ ws) (c_check_code_thinking : CalK0 P w K mg base 3 "check_code" sp_chk0 3 ["thinking"] gV) : C8.Cal P w K mg base 4 "check_mind" (sp_cmind K C_Mind) [] := by
  subst hg
  refine cal0 D b .nil sc_check_mind (fun vs H Q E h => ?_) (fun cdv A outer s H vs Q E hr h => ?_)
  · obtain ⟨M, ca, cd, u, ks, ns, c, s, rfl, _⟩ := h
    rfl
  · obtain ⟨M, ca, cd, u, ks, ns, c, s, rfl, ⟨⟨dx, ho⟩, hca, ws, hcd, hml⟩, hcl, hne, hup, k⟩ := h
    refine ⟨_, (pss_one (ps_ret (pe_cK c_check_code_thinking hr (by first | exact Nat.le_refl _ | decide | omega) rfl (pa_cons (pe_fld (pv 0) rfl) (pa_cons (pe_callB call_len_seq (by rfl) T.n_len bo_len (pa_cons (pe_fld (pv 0) rfl) pa_nil)) (pa_cons pe_int pa_nil))) (pk_cons pe_bl pk_nil)))), ?_⟩
    refine ⟨_, rfl, M, C_Mind, dx, _, _, rfl, ho, T.cl_Mind, T.a_Mind_code, rfl, _, rfl, M, C_Mind, dx, _, _, rfl, ho, T.cl_Mind, T.a_Mind_cells, rfl, _, _, rfl, .inr (SqT.of hca), ?_⟩
    rw [List.length_map]
    exact ⟨rfl, rfl, cd, cod ns c, ks.length, 0, true, s, rfl, ⟨ws, .inr hcd, hml.prs⟩, cod_nm ns c, by rw [cod_len]; exact hcl, fun z => hne (List.map_eq_nil_iff.mp z), by rw [cod_len]; exact hup, k⟩
end

/-! compiled code passes -/
abbrev Pl (n : Str) (tk gv : Int) : Prop := n ∈ nmsOf true ∧ n ≠ "end" ∧ n ≠ "back" ∧ n ≠ "jump" ∧ n ≠ "skip" ∧ eff n = (tk, gv)
theorem tgts_one {i a : Int} {n : Str} {x y : Int} (h : Pl n x y) : tgts i n a = [i + 1] := by
  obtain ⟨_, h1, h2, h3, h4, _⟩ := h
  unfold tgts
  rw [if_neg (fun z => z.elim h1 h2), if_neg h3, if_neg h4]
def AtC (cs : List In2) (sl : Int) (i : Nat) (h : Hts) : Prop := ∃ top, upto cs sl 0 true i = some (h, top) ∧ 0 ≤ top ∧ top ≤ 12
theorem setH_same (h : Hts) (i v : Int) : setH h i v i = some v := if_pos rfl
theorem setH_ne {h : Hts} {i v j : Int} (e : j ≠ i) : setH h i v j = h j := if_neg e
section
variable {cs : List In2} {sl : Int}
theorem AtC.go {i : Nat} {n : Str} {a v w : Int} {h h' : Hts} (z : AtC cs sl i h) (hi : cs[i]? = some (n, a)) (hv : h i = some v) (hn : n ∈ nmsOf true) (hf : fitsA n a sl 0 = true) (h1 : (eff n).1 ≤ v) (hw : v - (eff n).1 + (eff n).2 = w) (w1 : w ≤ 12) (ne : n ≠ "end") (nb : n ≠ "back") (hr : reach cs.length w (tgts i n a) h = some h') : AtC cs sl (i + 1) h' := by
  obtain ⟨top, u, t0, t1⟩ := z
  refine ⟨if w > top then w else top, ?_, by split <;> omega, by split <;> omega⟩
  show (match upto cs sl 0 true i, cs[i]? with | some s, some p => good1 cs sl 0 true (i : Int) p.1 p.2 s.1 s.2 | _, _ => none) = _
  rw [u, hi]
  show good1 cs sl 0 true (i : Int) n a h top = _
  subst hw
  unfold good1
  simp only [hv]
  rw [if_neg (fun z => z hn), if_neg (by rw [hf]; simp), if_neg (by omega), if_neg ne, if_neg nb, hr]
  rfl
theorem reach1 {len : Nat} {w t : Int} {h : Hts} (hl : t < (len : Int)) (hh : h t = none ∨ h t = some w) : reach len w [t] h = some (setH h t w) := by
  unfold reach
  have : (h t).getD w = w := by rcases hh with e | e <;> rw [e] <;> rfl
  rw [if_neg (fun z => z.elim (by omega) (fun z => z this))]
  rfl
theorem reach2 {len : Nat} {w t u : Int} {h : Hts} (hl : t < (len : Int)) (hh : h t = none ∨ h t = some w) (hl2 : u < (len : Int)) (hh2 : h u = none ∨ h u = some w) : reach len w [t, u] h = some (setH (setH h t w) u w) := by
  have e : reach len w [t, u] h = if t ≥ (len : Int) ∨ (h t).getD w ≠ w then none else reach len w [u] (setH h t w) := by conv => lhs; unfold reach
  rw [e]
  have : (h t).getD w = w := by rcases hh with e | e <;> rw [e] <;> rfl
  rw [if_neg (fun z => z.elim (by omega) (fun z => z this))]
  refine reach1 hl2 ?_
  by_cases q : u = t
  · subst q; exact .inr (setH_same _ _ _)
  · rw [setH_ne q]; exact hh2
theorem AtC.one {i : Nat} {n : Str} {a v w x y : Int} {h : Hts} (z : AtC cs sl i h) (hi : cs[i]? = some (n, a)) (hv : h i = some v) (hp : Pl n x y) (hf : fitsA n a sl 0 = true) (h1 : x ≤ v) (hw : v - x + y = w) (w1 : w ≤ 12) (hl : i + 1 < cs.length) (hh : h ((i + 1 : Nat) : Int) = none ∨ h ((i + 1 : Nat) : Int) = some w) : AtC cs sl (i + 1) (setH h ((i + 1 : Nat) : Int) w) := by
  refine z.go hi hv hp.1 hf (by rw [hp.2.2.2.2.2]; exact h1) (by rw [hp.2.2.2.2.2]; exact hw) w1 hp.2.1 hp.2.2.1 ?_
  rw [tgts_one hp, show ((i : Int) + 1) = ((i + 1 : Nat) : Int) by omega]
  exact reach1 (by omega) hh
end
theorem fits_e {ns : List Str} : ∀ {i : Ins}, i.Ok ns → fitsA (tagI i) (numI ns i) ns.length 0 = true
  | .push n, h => by
    show fitsA "push" n _ _ = true
    unfold fitsA
    rw [if_pos rfl]
    exact decide_eq_true ⟨h.1, by have := h.2; omega⟩
  | .load x, h => by
    show fitsA "load" (idx ns x : Nat) _ _ = true
    unfold fitsA
    rw [if_neg (by decide +kernel), if_pos (.inl rfl)]
    have := idx_lt h
    exact decide_eq_true ⟨by omega, by omega⟩
  | .long, _ => by
    show fitsA "long" 0 _ _ = true
    unfold fitsA
    rw [if_neg (by decide +kernel), if_neg (by decide +kernel), if_neg (by decide +kernel), if_neg (by decide +kernel), if_neg (by decide +kernel), if_neg (by decide +kernel)]
    rfl
  | .view, _ => by
    show fitsA "view" 0 _ _ = true
    unfold fitsA
    rw [if_neg (by decide +kernel), if_neg (by decide +kernel), if_neg (by decide +kernel), if_neg (by decide +kernel), if_neg (by decide +kernel), if_neg (by decide +kernel)]
    rfl
  | .sign s, h => by
    show fitsA "sign" (idx sgL s : Nat) _ _ = true
    unfold fitsA
    rw [if_neg (by decide +kernel), if_neg (by decide +kernel), if_pos rfl]
    have : idx sgL s < 7 := idx_lt (ys := sgL) h
    exact decide_eq_true ⟨by omega, by omega⟩
theorem fits_0 {n : Str} (sl : Int) (h : n = "unit" ∨ n = "lot" ∨ n = "end") : fitsA n 0 sl 0 = true := by
  rcases h with rfl | rfl | rfl
  all_goals
    unfold fitsA
    rw [if_neg (by decide +kernel), if_neg (by decide +kernel), if_neg (by decide +kernel), if_neg (by decide +kernel), if_neg (by decide +kernel), if_neg (by decide +kernel)]
    rfl
theorem fits_j {n : Str} {a : Nat} (sl : Int) (h : n = "jump" ∨ n = "skip" ∨ n = "back") : fitsA n (a : Nat) sl 0 = true := by
  have hg : decide (((a : Nat) : Int) ≥ 0) = true := decide_eq_true (by omega)
  rcases h with rfl | rfl | rfl
  all_goals
    unfold fitsA
    rw [if_neg (by decide +kernel), if_neg (by decide +kernel), if_neg (by decide +kernel), if_neg (by decide +kernel), if_neg (by decide +kernel), if_pos (by decide +kernel)]
    exact hg
theorem fits_s {ns : List Str} {x : Str} (h : x ∈ ns) : fitsA "store" (idx ns x : Nat) ns.length 0 = true := by
  unfold fitsA
  rw [if_neg (by decide +kernel), if_pos (.inr rfl)]
  have := idx_lt h
  exact decide_eq_true ⟨by omega, by omega⟩
theorem pl_push : Pl "push" 0 1 := by decide +kernel
theorem pl_load : Pl "load" 0 1 := by decide +kernel
theorem pl_long : Pl "long" 0 1 := by decide +kernel
theorem pl_view : Pl "view" 1 1 := by decide +kernel
theorem pl_sign : Pl "sign" 2 1 := by decide +kernel
theorem pl_unit : Pl "unit" 0 0 := by decide +kernel
theorem pl_lot : Pl "lot" 1 1 := by decide +kernel
theorem pl_store : Pl "store" 1 0 := by decide +kernel
theorem eff_skip : eff "skip" = (1, 0) := by decide +kernel
theorem eff_jump : eff "jump" = (0, 0) := by decide +kernel
theorem tgts_skip (i a : Int) : tgts i "skip" a = [i + 1, i + 1 + a] := by
  unfold tgts
  rw [if_neg (by decide +kernel), if_neg (by decide +kernel), if_pos rfl]
theorem tgts_jump (i a : Int) : tgts i "jump" a = [i + 1 + a] := by
  unfold tgts
  rw [if_neg (by decide +kernel), if_pos rfl]
/-- the places from p on, n of them, pass; the height behind them is v -/
def Seg (cs : List In2) (sl : Int) (p n : Nat) (v : Int) (h : Hts) : Prop := ∃ h', AtC cs sl (p + n) h' ∧ h' ((p + n : Nat) : Int) = some v ∧ ∀ j : Int, (j ≤ (p : Nat) ∨ ((p + n : Nat) : Int) < j) → h' j = h j
section
variable {ns : List Str} {c : List MI}
theorem at_cod {pre post : List MI} {i : MI} {n : Nat} (hc : c = pre ++ (i :: post)) (hn : n = pre.length) : (cod ns c)[n]? = some (tagM i, numM ns i) := by
  subst hn
  unfold cod
  rw [List.getElem?_map, at_app hc]
  rfl
theorem ex_chk : ∀ (e : Ex) (pre post : List MI) (h : Hts) (v : Int), e.Ok ns [] → 0 ≤ v → v + e.dep ≤ 12 → c = pre ++ ((code offs e).map MI.e ++ post) → post ≠ [] → AtC (cod ns c) ns.length pre.length h → h (pre.length : Nat) = some v →
    (∀ j : Int, (pre.length : Nat) < j → j ≤ ((pre.length + (code offs e).length : Nat) : Int) → h j = none) → Seg (cod ns c) ns.length pre.length (code offs e).length (v + 1) h := by
  have leaf : ∀ (i : Ins) (pre post : List MI) (h : Hts) (v : Int), i.Ok ns → Pl (tagI i) 0 1 → 0 ≤ v → v + 1 ≤ 12 → c = pre ++ ([MI.e i] ++ post) → post ≠ [] → AtC (cod ns c) ns.length pre.length h → h (pre.length : Nat) = some v →
      (∀ j : Int, (pre.length : Nat) < j → j ≤ ((pre.length + 1 : Nat) : Int) → h j = none) → Seg (cod ns c) ns.length pre.length 1 (v + 1) h := fun i pre post h v ok pl v0 v1 hc hp z hv hn => by
    have hl : pre.length + 1 < (cod ns c).length := by
      rw [cod_len, hc]
      have := List.length_pos_iff.mpr hp
      simp only [List.length_append, List.length_cons, List.length_nil]; omega
    refine ⟨_, z.one (at_cod (i := .e i) (post := post) hc rfl) hv pl (fits_e ok) v0 (by omega) (by omega : v + 1 ≤ 12) hl (.inl (hn _ (by omega) (Int.le_refl _))), setH_same _ _ _, fun j hj => setH_ne (by omega)⟩
  intro e
  induction e with
  | num n => intro pre post h v ok v0 v1 hc hp z hv hn; exact leaf (.push n) pre post h v ok pl_push v0 (by change v + ((1 : Nat) : Int) ≤ 12 at v1; omega) hc hp z hv hn
  | var x => intro pre post h v ok v0 v1 hc hp z hv hn; exact leaf (.load x) pre post h v ok pl_load v0 (by change v + ((1 : Nat) : Int) ≤ 12 at v1; omega) hc hp z hv hn
  | long => intro pre post h v ok v0 v1 hc hp z hv hn; exact leaf .long pre post h v trivial pl_long v0 (by change v + ((1 : Nat) : Int) ≤ 12 at v1; omega) hc hp z hv hn
  | pick x l r _ _ => intro pre post h v ok; cases ok.1
  | view e ih =>
    intro pre post h v ok v0 v1 hc hp z hv hn
    change v + ((e.dep + 1 : Nat) : Int) ≤ 12 at v1
    have el : (code offs (.view e)).length = (code offs e).length + 1 := by
      show (code offs e ++ [Ins.view]).length = _
      simp
    have hc1 : c = pre ++ ((code offs e).map MI.e ++ (.e .view :: post)) := by
      rw [hc]
      show pre ++ ((code offs e ++ [Ins.view]).map MI.e ++ post) = _
      simp
    rw [el] at hn ⊢
    obtain ⟨h1, a1, b1, f1⟩ := ih pre (.e .view :: post) h v ok v0 (by omega) hc1 (by simp) z hv (fun j j0 j1 => hn j j0 (by omega))
    have hl : pre.length + (code offs e).length + 1 < (cod ns c).length := by
      rw [cod_len, hc1]
      have := List.length_pos_iff.mpr hp
      simp only [List.length_append, List.length_cons, List.length_map]; omega
    refine ⟨_, a1.one (at_cod (i := .e .view) (pre := pre ++ (code offs e).map MI.e) (post := post) (by rw [hc1]; simp) (by simp)) b1 pl_view (fits_e (i := .view) trivial) (by omega) (w := v + 1) (by omega) (by omega) hl (.inl ?_), setH_same _ _ _, fun j hj => ?_⟩
    · rw [f1 _ (.inr (by omega))]
      exact hn _ (by omega) (by omega)
    · rw [setH_ne (by omega)]
      exact f1 _ (by omega)
  | op s l r il ir =>
    intro pre post h v ok v0 v1 hc hp z hv hn
    change v + ((max l.dep r.dep + 1 : Nat) : Int) ≤ 12 at v1
    have el : (code offs (.op s l r)).length = (code offs l).length + (code offs r).length + 1 := by
      show (code offs l ++ code offs r ++ [Ins.sign s]).length = _
      simp only [List.length_append, List.length_cons, List.length_nil]
    have hc1 : c = pre ++ ((code offs l).map MI.e ++ ((code offs r).map MI.e ++ (.e (.sign s) :: post))) := by
      rw [hc]
      show pre ++ ((code offs l ++ code offs r ++ [Ins.sign s]).map MI.e ++ post) = _
      simp
    rw [el] at hn ⊢
    obtain ⟨h1, a1, b1, f1⟩ := il pre _ h v ok.2.1 v0 (by omega) hc1 (by simp) z hv (fun j j0 j1 => hn j j0 (by omega))
    have pl1 : (pre ++ (code offs l).map MI.e).length = pre.length + (code offs l).length := by simp
    have hc2 : c = (pre ++ (code offs l).map MI.e) ++ ((code offs r).map MI.e ++ (.e (.sign s) :: post)) := by rw [hc1]; simp
    have S2 := ir (pre ++ (code offs l).map MI.e) (.e (.sign s) :: post) h1 (v + 1) ok.2.2 (by omega) (by omega) hc2 (by simp) (by rw [pl1]; exact a1) (by rw [pl1]; exact b1) (fun j j0 j1 => by
      rw [pl1] at j0 j1
      rw [f1 _ (.inr j0)]
      exact hn j (by omega) (by omega))
    obtain ⟨h2, a2, b2, f2⟩ := S2
    rw [pl1] at a2 b2 f2
    have hl : pre.length + (code offs l).length + (code offs r).length + 1 < (cod ns c).length := by
      rw [cod_len, hc1]
      have := List.length_pos_iff.mpr hp
      simp only [List.length_append, List.length_cons, List.length_map]; omega
    have e3 : pre.length + ((code offs l).length + (code offs r).length + 1) = pre.length + (code offs l).length + (code offs r).length + 1 := by omega
    unfold Seg
    rw [e3]
    refine ⟨_, a2.one (at_cod (i := .e (.sign s)) (pre := (pre ++ (code offs l).map MI.e) ++ (code offs r).map MI.e) (post := post) (by rw [hc1]; simp) (by simp; omega)) b2 pl_sign (fits_e (i := .sign s) ok.1) (by omega) (w := v + 1) (by omega) (by omega) hl (.inl ?_), setH_same _ _ _, fun j hj => ?_⟩
    · rw [f2 _ (.inr (by omega)), f1 _ (.inr (by omega))]
      exact hn _ (by omega) (by omega)
    · rw [setH_ne (by omega), f2 _ (by omega)]
      exact f1 _ (by omega)
theorem Seg.trans {cs : List In2} {sl : Int} {p n m : Nat} {v v' : Int} {h : Hts} (a : Seg cs sl p n v h) (b : ∀ h', AtC cs sl (p + n) h' → h' ((p + n : Nat) : Int) = some v → (∀ j : Int, (j ≤ (p : Nat) ∨ ((p + n : Nat) : Int) < j) → h' j = h j) → Seg cs sl (p + n) m v' h') : Seg cs sl p (n + m) v' h := by
  obtain ⟨h1, a1, b1, f1⟩ := a
  obtain ⟨h2, a2, b2, f2⟩ := b h1 a1 b1 f1
  rw [Nat.add_assoc] at a2 b2 f2
  exact ⟨h2, a2, b2, fun j hj => by rw [f2 j (by omega), f1 j (by omega)]⟩
theorem ec_seg {e : Ex} {pre post : List MI} {h : Hts} {n : Nat} (he : ExOk ns e) (hc : c = pre ++ (ec e ++ post)) (hp : post ≠ []) (hn : n = pre.length) (z : AtC (cod ns c) ns.length n h) (hv : h (n : Nat) = some 0) (hh : ∀ j : Int, (n : Nat) < j → j ≤ ((n + (ec e).length : Nat) : Int) → h j = none) : Seg (cod ns c) ns.length n (ec e).length 1 h := by
  subst hn
  have el : (ec e).length = (code offs e).length := List.length_map _
  rw [el] at hh ⊢
  exact ex_chk e pre post h 0 he.1 (Int.le_refl _) (by have := he.2; omega) hc hp z hv hh
theorem one_seg {i : MI} {pre post : List MI} {h : Hts} {n : Nat} {v w x y : Int} (hc : c = pre ++ (i :: post)) (hp : post ≠ []) (hn : n = pre.length) (z : AtC (cod ns c) ns.length n h) (hv : h (n : Nat) = some v) (pl : Pl (tagM i) x y) (hf : fitsA (tagM i) (numM ns i) ns.length 0 = true) (h1 : x ≤ v) (hw : v - x + y = w) (w1 : w ≤ 12) (hh : h ((n + 1 : Nat) : Int) = none ∨ h ((n + 1 : Nat) : Int) = some w) : Seg (cod ns c) ns.length n 1 w h := by
  have hl : n + 1 < (cod ns c).length := by
    rw [cod_len, hc, hn]
    have := List.length_pos_iff.mpr hp
    simp only [List.length_append, List.length_cons]; omega
  exact ⟨_, z.one (at_cod hc hn) hv pl hf h1 hw w1 hl hh, setH_same _ _ _, fun j hj => setH_ne (by omega)⟩
end

/-! blocks -/
section
variable {ns : List Str} {c : List MI}
mutual
theorem chkT : ∀ (t : Th), t.Ok ns → ∀ (pre post : List MI) (h : Hts) (n : Nat), c = pre ++ (cT t ++ post) → post ≠ [] → n = pre.length → AtC (cod ns c) ns.length n h → h (n : Nat) = some 0 →
    (∀ j : Int, (n : Nat) < j → j < ((n + (cT t).length : Nat) : Int) → h j = none) → (h ((n + (cT t).length : Nat) : Int) = none ∨ h ((n + (cT t).length : Nat) : Int) = some 0) → Seg (cod ns c) ns.length n (cT t).length 0 h
  | .set x e, ok, pre, post, h, n, hc, hp, hn, z, hv, hh, he => by
    have hc0 : c = pre ++ (MI.unit :: (ec e ++ (.store x :: post))) := by
      rw [hc]
      show pre ++ ((MI.unit :: (ec e ++ [.store x])) ++ post) = _
      simp
    have el : (cT (.set x e)).length = 1 + (ec e).length + 1 := by rw [ct_set]; omega
    rw [el] at hh he ⊢
    refine Seg.trans (v := 1) (Seg.trans (v := 0) (one_seg hc0 (by simp) hn z hv pl_unit (fits_0 _ (.inl rfl)) (Int.le_refl _) (w := 0) rfl (by decide) (.inl (hh _ (by omega) (by omega)))) fun h1 a1 b1 f1 => ?_) fun h2 a2 b2 f2 => ?_
    · refine ec_seg (pre := pre ++ [.unit]) (post := .store x :: post) ok.2 (by rw [hc0]; simp) (by simp) (by simp [hn]) a1 b1 fun j j0 j1 => ?_
      rw [f1 j (.inr j0)]
      exact hh j (by omega) (by omega)
    · refine one_seg (i := .store x) (pre := pre ++ (.unit :: ec e)) (post := post) (by rw [hc0]; simp) hp (by simp [hn]; omega) a2 b2 pl_store (fits_s ok.1) (by omega) (w := 0) rfl (by decide) ?_
      rw [f2 _ (.inr (by omega))]
      exact he
  | .lot x e, ok, pre, post, h, n, hc, hp, hn, z, hv, hh, he => by
    have hc0 : c = pre ++ (MI.unit :: (ec e ++ (.lot :: .store x :: post))) := by
      rw [hc]
      show pre ++ ((MI.unit :: (ec e ++ [.lot, .store x])) ++ post) = _
      simp
    have el : (cT (.lot x e)).length = 1 + (ec e).length + 1 + 1 := by rw [ct_lot]; omega
    rw [el] at hh he ⊢
    refine Seg.trans (v := 1) (Seg.trans (v := 1) (Seg.trans (v := 0) (one_seg hc0 (by simp) hn z hv pl_unit (fits_0 _ (.inl rfl)) (Int.le_refl _) (w := 0) rfl (by decide) (.inl (hh _ (by omega) (by omega)))) fun h1 a1 b1 f1 => ?_) fun h2 a2 b2 f2 => ?_) fun h3 a3 b3 f3 => ?_
    · refine ec_seg (pre := pre ++ [.unit]) (post := .lot :: .store x :: post) ok.2 (by rw [hc0]; simp) (by simp) (by simp [hn]) a1 b1 fun j j0 j1 => ?_
      rw [f1 j (.inr j0)]
      exact hh j (by omega) (by omega)
    · refine one_seg (i := .lot) (pre := pre ++ (.unit :: ec e)) (post := .store x :: post) (by rw [hc0]; simp) (by simp) (by simp [hn]; omega) a2 b2 pl_lot (fits_0 _ (.inr (.inl rfl))) (by omega) (w := 1) rfl (by decide) ?_
      rw [f2 _ (.inr (by omega))]
      exact .inl (hh _ (by omega) (by omega))
    · refine one_seg (i := .store x) (pre := pre ++ (.unit :: (ec e ++ [.lot]))) (post := post) (by rw [hc0]; simp) hp (by simp [hn]; omega) a3 b3 pl_store (fits_s ok.1) (by omega) (w := 0) rfl (by decide) ?_
      rw [f3 _ (.inr (by omega))]
      exact he
  | .whl t b, ok, pre, post, h, n, hc, hp, hn, z, hv, hh, he => by
    have hc0 : c = pre ++ (MI.unit :: (ec t ++ (.skip ((cB b).length + 1) :: (cB b ++ (.back ((ec t).length + (cB b).length + 2) :: post))))) := by
      rw [hc]
      show pre ++ ((MI.unit :: (ec t ++ (.skip ((cB b).length + 1) :: (cB b ++ [.back ((ec t).length + (cB b).length + 2)])))) ++ post) = _
      simp
    have cl : (cod ns c).length = n + 1 + (ec t).length + 1 + (cB b).length + 1 + post.length := by
      rw [cod_len, hc0, hn]
      simp only [List.length_append, List.length_cons]; omega
    have hpl := List.length_pos_iff.mpr hp
    have el : (cT (.whl t b)).length = 1 + (ec t).length + (1 + (cB b).length + 1) := by rw [ct_whl]; omega
    rw [el] at hh he ⊢
    refine Seg.trans (v := 1) (Seg.trans (v := 0) (one_seg hc0 (by simp) hn z hv pl_unit (fits_0 _ (.inl rfl)) (Int.le_refl _) (w := 0) rfl (by decide) (.inl (hh _ (by omega) (by omega)))) fun h1 a1 b1 f1 => ?_) fun h2 a2 b2 f2 => ?_
    · refine ec_seg (pre := pre ++ [.unit]) (post := (.skip ((cB b).length + 1) :: (cB b ++ (.back ((ec t).length + (cB b).length + 2) :: post)))) ok.1 (by rw [hc0]; simp) (by simp) (by simp [hn]) a1 b1 fun j j0 j1 => ?_
      rw [f1 j (.inr j0)]
      exact hh j (by omega) (by omega)
    -- the skip
    have hi : (cod ns c)[n + (1 + (ec t).length)]? = some (("skip" : Str), (((cB b).length + 1 : Nat) : Int)) := at_cod (i := .skip ((cB b).length + 1)) (pre := pre ++ (.unit :: ec t)) (post := (cB b ++ (.back ((ec t).length + (cB b).length + 2) :: post))) (by rw [hc0]; simp) (by simp [hn]; omega)
    have e1 : ((n + (1 + (ec t).length) : Nat) : Int) + 1 = ((n + (1 + (ec t).length) + 1 : Nat) : Int) := by omega
    have e2 : ((n + (1 + (ec t).length) : Nat) : Int) + 1 + (((cB b).length + 1 : Nat) : Int) = ((n + (1 + (ec t).length + (1 + (cB b).length + 1)) : Nat) : Int) := by omega
    have a3 := a2.go (w := 0) hi b2 (by decide +kernel) (fits_j _ (.inr (.inl rfl))) (by rw [eff_skip]; decide) (by rw [eff_skip]; decide) (by decide) (by decide +kernel) (by decide +kernel) (by
      rw [tgts_skip, e2, e1]
      refine reach2 (by omega) (.inl ?_) (by omega) ?_
      · rw [f2 _ (.inr (by omega))]
        exact hh _ (by omega) (by omega)
      · rw [f2 _ (.inr (by omega))]
        exact he)
    -- the block
    have S3 := chkB b ok.2 (pre ++ (.unit :: (ec t ++ [.skip ((cB b).length + 1)]))) (.back ((ec t).length + (cB b).length + 2) :: post) _ (n + (1 + (ec t).length) + 1) (by rw [hc0]; simp) (by simp) (by simp [hn]; omega) a3 (by rw [setH_ne (by omega), setH_same]) (fun j j0 j1 => by
      rw [setH_ne (by omega), setH_ne (by omega), f2 _ (.inr (by omega))]
      exact hh _ (by omega) (by omega)) (by
      by_cases q : (cB b).length = 0
      · right; rw [q, Nat.add_zero, setH_ne (by omega), setH_same]
      · left
        rw [setH_ne (by omega), setH_ne (by omega), f2 _ (.inr (by omega))]
        exact hh _ (by omega) (by omega))
    obtain ⟨h4, a4, b4, f4⟩ := S3
    -- the way back
    have hi4 : (cod ns c)[n + (1 + (ec t).length) + 1 + (cB b).length]? = some (("back" : Str), (((ec t).length + (cB b).length + 2 : Nat) : Int)) := at_cod (i := .back ((ec t).length + (cB b).length + 2)) (pre := pre ++ (.unit :: (ec t ++ (.skip ((cB b).length + 1) :: cB b)))) (post := post) (by rw [hc0]; simp) (by simp [hn]; omega)
    have hu : (cod ns c)[n]? = some (("unit" : Str), (0 : Int)) := at_cod (i := .unit) hc0 hn
    have a5 : AtC (cod ns c) ns.length (n + (1 + (ec t).length) + 1 + (cB b).length + 1) h4 := by
      obtain ⟨top, u, t0, t1⟩ := a4
      refine ⟨top, ?_, t0, t1⟩
      show (match upto (cod ns c) ns.length 0 true (n + (1 + (ec t).length) + 1 + (cB b).length), (cod ns c)[n + (1 + (ec t).length) + 1 + (cB b).length]? with | some s, some p => good1 (cod ns c) ns.length 0 true ((n + (1 + (ec t).length) + 1 + (cB b).length : Nat) : Int) p.1 p.2 s.1 s.2 | _, _ => none) = _
      rw [u, hi4]
      show good1 (cod ns c) ns.length 0 true ((n + (1 + (ec t).length) + 1 + (cB b).length : Nat) : Int) "back" _ h4 top = _
      have ef : eff "back" = (0, 0) := by decide +kernel
      unfold good1
      simp only [b4, ef]
      rw [if_neg (fun z => z (by decide +kernel)), if_neg (by rw [fits_j _ (.inr (.inr rfl))]; simp), if_neg (by omega), if_neg (by decide +kernel), if_pos trivial, if_pos, if_neg (by omega)]
      have et : ((n + (1 + (ec t).length) + 1 + (cB b).length : Nat) : Int) - (((ec t).length + (cB b).length + 2 : Nat) : Int) = (n : Nat) := by omega
      unfold backOk
      rw [et, decide_eq_true (show 0 ≤ ((n : Nat) : Int) ∧ ((n : Nat) : Int) < ((n + (1 + (ec t).length) + 1 + (cB b).length : Nat) : Int) by omega), Int.toNat_natCast, hu, b4, f4 _ (.inl (by omega)), setH_ne (by omega), setH_ne (by omega), f2 _ (.inl (by omega)), hv]
      decide +kernel
    have e5 : n + (1 + (ec t).length) + 1 + (cB b).length + 1 = n + (1 + (ec t).length) + (1 + (cB b).length + 1) := by omega
    rw [e5] at a5
    refine ⟨h4, a5, ?_, fun j hj => ?_⟩
    · rw [f4 _ (.inr (by omega)), show ((n + (1 + (ec t).length) + (1 + (cB b).length + 1) : Nat) : Int) = ((n + (1 + (ec t).length + (1 + (cB b).length + 1)) : Nat) : Int) by omega, setH_same]
    · rw [f4 _ (by omega), setH_ne (by omega), setH_ne (by omega)]
  | .iff t a b, ok, pre, post, h, n, hc, hp, hn, z, hv, hh, he => by
    have hc00 : c = pre ++ (MI.unit :: (brn (ec t) (cB a) (cB b) ++ post)) := by
      rw [hc]
      show pre ++ ((MI.unit :: brn (ec t) (cB a) (cB b)) ++ post) = _
      simp
    have el0 : (cT (.iff t a b)).length = 1 + (brn (ec t) (cB a) (cB b)).length := by
      show (MI.unit :: brn (ec t) (cB a) (cB b)).length = _
      rw [List.length_cons]; omega
    have hpl := List.length_pos_iff.mpr hp
    by_cases hb0 : cB b = []
    · have eb : brn (ec t) (cB a) (cB b) = ec t ++ (.skip (cB a).length :: cB a) := by unfold brn; rw [if_pos hb0]
      rw [eb] at hc00 el0
      have hc0 : c = pre ++ (MI.unit :: (ec t ++ (.skip (cB a).length :: (cB a ++ post)))) := by rw [hc00]; simp
      have cl : (cod ns c).length = n + 1 + (ec t).length + 1 + (cB a).length + post.length := by
        rw [cod_len, hc0, hn]
        simp only [List.length_append, List.length_cons]; omega
      have el : (cT (.iff t a b)).length = 1 + (ec t).length + (1 + (cB a).length) := by rw [el0]; simp only [List.length_append, List.length_cons]; omega
      rw [el] at hh he ⊢
      refine Seg.trans (v := 1) (Seg.trans (v := 0) (one_seg hc0 (by simp) hn z hv pl_unit (fits_0 _ (.inl rfl)) (Int.le_refl _) (w := 0) rfl (by decide) (.inl (hh _ (by omega) (by omega)))) fun h1 a1 b1 f1 => ?_) fun h2 a2 b2 f2 => ?_
      · refine ec_seg (pre := pre ++ [.unit]) (post := (.skip (cB a).length :: (cB a ++ post))) ok.1 (by rw [hc0]; simp) (by simp) (by simp [hn]) a1 b1 fun j j0 j1 => ?_
        rw [f1 j (.inr j0)]
        exact hh j (by omega) (by omega)
      have hi : (cod ns c)[n + (1 + (ec t).length)]? = some (("skip" : Str), (((cB a).length : Nat) : Int)) := at_cod (i := .skip (cB a).length) (pre := pre ++ (.unit :: ec t)) (post := (cB a ++ post)) (by rw [hc0]; simp) (by simp [hn]; omega)
      have e1 : ((n + (1 + (ec t).length) : Nat) : Int) + 1 = ((n + (1 + (ec t).length) + 1 : Nat) : Int) := by omega
      have e2 : ((n + (1 + (ec t).length) : Nat) : Int) + 1 + (((cB a).length : Nat) : Int) = ((n + (1 + (ec t).length + (1 + (cB a).length)) : Nat) : Int) := by omega
      have he2 : h2 ((n + (1 + (ec t).length + (1 + (cB a).length)) : Nat) : Int) = none ∨ h2 ((n + (1 + (ec t).length + (1 + (cB a).length)) : Nat) : Int) = some 0 := by
        rw [f2 _ (.inr (by omega))]; exact he
      have a3 := a2.go (w := 0) hi b2 (by decide +kernel) (fits_j _ (.inr (.inl rfl))) (by rw [eff_skip]; decide) (by rw [eff_skip]; decide) (by decide) (by decide +kernel) (by decide +kernel) (by
        rw [tgts_skip, e2, e1]
        refine reach2 (by omega) ?_ (by omega) he2
        by_cases q : (cB a).length = 0
        · have : ((n + (1 + (ec t).length) + 1 : Nat) : Int) = ((n + (1 + (ec t).length + (1 + (cB a).length)) : Nat) : Int) := by omega
          rw [this]; exact he2
        · rw [f2 _ (.inr (by omega))]
          exact .inl (hh _ (by omega) (by omega)))
      have S3 := chkB a ok.2.1 (pre ++ (.unit :: (ec t ++ [.skip (cB a).length]))) post _ (n + (1 + (ec t).length) + 1) (by rw [hc0]; simp) hp (by simp [hn]; omega) a3 (by
        by_cases q : (cB a).length = 0
        · have : ((n + (1 + (ec t).length) + 1 : Nat) : Int) = ((n + (1 + (ec t).length + (1 + (cB a).length)) : Nat) : Int) := by omega
          rw [this, setH_same]
        · rw [setH_ne (by omega), setH_same]) (fun j j0 j1 => by
        rw [setH_ne (by omega), setH_ne (by omega), f2 _ (.inr (by omega))]
        exact hh _ (by omega) (by omega)) (.inr (by
        have : ((n + (1 + (ec t).length) + 1 + (cB a).length : Nat) : Int) = ((n + (1 + (ec t).length + (1 + (cB a).length)) : Nat) : Int) := by omega
        rw [this, setH_same]))
      obtain ⟨h4, a4, b4, f4⟩ := S3
      have e5 : n + (1 + (ec t).length) + 1 + (cB a).length = n + (1 + (ec t).length) + (1 + (cB a).length) := by omega
      rw [e5] at a4 b4 f4
      exact ⟨h4, a4, b4, fun j hj => by rw [f4 _ (by omega), setH_ne (by omega), setH_ne (by omega)]⟩
    · have eb : brn (ec t) (cB a) (cB b) = ec t ++ (.skip ((cB a).length + 1) :: (cB a ++ (.jump (cB b).length :: cB b))) := by unfold brn; rw [if_neg hb0]
      rw [eb] at hc00 el0
      have hbl := List.length_pos_iff.mpr hb0
      have hc0 : c = pre ++ (MI.unit :: (ec t ++ (.skip ((cB a).length + 1) :: (cB a ++ (.jump (cB b).length :: (cB b ++ post)))))) := by rw [hc00]; simp
      have cl : (cod ns c).length = n + 1 + (ec t).length + 1 + (cB a).length + 1 + (cB b).length + post.length := by
        rw [cod_len, hc0, hn]
        simp only [List.length_append, List.length_cons]; omega
      have el : (cT (.iff t a b)).length = 1 + (ec t).length + (1 + (cB a).length + (1 + (cB b).length)) := by rw [el0]; simp only [List.length_append, List.length_cons]; omega
      rw [el] at hh he ⊢
      refine Seg.trans (v := 1) (Seg.trans (v := 0) (one_seg hc0 (by simp) hn z hv pl_unit (fits_0 _ (.inl rfl)) (Int.le_refl _) (w := 0) rfl (by decide) (.inl (hh _ (by omega) (by omega)))) fun h1 a1 b1 f1 => ?_) fun h2 a2 b2 f2 => ?_
      · refine ec_seg (pre := pre ++ [.unit]) (post := (.skip ((cB a).length + 1) :: (cB a ++ (.jump (cB b).length :: (cB b ++ post))))) ok.1 (by rw [hc0]; simp) (by simp) (by simp [hn]) a1 b1 fun j j0 j1 => ?_
        rw [f1 j (.inr j0)]
        exact hh j (by omega) (by omega)
      have hi : (cod ns c)[n + (1 + (ec t).length)]? = some (("skip" : Str), (((cB a).length + 1 : Nat) : Int)) := at_cod (i := .skip ((cB a).length + 1)) (pre := pre ++ (.unit :: ec t)) (post := (cB a ++ (.jump (cB b).length :: (cB b ++ post)))) (by rw [hc0]; simp) (by simp [hn]; omega)
      have e1 : ((n + (1 + (ec t).length) : Nat) : Int) + 1 = ((n + (1 + (ec t).length) + 1 : Nat) : Int) := by omega
      have e2 : ((n + (1 + (ec t).length) : Nat) : Int) + 1 + (((cB a).length + 1 : Nat) : Int) = ((n + (1 + (ec t).length) + 1 + (cB a).length + 1 : Nat) : Int) := by omega
      have a3 := a2.go (w := 0) hi b2 (by decide +kernel) (fits_j _ (.inr (.inl rfl))) (by rw [eff_skip]; decide) (by rw [eff_skip]; decide) (by decide) (by decide +kernel) (by decide +kernel) (by
        rw [tgts_skip, e2, e1]
        refine reach2 (by omega) (.inl ?_) (by omega) (.inl ?_)
        · rw [f2 _ (.inr (by omega))]
          exact hh _ (by omega) (by omega)
        · rw [f2 _ (.inr (by omega))]
          exact hh _ (by omega) (by omega))
      have S3 := chkB a ok.2.1 (pre ++ (.unit :: (ec t ++ [.skip ((cB a).length + 1)]))) (.jump (cB b).length :: (cB b ++ post)) _ (n + (1 + (ec t).length) + 1) (by rw [hc0]; simp) (by simp) (by simp [hn]; omega) a3 (by rw [setH_ne (by omega), setH_same]) (fun j j0 j1 => by
        rw [setH_ne (by omega), setH_ne (by omega), f2 _ (.inr (by omega))]
        exact hh _ (by omega) (by omega)) (by
        by_cases q : (cB a).length = 0
        · right; rw [q, Nat.add_zero, setH_ne (by omega), setH_same]
        · left
          rw [setH_ne (by omega), setH_ne (by omega), f2 _ (.inr (by omega))]
          exact hh _ (by omega) (by omega))
      obtain ⟨h4, a4, b4, f4⟩ := S3
      have hi4 : (cod ns c)[n + (1 + (ec t).length) + 1 + (cB a).length]? = some (("jump" : Str), (((cB b).length : Nat) : Int)) := at_cod (i := .jump (cB b).length) (pre := pre ++ (.unit :: (ec t ++ (.skip ((cB a).length + 1) :: cB a)))) (post := cB b ++ post) (by rw [hc0]; simp) (by simp [hn]; omega)
      have e4 : ((n + (1 + (ec t).length) + 1 + (cB a).length : Nat) : Int) + 1 + (((cB b).length : Nat) : Int) = ((n + (1 + (ec t).length + (1 + (cB a).length + (1 + (cB b).length))) : Nat) : Int) := by omega
      have he4 : h4 ((n + (1 + (ec t).length + (1 + (cB a).length + (1 + (cB b).length))) : Nat) : Int) = h ((n + (1 + (ec t).length + (1 + (cB a).length + (1 + (cB b).length))) : Nat) : Int) := by
        rw [f4 _ (.inr (by omega)), setH_ne (by omega), setH_ne (by omega), f2 _ (.inr (by omega))]
      have a5 := a4.go (w := 0) hi4 b4 (by decide +kernel) (fits_j _ (.inl rfl)) (by rw [eff_jump]; decide) (by rw [eff_jump]; decide) (by decide) (by decide +kernel) (by decide +kernel) (by
        rw [tgts_jump, e4]
        exact reach1 (by omega) (by rw [he4]; exact he))
      have S5 := chkB b ok.2.2 (pre ++ (.unit :: (ec t ++ (.skip ((cB a).length + 1) :: (cB a ++ [.jump (cB b).length]))))) post _ (n + (1 + (ec t).length) + 1 + (cB a).length + 1) (by rw [hc0]; simp) hp (by simp [hn]; omega) a5 (by
        rw [setH_ne (by omega), f4 _ (.inr (by omega)), setH_same]) (fun j j0 j1 => by
        rw [setH_ne (by omega), f4 _ (.inr (by omega)), setH_ne (by omega), setH_ne (by omega), f2 _ (.inr (by omega))]
        exact hh _ (by omega) (by omega)) (.inr (by
        have : ((n + (1 + (ec t).length) + 1 + (cB a).length + 1 + (cB b).length : Nat) : Int) = ((n + (1 + (ec t).length + (1 + (cB a).length + (1 + (cB b).length))) : Nat) : Int) := by omega
        rw [this, setH_same]))
      obtain ⟨h6, a6, b6, f6⟩ := S5
      have e5 : n + (1 + (ec t).length) + 1 + (cB a).length + 1 + (cB b).length = n + (1 + (ec t).length) + (1 + (cB a).length + (1 + (cB b).length)) := by omega
      rw [e5] at a6 b6 f6
      refine ⟨h6, a6, b6, fun j hj => by rw [f6 _ (by omega), setH_ne (by omega), f4 _ (by omega), setH_ne (by omega), setH_ne (by omega)]⟩
theorem chkB : ∀ (b : Bl), b.Ok ns → ∀ (pre post : List MI) (h : Hts) (n : Nat), c = pre ++ (cB b ++ post) → post ≠ [] → n = pre.length → AtC (cod ns c) ns.length n h → h (n : Nat) = some 0 →
    (∀ j : Int, (n : Nat) < j → j < ((n + (cB b).length : Nat) : Int) → h j = none) → (h ((n + (cB b).length : Nat) : Int) = none ∨ h ((n + (cB b).length : Nat) : Int) = some 0) → Seg (cod ns c) ns.length n (cB b).length 0 h
  | .nil, ok, pre, post, h, n, hc, hp, hn, z, hv, hh, he => ⟨h, z, hv, fun _ _ => rfl⟩
  | .cons t b, ok, pre, post, h, n, hc, hp, hn, z, hv, hh, he => by
    have hc1 : c = pre ++ (cT t ++ (cB b ++ post)) := by
      rw [hc]
      show pre ++ ((cT t ++ cB b) ++ post) = _
      simp
    have lt : (cB (.cons t b)).length = (cT t).length + (cB b).length := by show (cT t ++ cB b).length = _; simp
    have tp : 1 ≤ (cT t).length := by
      cases t with
      | set x e => rw [ct_set]; omega
      | lot x e => rw [ct_lot]; omega
      | whl t b => rw [ct_whl]; omega
      | iff t a b =>
        show 1 ≤ (MI.unit :: brn (ec t) (cB a) (cB b)).length
        rw [List.length_cons]; omega
    rw [lt] at hh he ⊢
    refine Seg.trans (v := 0) (chkT t ok.1 pre (cB b ++ post) h n hc1 (by simp [hp]) hn z hv (fun j j0 j1 => hh j j0 (by omega)) ?_) fun h1 a1 b1 f1 => ?_
    · by_cases q : (cB b).length = 0
      · rw [q, Nat.add_zero] at he
        exact he
      · exact .inl (hh _ (by omega) (by omega))
    · refine chkB b ok.2 (pre ++ cT t) post h1 (n + (cT t).length) (by rw [hc1]; simp) hp (by simp [hn]) a1 b1 (fun j j0 j1 => ?_) ?_
      · rw [f1 j (.inr j0)]
        exact hh j (by omega) (by omega)
      · by_cases q : (cB b).length = 0
        · right
          rw [q, Nat.add_zero]; exact b1
        · rw [f1 _ (.inr (by omega)), Nat.add_assoc]
          exact he
end
end
theorem mind_ok {ns : List Str} {b : Bl} {e : Ex} (bok : b.Ok ns) (eo : ExOk ns e) : ∃ s, upto (cod ns (cM b e)) ns.length 0 true (cM b e).length = some s ∧ 0 ≤ s.2 ∧ s.2 ≤ 12 := by
  have z : AtC (cod ns (cM b e)) ns.length 0 h0 := ⟨0, rfl, Int.le_refl _, by decide⟩
  have hn : ∀ j : Int, 0 < j → h0 j = none := fun j hj => if_neg (by omega)
  obtain ⟨h1, a1, b1, f1⟩ := chkB b bok [] (ec e ++ [.fin]) h0 0 rfl (by simp) rfl z rfl (fun j j0 _ => hn j (by omega)) (by
    by_cases q : (cB b).length = 0
    · right; rw [q]; rfl
    · left; exact hn _ (by omega))
  rw [Nat.zero_add] at a1 b1 f1
  obtain ⟨h2, a2, b2, f2⟩ := ec_seg (c := cM b e) (pre := cB b) (post := [.fin]) eo rfl (by simp) rfl a1 b1 (fun j j0 j1 => by rw [f1 _ (.inr j0)]; exact hn j (by omega))
  have hi : (cod ns (cM b e))[(cB b).length + (ec e).length]? = some (("end" : Str), (0 : Int)) := at_cod (c := cM b e) (i := .fin) (pre := cB b ++ ec e) (post := []) (by unfold cM; simp) (by simp)
  have hl : (cM b e).length = (cB b).length + (ec e).length + 1 := by unfold cM; simp; omega
  obtain ⟨top, u, t0, t1⟩ := a2
  refine ⟨(h2, if (1 : Int) - 0 + 0 > top then 1 - 0 + 0 else top), ?_, by show 0 ≤ (if (1 : Int) - 0 + 0 > top then 1 - 0 + 0 else top); split <;> omega, by show (if (1 : Int) - 0 + 0 > top then 1 - 0 + 0 else top) ≤ 12; split <;> omega⟩
  rw [hl]
  show (match upto (cod ns (cM b e)) ns.length 0 true ((cB b).length + (ec e).length), (cod ns (cM b e))[(cB b).length + (ec e).length]? with | some s, some p => good1 (cod ns (cM b e)) ns.length 0 true (((cB b).length + (ec e).length : Nat) : Int) p.1 p.2 s.1 s.2 | _, _ => none) = _
  rw [u, hi]
  show good1 (cod ns (cM b e)) ns.length 0 true (((cB b).length + (ec e).length : Nat) : Int) "end" 0 h2 top = _
  have ef : eff "end" = (0, 0) := by decide +kernel
  have eb : (1 : Int) = b2i' true := rfl
  unfold good1
  simp only [b2, ef]
  rw [if_neg (fun z => z (by decide +kernel)), if_neg (by rw [fits_0 _ (.inr (.inr rfl))]; simp), if_neg (by omega), if_pos trivial, if_pos eb]

/-! how long compiled code runs -/
/-- its ways back lead to a unit, and none stands at its end -/
def BkOk (c : List MI) : Prop := ∀ p n, c[p]? = some (.back n) → p + 1 < c.length ∧ (n ≤ p → c[p - n]? = some .unit)
open Classical in
noncomputable def bnd (c : List MI) (m : MC) : Int := if c[m.at_]? = some .unit then (if m.left = 0 then 1 else m.left * (c.length : Int) - m.at_) else m.left * (c.length : Int) + ((c.length : Int) - m.at_)
theorem bnd_le {c : List MI} {m : MC} (h0 : 0 ≤ m.left) (hl : m.at_ < c.length) : bnd c m ≤ m.left * (c.length : Int) + ((c.length : Int) - m.at_) := by
  unfold bnd
  have : 0 ≤ m.left * (c.length : Int) := Int.mul_nonneg h0 (by omega)
  split
  · split <;> omega
  · exact Int.le_refl _
theorem stepM_at {ns : List Str} {seen rs : List Int} {c : List MI} {m m' : MC} (h : stepM ns seen rs c m = some m') : ∃ i, c[m.at_]? = some i ∧ exec ns seen rs i { m with at_ := m.at_ + 1 } = some m' := by
  unfold stepM at h
  split at h
  · cases hi : c[m.at_]? with
    | none => rw [hi] at h; cases h
    | some i => rw [hi] at h; exact ⟨i, rfl, h⟩
  · cases h
/-- an instruction that is no unit and no way back goes on, or it is the end -/
theorem exec_fwd {ns : List Str} {seen rs : List Int} {i : MI} {m m' : MC} (h : exec ns seen rs i m = some m') (nu : i ≠ .unit) (nb : ∀ n, i ≠ .back n) : m'.left = m.left ∧ m.at_ ≤ m'.at_ := by
  have fin : ∀ {x : MC}, x = m' → x.left = m.left → m.at_ ≤ x.at_ → m'.left = m.left ∧ m.at_ ≤ m'.at_ := fun e h1 h2 => by subst e; exact ⟨h1, h2⟩
  cases i with
  | unit => exact absurd rfl nu
  | back n => exact absurd rfl (nb n)
  | skip n =>
    simp only [exec] at h
    split at h
    · refine fin (Option.some.inj h) rfl ?_
      dsimp only
      split
      · exact Nat.le_add_right _ _
      · exact Nat.le_refl _
    · cases h
  | jump n => exact fin (Option.some.inj h) rfl (Nat.le_add_right _ _)
  | fin => exact fin (Option.some.inj h) rfl (Nat.le_refl _)
  | store x =>
    simp only [exec] at h
    split at h
    · split at h
      · exact fin (Option.some.inj h) rfl (Nat.le_refl _)
      · cases h
    · cases h
  | lot =>
    simp only [exec] at h
    split at h
    · split at h
      · refine fin (Option.some.inj h) ?_ ?_
        · split <;> rfl
        · split <;> exact Nat.le_refl _
      · cases h
    · cases h
  | e i =>
    cases i with
    | push n => exact fin (Option.some.inj h) rfl (Nat.le_refl _)
    | long => exact fin (Option.some.inj h) rfl (Nat.le_refl _)
    | load x =>
      simp only [exec] at h
      split at h
      · exact fin (Option.some.inj h) rfl (Nat.le_refl _)
      · cases h
    | view =>
      simp only [exec] at h
      split at h
      · split at h
        · exact fin (Option.some.inj h) rfl (Nat.le_refl _)
        · cases h
      · cases h
    | sign z =>
      simp only [exec] at h
      split at h
      · split at h
        · exact fin (Option.some.inj h) rfl (Nat.le_refl _)
        · cases h
      · cases h
theorem pth_out {ns : List Str} {seen rs : List Int} {c : List MI} {n : Nat} {m r : MC} (h : Pth ns seen rs c n m r) (ho : m.done = true ∨ c.length ≤ m.at_) : n = 0 := by
  cases h with
  | refl => rfl
  | step hd hs _ =>
    obtain ⟨i, hi, _⟩ := stepM_at hs
    rcases ho with ho | ho
    · rw [ho] at hd; cases hd
    · rw [List.getElem?_eq_none ho] at hi; cases hi
theorem pth_bound {ns : List Str} {seen rs : List Int} {c : List MI} (hb : BkOk c) {n : Nat} {m r : MC} (h : Pth ns seen rs c n m r) : 0 ≤ m.left → n = 0 ∨ (n : Int) ≤ bnd c m := by
  induction h with
  | refl m => exact fun _ => .inl rfl
  | @step n m m' r hd hs hp ih =>
    intro h0
    refine .inr ?_
    obtain ⟨i, hi, he⟩ := stepM_at hs
    have hl : m.at_ < c.length := (List.getElem?_eq_some_iff.mp hi).1
    have hLn : 0 ≤ m.left * (c.length : Int) := Int.mul_nonneg h0 (by omega)
    by_cases hu : i = .unit
    · subst hu
      have em : m' = { m with at_ := m.at_ + 1, silent := decide (V.int m.left = V.int 0), done := decide (V.int m.left = V.int 0), left := m.left - 1 } := (Option.some.inj he).symm
      by_cases hz : m.left = 0
      · have n0 := pth_out hp (.inl (by rw [em]; exact decide_eq_true (by rw [hz])))
        subst n0
        unfold bnd
        rw [if_pos hi, if_pos hz]
        decide
      · have e1 : m'.left = m.left - 1 := by rw [em]
        have e2 : m'.at_ = m.at_ + 1 := by rw [em]
        have hm : (m.left - 1) * (c.length : Int) = m.left * (c.length : Int) - (c.length : Int) := by rw [Int.sub_mul, Int.one_mul]
        have hLn' : 0 ≤ (m.left - 1) * (c.length : Int) := Int.mul_nonneg (by omega) (by omega)
        have eb : bnd c m = m.left * (c.length : Int) - m.at_ := by unfold bnd; rw [if_pos hi, if_neg hz]
        rw [eb]
        by_cases hl' : m'.at_ < c.length
        · rcases ih (by omega) with z | z
          · omega
          · have b1 := bnd_le (c := c) (m := m') (by omega) hl'
            rw [e1, e2] at b1
            rw [hm] at b1
            omega
        · have n0 := pth_out hp (.inr (by omega))
          omega
    have eb : bnd c m = m.left * (c.length : Int) + ((c.length : Int) - m.at_) := by
      unfold bnd
      rw [hi, if_neg (fun z => hu (Option.some.inj z))]
    rw [eb]
    by_cases hk : ∃ k, i = .back k
    · obtain ⟨k, rfl⟩ := hk
      obtain ⟨b1, b2⟩ := hb _ _ hi
      have he' : (if k + 1 ≤ m.at_ + 1 then some { m with at_ := m.at_ + 1 - 1 - k } else none) = some m' := he
      by_cases hkk : k + 1 ≤ m.at_ + 1
      · rw [if_pos hkk] at he'
        have em : m' = { m with at_ := m.at_ + 1 - 1 - k } := (Option.some.inj he').symm
        have e1 : m'.left = m.left := by rw [em]
        have e2 : m'.at_ = m.at_ - k := by rw [em]; show m.at_ + 1 - 1 - k = _; omega
        have hu' : c[m'.at_]? = some .unit := by rw [e2]; exact b2 (by omega)
        rcases ih (by omega) with z | z
        · omega
        · have eb' : bnd c m' = (if m.left = 0 then 1 else m.left * (c.length : Int) - m'.at_) := by unfold bnd; rw [if_pos hu', e1]
          rw [eb'] at z
          split at z <;> omega
      · rw [if_neg hkk] at he'; cases he'
    · obtain ⟨f1, f2⟩ := exec_fwd he hu (fun k z => hk ⟨k, z⟩)
      change m'.left = m.left at f1
      change m.at_ + 1 ≤ m'.at_ at f2
      by_cases hl' : m'.at_ < c.length
      · rcases ih (by omega) with z | z
        · omega
        · have b1 := bnd_le (c := c) (m := m') (by omega) hl'
          rw [f1] at b1
          omega
      · have n0 := pth_out hp (.inr (by omega))
        omega
theorem upto_back {cs : List In2} {sl : Int} {n i : Nat} {a : Int} {s : Hts × Int} (h : upto cs sl 0 true n = some s) (hi : i < n) (he : cs[i]? = some (("back" : Str), a)) : ∃ h', backOk cs h' (i : Int) ((i : Int) - a) = true := by
  obtain ⟨t, ht⟩ := upto_le h (i + 1) hi
  obtain ⟨t0, ht0⟩ := upto_le h i (by omega)
  have h' : (match upto cs sl 0 true i, cs[i]? with | some s, some p => good1 cs sl 0 true (i : Int) p.1 p.2 s.1 s.2 | _, _ => none) = some t := ht
  rw [ht0, he] at h'
  have h2 : good1 cs sl 0 true (i : Int) "back" a t0.1 t0.2 = some t := h'
  unfold good1 at h2
  cases hv : t0.1 (i : Int) with
  | none => simp [hv] at h2
  | some v =>
    simp only [hv] at h2
    split at h2
    · cases h2
    split at h2
    · cases h2
    split at h2
    · cases h2
    rw [if_neg (by decide +kernel), if_pos trivial] at h2
    split at h2
    · rename_i hb
      exact ⟨_, hb⟩
    · cases h2
theorem tag_unit : ∀ {i : MI}, tagM i = "unit" → i = .unit
  | .e (.push _), h => absurd h (by show ¬ ("push" : Str) = "unit"; decide +kernel)
  | .e (.load _), h => absurd h (by show ¬ ("load" : Str) = "unit"; decide +kernel)
  | .e .long, h => absurd h (by show ¬ ("long" : Str) = "unit"; decide +kernel)
  | .e .view, h => absurd h (by show ¬ ("view" : Str) = "unit"; decide +kernel)
  | .e (.sign _), h => absurd h (by show ¬ ("sign" : Str) = "unit"; decide +kernel)
  | .skip _, h => absurd h (by show ¬ ("skip" : Str) = "unit"; decide +kernel)
  | .jump _, h => absurd h (by show ¬ ("jump" : Str) = "unit"; decide +kernel)
  | .back _, h => absurd h (by show ¬ ("back" : Str) = "unit"; decide +kernel)
  | .unit, _ => rfl
  | .lot, h => absurd h (by show ¬ ("lot" : Str) = "unit"; decide +kernel)
  | .store _, h => absurd h (by show ¬ ("store" : Str) = "unit"; decide +kernel)
  | .fin, h => absurd h (by show ¬ ("end" : Str) = "unit"; decide +kernel)
theorem mind_bk {ns : List Str} {b : Bl} {e : Ex} (bok : b.Ok ns) (eo : ExOk ns e) : BkOk (cM b e) := by
  obtain ⟨s, hs, _⟩ := mind_ok bok eo
  intro p n hp
  have hl : p < (cM b e).length := (List.getElem?_eq_some_iff.mp hp).1
  have hlast : (cM b e)[(cM b e).length - 1]? = some .fin := by
    have hL : (cM b e).length - 1 = (cB b ++ ec e).length := by unfold cM; simp only [List.length_append, List.length_cons, List.length_nil]; omega
    exact getR (pre := cB b ++ ec e) (post := []) (by unfold cM; simp) hL
  refine ⟨?_, fun hn => ?_⟩
  · by_cases q : p + 1 = (cM b e).length
    · have : p = (cM b e).length - 1 := by omega
      rw [← this, hp] at hlast
      cases hlast
    · omega
  · have hc : (cod ns (cM b e))[p]? = some (("back" : Str), (n : Int)) := by
      unfold cod; rw [List.getElem?_map, hp]; rfl
    obtain ⟨h', hb⟩ := upto_back hs hl hc
    unfold backOk at hb
    rw [Bool.and_eq_true, Bool.and_eq_true] at hb
    have h2 := of_decide_eq_true hb.1.2
    have et : (((p : Nat) : Int) - ((n : Nat) : Int)).toNat = p - n := by omega
    rw [et] at h2
    unfold cod at h2
    rw [List.getElem?_map] at h2
    cases hx : (cM b e)[p - n]? with
    | none => rw [hx] at h2; cases h2
    | some i =>
      rw [hx] at h2
      have h3 : (tagM i, numM ns i) = (("unit" : Str), (0 : Int)) := Option.some.inj h2
      rw [tag_unit (congrArg Prod.fst h3)]
theorem brain_len {ns : List Str} {seen rs : List Int} {cs : List Int} {u : Int} {tk : List (Int × Int)} {b : Bl} {e : Ex} {N : Nat} {mF : MC} (bok : b.Ok ns) (eo : ExOk ns e) (u0 : 0 ≤ u) (h : Pth ns seen rs (cM b e) N (mc0 cs u tk) mF) (hd : mF.done = true) : 1 ≤ N ∧ (N : Int) ≤ (u + 1) * ((cM b e).length : Int) := by
  refine ⟨?_, ?_⟩
  · cases h with
    | refl => cases hd
    | step _ _ _ => omega
  · have hl : 0 < (cM b e).length := by unfold cM; simp; omega
    have hLn : 0 ≤ u * ((cM b e).length : Int) := Int.mul_nonneg u0 (by omega)
    rw [Int.add_mul, Int.one_mul]
    rcases pth_bound (mind_bk bok eo) h u0 with z | z
    · omega
    · have := bnd_le (c := cM b e) (m := mc0 cs u tk) u0 hl
      change _ ≤ u * ((cM b e).length : Int) + (((cM b e).length : Int) - (0 : Nat)) at this
      omega

theorem tbOf_map {ns : List Str} {cs : List Int} (nd : ns.Nodup) (h : cs.length = ns.length) : ns.map (tbOf ns cs) = cs := by
  refine List.ext_getElem? fun i => ?_
  rw [List.getElem?_map]
  cases hn : ns[i]? with
  | none =>
    rw [List.getElem?_eq_none_iff] at hn
    rw [List.getElem?_eq_none (by omega)]; rfl
  | some n =>
    have hlt := (List.getElem?_eq_some_iff.mp hn).1
    obtain ⟨v, hv⟩ : ∃ v, cs[i]? = some v := ⟨cs[i]'(by omega), List.getElem?_eq_getElem (by omega)⟩
    rw [hv]
    show some (tbOf ns cs n) = some v
    rw [tbOf_at nd hn hv]
theorem brain_path {ns : List Str} {seen rs : List Int} {b : Bl} {e : Ex} {cs : List Int} {u count : Int} {tk : List (Int × Int)} (nd : ns.Nodup) (hsk : SeenOk seen) (hs : seen.length ≤ 60000) (bok : b.Ok ns) (eo : ExOk ns e) (hl : cs.length = ns.length) (hc : CsOk cs) (u0 : 0 ≤ u) (hb : u.toNat + tk.length ≤ 90000) :
    ∃ N mF, Pth ns seen rs (cM b e) N (mc0 cs u tk) mF ∧ mF.done = true ∧ (mF.silent = false → mF.st ≠ []) ∧ (if mF.silent = true then 0 else if mF.st.headD 0 ≥ count then 0 else mF.st.headD 0) = (thk ns cs b e count seen rs u tk).1 ∧ (if mF.silent = true then cs else mF.cells) = (thk ns cs b e count seen rs u tk).2.1 ∧ mF.tk = (thk ns cs b e count seen rs u tk).2.2 := by
  have e0 : mc0 cs u tk = mcA ns 0 [] ⟨u, tbOf ns cs, tk⟩ := by
    show MC.mk 0 [] cs u false false tk = MC.mk 0 [] (ns.map (tbOf ns cs)) u false false tk
    rw [tbOf_map nd hl]
  have hm : MOk ns ⟨u, tbOf ns cs, tk⟩ := ⟨u0, fun y _ => tbOf_ok hc y⟩
  have g := gB (rs := rs) (c := cM b e) nd hsk hs b bok [] (ec e ++ [.fin]) rfl ⟨u, tbOf ns cs, tk⟩ hm hb
  have mv := runB_mv (rs := rs) hsk b bok _ hm
  rw [e0]
  unfold thk
  cases hr : (runB seen rs b ⟨u, tbOf ns cs, tk⟩).1 with
  | false =>
    obtain ⟨n, m', q, d1, d2, d3⟩ := g.2 hr
    rw [if_pos rfl]
    refine ⟨n, m', q, d1, fun z => ?_, ?_, ?_, d3⟩
    · rw [d2] at z; cases z
    · rw [if_pos d2]
    · rw [if_pos d2]
  | true =>
    obtain ⟨n, q⟩ := g.1 hr
    rw [if_neg (by decide)]
    generalize (runB seen rs b ⟨u, tbOf ns cs, tk⟩).2 = s2 at *
    rw [List.length_nil, Nat.zero_add] at q
    have p1 := ex_path (rs := rs) (c := cM b e) (R := []) (s := s2) mv.ok hsk hs eo (fun x hx => by cases hx) (Nat.zero_le _) (pre := cB b) (post := [.fin]) rfl
    have hi : (cM b e)[(cB b).length + (ec e).length]? = some .fin := getR (pre := cB b ++ ec e) (post := []) (by unfold cM; simp) (by simp)
    have p2 : Pth ns seen rs (cM b e) 1 (mcA ns ((cB b).length + (ec e).length) [s2.ev seen e] s2) { mcA ns ((cB b).length + (ec e).length + 1) [s2.ev seen e] s2 with done := true } := Pth.one hi (by simp) rfl
    refine ⟨_, _, (q.trans p1).trans p2, rfl, fun _ => by show [s2.ev seen e] ≠ []; simp, rfl, rfl, rfl⟩
theorem thk_ok {ns : List Str} {cs : List Int} {b : Bl} {e : Ex} {count : Int} {seen rs : List Int} {u : Int} {tk : List (Int × Int)} (hl : cs.length = ns.length) (co : CsOk cs) (hs : SeenOk seen) (hb : b.Ok ns) (u0 : 0 ≤ u) :
    CsOk (thk ns cs b e count seen rs u tk).2.1 ∧ (thk ns cs b e count seen rs u tk).2.1.length = ns.length ∧ (thk ns cs b e count seen rs u tk).2.2.length ≤ u.toNat + tk.length := by
  have mv := runB_mv (rs := rs) hs b hb ⟨u, tbOf ns cs, tk⟩ ⟨u0, fun y _ => tbOf_ok co y⟩
  have h1 := mv.k
  have h2 : (runB seen rs b ⟨u, tbOf ns cs, tk⟩).2.tk.length ≤ u.toNat + tk.length := by
    change _ ≤ u.toNat + tk.length + 0 at h1
    omega
  unfold thk
  split
  · exact ⟨co, hl, h2⟩
  · refine ⟨fun c hc => ?_, List.length_map _, h2⟩
    obtain ⟨y, hy, rfl⟩ := List.mem_map.mp hc
    exact mv.ok.t y hy
theorem Pool.keepX {H H' : Hp} {p q : Addr} {ns : PoolT} {W : List Addr} (h : Pool H p q ns) (k : Keep W H H') (h1 : p ∉ W) (h2 : q ∉ W) : Pool H' p q ns := by
  obtain ⟨i1, i2, i3, i4, g1, g2, g3, g4⟩ := h
  exact ⟨i1, i2, i3, i4, k _ _ g1 h1, k _ _ g2 h2, g3, g4⟩

def sp_brainC (K : PySem.W.Frag) : Sp := fun vs H Q _ => ∃ (p q : Addr) (ps : PoolT) (u : Int) (lp : Bool), vs = [.ref p, .int u, .bl lp] ∧ Pool H p q ps ∧ ps.2 ≤ 1000 ∧ ∀ t ce bk an ns cs b e H' m, H t = none → H' t = some (.tup [.int u, .ref ce, .ref bk, an]) → Bd K H' ce bk an ns cs b e → BdOk ns b e → (cB b).length ≤ 4000 → CsOk cs → Pool H' p q (ps.1, m) → Keep [p] H H' → Q (.ref t) H'
section
variable {P : Program} {w : World} {K : PySem.W.Frag} {mg : Str → Option Value} {base : Heap} {C_Tape : Addr} {C_Thinker : Addr} {C_Brain : Addr} {C_Mind : Addr} {C_Frame : Addr} {C_Thinking : Addr} {C_Checker : Addr} {T_EVENTS : Addr} {T_SIGNS : Addr} {T_ROUND_NAMES : Addr} {T_BRAIN_NAMES : Addr} {T_EFFECTS : Addr}
theorem ok_brain {f : Addr} {fd : FuncData} (D : C8.Def K mg "_law_brain" s_law_brain f fd) (b : Binds K fd ["pool", "units", "loops"] []) (T : Txt K mg C_Tape C_Thinker C_Brain C_Mind C_Frame C_Thinking C_Checker T_EVENTS T_SIGNS T_ROUND_NAMES T_BRAIN_NAMES T_EFFECTS) (c_law_names : C8.Cal P w K mg base 4 "_law_names" sp_law_names []) (c_law_number : C8.Cal P w K mg base 2 "_law_number" sp_law_number [])
    (c_law_thoughts : C8.Cal P w K mg base 33 "_law_thoughts" (sp_thoughts K 9) []) (c_law_expression : C8.Cal P w K mg base 15 "_law_expression" (sp_expr K 12) []) : C8.Cal P w K mg base 34 "_law_brain" (sp_brainC K) [] := by
  refine cal0 D b .nil sc_law_brain (fun vs H Q E h => ?_) (fun cdv A outer s H vs Q E hr h => ?_)
  · obtain ⟨p, q, ps, u, lp, rfl, _⟩ := h
    rfl
  · obtain ⟨p, q, ps, u, lp, rfl, hP, hps, k⟩ := h
    refine ⟨_, (pss_cons (ps_set (i := 3) sc_law_brain.nd rfl (by first | exact Or.inl rfl | exact Or.inr rfl) (pe_c c_law_names hr (by first | exact Nat.le_refl _ | decide | omega) rfl (pa_cons (pv 0) (pa_cons pe_int pa_nil))))
(pss_cons (ps_set (i := 4) sc_law_brain.nd rfl (by first | exact Or.inl rfl | exact Or.inr rfl) (pe_callTy call_tuple_of (by rfl) T.n_tuple bo_tuple (pa_cons (pe_lc (own := [("name", 6)]) (g := gName 6) (tt := tYes) rfl sc_law_brain.nd (pi_list (pv 3)) (blkOk_by (N := ["pool", "units", "loops", "names", "cells", "block", "name"]) (sc := fnScope s_law_brain) (by decide +kernel)) (fun _ _ _ _ _ => pg_name (i := 6) sc_law_brain.nd rfl (Or.inl rfl)) (fun _ _ _ _ _ => pts_nil) (fun _ _ _ _ _ => (pe_tup (pa_cons (pv 6) (pa_cons (pe_c c_law_number hr (by first | exact Nat.le_refl _ | decide | omega) rfl (pa_cons (pv 0) pa_nil)) pa_nil))))) pa_nil)))
(pss_cons (ps_set (i := 5) sc_law_brain.nd rfl (by first | exact Or.inl rfl | exact Or.inr rfl) (pe_c c_law_thoughts hr (by first | exact Nat.le_refl _ | decide | omega) rfl (pa_cons (pv 0) (pa_cons (pv 3) (pa_cons pe_int (pa_cons (pv 2) pa_nil))))))
(pss_one (ps_ret (pe_tup (pa_cons (pv 1) (pa_cons (pv 4) (pa_cons (pv 5) (pa_cons (pe_c c_law_expression hr (by first | exact Nat.le_refl _ | decide | omega) rfl (pa_cons (pv 0) (pa_cons (pv 3) (pa_cons pe_int pa_nil)))) pa_nil)))))))))), ?_⟩
    refine ⟨_, rfl, p, q, ps, 8, rfl, by decide, by decide, hP, fun l ys H1 nl hl hlen nd nok hle P1 K1 => ?_⟩
    have hlen : ys.length ≤ 8 := hlen
    have nlp := hP.nep nl
    refine ⟨_, rfl, l, rfl, ⟨_, SqL.of hl⟩, fun L hL => ?_⟩
    have hL0 := P1.free K1 hL
    have nLp := hP.nep hL0
    have nLq := hP.neq hL0
    refine lc_list (K := K) (a := l) (xs := ys.map V.str) (fun i H2 => ∃ (vs : List V) (cs : List Int), H2 L = some (.lst vs) ∧ RL H2 vs (ys.take i) cs ∧ CsOk cs ∧ Pool H2 p q ps ∧ Keep [p] H H2 ∧ H2 l = some (.lst (ys.map V.str)))
      ⟨[], [], upd_same, .nil, (fun _ h => by cases h), P1.new hL, K1.then_new hL, by rw [upd_ne (ne_of_none hl hL)]; exact hl⟩ (fun i H2 _ ⟨_, _, _, _, _, _, _, h⟩ => SqL.of h) ?_ ?_
    · rintro i v H2 hi2 ⟨vs, cs, hD, hR, hcs, P2, K2, hl2⟩
      obtain ⟨z, hz, rfl⟩ := strs_get hi2
      obtain ⟨hlt, he⟩ := List.getElem?_eq_some_iff.mp hz
      refine ⟨rfl, yes_then ⟨_, rfl, _, rfl, p, q, ps, rfl, P2, fun r H3 r0 r1 P3 K3 => And.intro (by show 2 ≤ sizeLine; decide) <| fun t nt => ?_⟩⟩
      have hD3 := K3 _ _ hD (by simpa using nLp)
      have kt : Keep [] H3 (upd H3 t (.tup [.str z, .int r])) := Keep.new nt
      have hD4 := kt _ _ hD3 (by simp)
      have hln := hR.len
      rw [List.length_take] at hln
      have ntL : t ≠ L := (ne_of_none hD3 nt).symm
      have tkk : TK H2 (upd (upd H3 t (.tup [.str z, .int r])) L (.lst (vs ++ [.ref t]))) := (P2.tk K3).trans (kt.tk.trans (TK.lst hD4))
      refine ⟨_, hD4, smallL (by omega), vs ++ [.ref t], cs ++ [r], upd_same, ?_, (fun c hc => (List.mem_append.mp hc).elim (hcs c) fun z => by rw [List.mem_singleton.mp z]; exact ⟨r0, r1⟩), (P3.new nt).own nLp nLq, ((K2.trans K3).then_new nt).then_own hL0, ?_⟩
      · rw [List.take_succ_eq_append_getElem hlt, he]
        exact (hR.tk tkk).snoc (by rw [upd_ne ntL]; exact upd_same)
      · rw [upd_ne (ne_of_none hl hL)]
        exact kt _ _ (K3 _ _ hl2 (by simpa using nlp)) (by simp)
    · rintro H2 ⟨vs, cs, hD, hR, hcs, P2, K2, hl2⟩
      rw [List.length_map, ← List.length_map (f := V.str), List.length_map, List.take_length] at hR
      refine ⟨_, _, rfl, .inl ⟨SqL.of hD, fun t nt => ?_⟩⟩
      have k3 : Keep [] H2 (upd H2 t (.tup vs)) := Keep.new nt
      have K3 := K2.trans (k3.mono (by simp))
      refine ⟨_, rfl, _, rfl, _, rfl, p, q, l, ps, ys, 8, lp, rfl, by decide, by decide, P2.new nt, k3 _ _ hl2 (by simp), nlp, by omega, fun r bl H4 m4 B4 o4 d4 l4 b4 P4 K4 => ?_⟩
      have K04 := K3.trans K4
      have hl4 := K4 _ _ (k3 _ _ hl2 (by simp)) (by simpa using nlp)
      refine ⟨_, rfl, _, rfl, _, rfl, _, rfl, _, rfl, p, q, l, (ps.1, m4), ys, 12, rfl, by decide, by decide, P4, hl4, nlp, by omega, fun an e H5 m5 E5 o5 d5 b5 P5 K5 => And.intro (by show 4 ≤ sizeLine; decide) <| fun z nz => ?_⟩
      have tk45 := P4.tk K5
      have tk24 : TK H2 H4 := k3.tk.trans ((P2.new nt).tk K4)
      have ct4 : H4 t = some (.tup vs) := (P2.new nt).tk K4 _ _ upd_same
      have tkz : TK H5 (upd H5 z (.tup [.int u, .ref t, .ref r, an])) := TK.new nz
      exact k z t r an ys cs bl e _ m5 (P5.free (K04.trans K5) nz) upd_same ⟨⟨vs, tkz _ _ (tk45 _ _ ct4), ((hR.tk tk24).tk tk45).tk tkz⟩, (B4.tk tk45).tk tkz, E5.tk tkz⟩ ⟨nd, hlen, o4.1, d4, ⟨o5, d5⟩, o4.2, l4⟩ (by omega) (fun c hc => hcs c hc) (P5.new nz) ((K04.trans K5).then_new nz)
end

section
variable {P : Program} {w : World} {K : PySem.W.Frag} {mg : Str → Option Value} {base : Heap} {C_Tape : Addr} {C_Thinker : Addr} {C_Brain : Addr} {C_Mind : Addr} {C_Frame : Addr} {C_Thinking : Addr} {C_Checker : Addr} {T_EVENTS : Addr} {T_SIGNS : Addr} {T_ROUND_NAMES : Addr} {T_BRAIN_NAMES : Addr} {T_EFFECTS : Addr}
theorem ok_view {f : Addr} {fd : FuncData} (D : C8.Def K mg "_law_view" s_law_view f fd) (b : Binds K fd ["pool"] []) (T : Txt K mg C_Tape C_Thinker C_Brain C_Mind C_Frame C_Thinking C_Checker T_EVENTS T_SIGNS T_ROUND_NAMES T_BRAIN_NAMES T_EFFECTS) (c_law_draw : C8.Cal P w K mg base 1 "_law_draw" sp_law_draw []) (c_law_few : C8.Cal P w K mg base 2 "_law_few" sp_law_few []) (c_law_number : C8.Cal P w K mg base 2 "_law_number" sp_law_number []) : C8.Cal P w K mg base 3 "_law_view" sp_view [] := by
  refine cal0 D b .nil sc_law_view (fun vs H Q E h => ?_) (fun cdv A outer s H vs Q E hr h => ?_)
  · obtain ⟨p, q, ns, rfl, _⟩ := h
    rfl
  · obtain ⟨p, q, ns, rfl, hP, k⟩ := h
    refine ⟨_, (pss_cons (ps_set (i := 1) sc_law_view.nd rfl (by first | exact Or.inl rfl | exact Or.inr rfl) (pe_lst (pa_cons (pe_tup (pa_cons pe_str (pa_cons pe_int pa_nil))) pa_nil)))
(pss_cons (ps_for PassesOwn.never rfl (pi_range1 (by rfl) T.n_range (pa_cons (pe_c c_law_few hr (by first | exact Nat.le_refl _ | decide | omega) rfl (pa_cons (pv 0) (pa_cons pe_int pa_nil))) pa_nil)) (pg_name (i := 2) sc_law_view.nd rfl (by first | exact Or.inl rfl | exact Or.inr rfl))
  (pss_cons (ps_set (i := 3) sc_law_view.nd rfl (by first | exact Or.inl rfl | exact Or.inr rfl) (pe_c c_law_draw hr (by first | exact Nat.le_refl _ | decide | omega) rfl (pa_cons (pv 0) (pa_cons pe_int pa_nil))))
  (pss_one (ps_if (pt_cmpR op_eq (pv 3) pe_int (nomark _))
    (pss_one (ps_expr (pe_bm PySem.F.plainAttrs_list PySem.F.slot_list_append PySem.F.type_list_append mt_append (pv 1) (pa_cons (pe_tup (pa_cons pe_str (pa_cons (pe_c c_law_draw hr (by first | exact Nat.le_refl _ | decide | omega) rfl (pa_cons (pv 0) (pa_cons pe_int pa_nil))) pa_nil))) pa_nil))))
    (pss_one (ps_if (pt_cmpR op_eq (pv 3) pe_int (nomark _))
      (pss_one (ps_expr (pe_bm PySem.F.plainAttrs_list PySem.F.slot_list_append PySem.F.type_list_append mt_append (pv 1) (pa_cons (pe_tup (pa_cons pe_str (pa_cons (pe_c c_law_number hr (by first | exact Nat.le_refl _ | decide | omega) rfl (pa_cons (pv 0) pa_nil)) pa_nil))) pa_nil))))
      (pss_cons (ps_set (i := 4) sc_law_view.nd rfl (by first | exact Or.inl rfl | exact Or.inr rfl) (pe_op op_add pe_int (pe_c c_law_draw hr (by first | exact Nat.le_refl _ | decide | omega) rfl (pa_cons (pv 0) (pa_cons pe_int pa_nil)))))
      (pss_one (ps_set (i := 1) sc_law_view.nd rfl (by first | exact Or.inl rfl | exact Or.inr rfl) (pe_op op_cat (pv 1) (pe_lst (pa_cons (pe_tup (pa_cons pe_str (pa_cons (pe_c c_law_draw hr (by first | exact Nat.le_refl _ | decide | omega) rfl (pa_cons (pv 0) (pa_cons pe_int pa_nil))) (pa_cons (pv 4) pa_nil)))) (pa_cons (pe_tup (pa_cons pe_str (pa_cons (pe_c c_law_draw hr (by first | exact Nat.le_refl _ | decide | omega) rfl (pa_cons (pv 0) (pa_cons (pv 4) pa_nil))) pa_nil))) pa_nil)))))))))))))
(pss_cut (ps_if (pt_cmpR op_eq (pe_c c_law_draw hr (by first | exact Nat.le_refl _ | decide | omega) rfl (pa_cons (pv 0) (pa_cons pe_int pa_nil))) pe_int (nomark _))
  (pss_one (ps_expr (pe_bm PySem.F.plainAttrs_list PySem.F.slot_list_append PySem.F.type_list_append mt_append (pv 1) (pa_cons (pe_tup (pa_cons pe_str (pa_cons (pe_c c_law_draw hr (by first | exact Nat.le_refl _ | decide | omega) rfl (pa_cons (pv 0) (pa_cons pe_int pa_nil))) (pa_cons (pe_op op_add pe_int (pe_c c_law_draw hr (by first | exact Nat.le_refl _ | decide | omega) rfl (pa_cons (pv 0) (pa_cons pe_int pa_nil)))) pa_nil)))) pa_nil))))
  pss_nil)
(pss_one (ps_ret (pe_callTy call_tuple_of (by rfl) T.n_tuple bo_tuple (pa_cons (pv 1) pa_nil))))))), ?_⟩
    refine And.intro (by show 2 ≤ sizeLine; decide) <| fun t0 nt0 => And.intro (by show 1 ≤ sizeLine; decide) <| fun l0 nl0 => ?_
    have k0 : Keep [] H (upd (upd H t0 (.tup [.str "round", .int 0])) l0 (.lst [.ref t0])) := (Keep.new nt0).then_new nl0
    have V0 : VL (upd (upd H t0 (.tup [.str "round", .int 0])) l0 (.lst [.ref t0])) l0 [⟨"round", 0, none⟩] := ⟨_, upd_same, .cons (Keep.new (W := []) nl0 _ _ upd_same (by simp)) .nil⟩
    have O0 : EvsOk [⟨"round", 0, none⟩] := evok2 (by decide +kernel) (by decide +kernel) (by decide) (by decide)
    have nl00 : H l0 = none := (Keep.new (W := []) nt0).free nl0
    generalize upd (upd H t0 (.tup [.str "round", .int 0])) l0 (.lst [.ref t0]) = H0 at *
    refine ⟨_, rfl, p, q, ns, 12, rfl, by decide, by decide, hP.keep0 k0, fun m H2 m0' m1' P2 K1 => ?_⟩
    have K2 : Keep [p] H H2 := (k0.mono (by simp)).trans K1
    have nep : ∀ {a : Addr}, H a = none → a ≠ p := fun h => hP.nep h
    have neq : ∀ {a : Addr}, H a = none → a ≠ q := fun h => hP.neq h
    have V2 : VL H2 l0 [⟨"round", 0, none⟩] := V0.keep K1 ((hP.keep0 k0).tk K1) (by simpa using nep nl00)
    refine ⟨m, rfl, by omega, by omega, for_range (lo := 0) (n := m.toNat) (fun i σ H' => ∃ (l : Addr) (es : List Ev) (o3 o4 o5 : Option V), σ = [some (.ref p), some (.ref l), o3, o4, o5] ∧ H l = none ∧ VL H' l es ∧ EvsOk es ∧ es ≠ [] ∧ es.length ≤ 1 + 2 * i ∧ Pool H' p q ns ∧ Keep [p] H H')
      ⟨l0, _, _, _, _, rfl, nl00, V2, O0, by simp, by simp, P2, K2⟩ ?_ ?_⟩
    · rintro i σ H3 hi ⟨l, es, o3, o4, o5, rfl, nl, V3, O3, ne3, len3, P3, K3⟩
      have lp := nep nl
      have lq := neq nl
      refine ⟨_, rfl, p, q, ns, 4, rfl, by decide, by decide, P3, fun kd H4 _ _ P4 K4 => ?_⟩
      have V4 := V3.keep K4 (P3.tk K4) (by simpa using lp)
      have K04 := K3.trans K4
      have push : ∀ {H5 : Hp} {e : Ev}, VL H5 l es → EvsOk [e] → Pool H5 p q ns → Keep [p] H H5 → ∀ t, H5 t = none → ∀ {p3 p4 p5 : Option V}, ∃ l1 ys y, V.ref l = .ref l1 ∧ [V.ref t] = [y] ∧ upd H5 t (.tup (evD e)) l1 = some (.lst ys) ∧ ys.length < sizeLine ∧
          ∃ (l : Addr) (es : List Ev) (o3 o4 o5 : Option V), ([some (.ref p), some (.ref l1), p3, p4, p5] : List (Option V)) = [some (.ref p), some (.ref l), o3, o4, o5] ∧ H l = none ∧ VL (upd (upd H5 t (.tup (evD e))) l1 (.lst (ys ++ [y]))) l es ∧ EvsOk es ∧ es ≠ [] ∧ es.length ≤ 1 + 2 * (i + 1) ∧ Pool (upd (upd H5 t (.tup (evD e))) l1 (.lst (ys ++ [y]))) p q ns ∧ Keep [p] H (upd (upd H5 t (.tup (evD e))) l1 (.lst (ys ++ [y]))) := by
        intro H5 e V5 Oe P5 K5 t nt p3 p4 p5
        obtain ⟨vs, h1, h2, h3⟩ := V5.push e nt
        exact ⟨l, vs, _, rfl, rfl, h1, smallL (by omega), l, _, _, _, _, rfl, nl, h3, O3.app Oe, by simp, by rw [List.length_append]; simp; omega, (P5.new nt).own lp lq, (K5.then_new nt).then_own nl⟩
      have ty : ∀ {H5 : Hp}, VL H5 l es → ∃ vs, SqL K H5 l vs := fun ⟨vs, h, _⟩ => ⟨vs, SqL.of h⟩
      refine ⟨_, rfl, rfl, _, rfl, iteD (fun _ => ?_) (fun _ => ⟨_, rfl, rfl, _, rfl, iteD (fun _ => ?_) (fun _ => ?_)⟩)⟩
      · refine ⟨_, rfl, .inl ⟨rfl, ty V4⟩, _, rfl, p, q, ns, 8, rfl, by decide, by decide, P4, fun r H5 r0 r1 P5 K5 => And.intro (by show 2 ≤ sizeLine; decide) <| fun t nt => ?_⟩
        obtain ⟨l1, ys, y, z1, z2, z3, z4, z5⟩ := push (e := ⟨"round", r, none⟩) (V4.keep K5 (P4.tk K5) (by simpa using lp)) (evok2 (by decide +kernel) (by decide +kernel) r0 (by omega)) P5 (K04.trans K5) t nt
        cases z1
        exact ⟨l, ys, y, rfl, z2, z3, z4, z5⟩
      · refine ⟨_, rfl, .inl ⟨rfl, ty V4⟩, _, rfl, p, q, ns, rfl, P4, fun r H5 r0 r1 P5 K5 => And.intro (by show 2 ≤ sizeLine; decide) <| fun t nt => ?_⟩
        obtain ⟨l1, ys, y, z1, z2, z3, z4, z5⟩ := push (e := ⟨"told", r, none⟩) (V4.keep K5 (P4.tk K5) (by simpa using lp)) (evok2 (by decide +kernel) (by decide +kernel) r0 (by omega)) P5 (K04.trans K5) t nt
        cases z1
        exact ⟨l, ys, y, rfl, z2, z3, z4, z5⟩
      · refine ⟨_, rfl, p, q, ns, 8, rfl, by decide, by decide, P4, fun c H5 c0 c1 P5 K5 => ⟨_, _, rfl, rfl, ?_⟩⟩
        have V5 := V4.keep K5 (P4.tk K5) (by simpa using lp)
        refine ⟨_, rfl, _, rfl, p, q, ns, 24, rfl, by decide, by decide, P5, fun r H6 r0 r1 P6 K6 => ⟨_, rfl, And.intro (by show 3 ≤ sizeLine; decide) <| fun t1 n1 => ?_⟩⟩
        have V6 := V5.keep K6 (P5.tk K6) (by simpa using lp)
        have k7 : Keep [] H6 (upd H6 t1 (.tup [.str "move", .int r, .int (1 + c)])) := Keep.new n1
        refine ⟨_, rfl, _, rfl, p, q, ns, 1 + c, rfl, by omega, by omega, P6.new n1, fun r2 H8 s0 s1 P8 K8 => And.intro (by show 2 ≤ sizeLine; decide) <| fun t2 n2 => And.intro (by show 2 ≤ sizeLine; decide) <| fun u nu => ?_⟩
        have h1 : H8 t1 = some (.tup [.str "move", .int r, .int (1 + c)]) := K8 _ _ upd_same (by have := P6.nep n1; simpa using this)
        have V8 := (V6.keep k7 k7.tk (by simp)).keep K8 ((P6.new n1).tk K8) (by simpa using lp)
        have k9 : Keep [] H8 (upd (upd H8 t2 (.tup [.str "did", .int r2])) u (.lst [.ref t1, .ref t2])) := (Keep.new n2).then_new nu
        obtain ⟨vs, g1, g2⟩ := V8.keep k9 k9.tk (by simp)
        have gl := g2.len
        have K08 := (((K04.trans K5).trans K6).trans (k7.mono (by simp))).trans K8
        refine ⟨l, u, _, _, rfl, rfl, g1, upd_same, smallM (by simp; omega), fun z nz => ?_⟩
        have E2 : Evs (upd (upd H8 t2 (.tup [.str "did", .int r2])) u (.lst [.ref t1, .ref t2])) [.ref t1, .ref t2] ([⟨"move", r, some (1 + c)⟩] ++ [⟨"did", r2, none⟩]) := .cons (k9 _ _ h1 (by simp)) (.cons (Keep.new (W := []) nu _ _ upd_same (by simp)) .nil)
        have kk := K08.trans ((k9.then_new (o := .lst (vs ++ [.ref t1, .ref t2])) nz).mono (by simp))
        refine ⟨z, _, _, _, _, rfl, P8.free K08 (k9.free nz), ⟨_, upd_same, (g2.app E2).tk (TK.new nz)⟩, O3.app ((evok3 (by decide +kernel) r0 (by omega) (by omega) (by omega)).app (evok2 (by decide +kernel) (by decide +kernel) s0 (by omega))), by simp, by rw [List.length_append]; simp; omega, (P8.keep0 k9).new nz, kk⟩
    · rintro σ H3 ⟨l, es, o3, o4, o5, rfl, nl, V3, O3, ne3, len3, P3, K3⟩
      have lp := nep nl
      have lq := neq nl
      refine ⟨fun σ H' => ∃ (es : List Ev), σ = [some (.ref p), some (.ref l), o3, o4, o5] ∧ VL H' l es ∧ EvsOk es ∧ es ≠ [] ∧ es.length ≤ 200 ∧ Pool H' p q ns ∧ Keep [p] H H', ?_, ?_⟩
      · refine ⟨_, rfl, p, q, ns, 2, rfl, by decide, by decide, P3, fun r H4 _ _ P4 K4 => ⟨rfl, _, rfl, iteD (fun _ => ?_) (fun _ => ⟨es, rfl, V3.keep K4 (P3.tk K4) (by simpa using lp), O3, ne3, by omega, P4, K3.trans K4⟩)⟩⟩
        have V4 := V3.keep K4 (P3.tk K4) (by simpa using lp)
        obtain ⟨vs4, hv4, _⟩ := id V4
        refine ⟨_, rfl, .inl ⟨rfl, _, SqL.of hv4⟩, _, rfl, p, q, ns, 24, rfl, by decide, by decide, P4, fun r1 H5 r0 r1' P5 K5 => ?_⟩
        have V5 := V4.keep K5 (P4.tk K5) (by simpa using lp)
        refine ⟨_, rfl, p, q, ns, 8, rfl, by decide, by decide, P5, fun c H6 c0 c1 P6 K6 => ⟨_, _, rfl, rfl, And.intro (by show 3 ≤ sizeLine; decide) <| fun t nt => ?_⟩⟩
        have V6 := V5.keep K6 (P5.tk K6) (by simpa using lp)
        obtain ⟨e, he⟩ : ∃ e : Ev, e = ⟨"move", r1, some (1 + c)⟩ := ⟨_, rfl⟩
        obtain ⟨vs, h1, h2, h3⟩ := V6.push e nt
        have hev : evD e = [V.str "move", V.int r1, V.int (1 + c)] := by rw [he]; rfl
        rw [hev] at h1 h3
        refine ⟨l, vs, _, rfl, rfl, h1, smallL (by omega), es ++ [e], rfl, h3, ?_⟩
        rw [he]
        exact ⟨ O3.app (evok3 (by decide +kernel) r0 (by omega) (by omega) (by omega)), by simp, by rw [List.length_append]; simp; omega, (P6.new nt).own lp lq, ((((K3.trans K4).trans K5).trans K6).then_new nt).then_own nl⟩
      rintro σ H4 ⟨es4, rfl, ⟨vs, g1, g2⟩, O4, ne4, len4, P4, K4⟩
      exact ⟨_, rfl, _, _, rfl, .inl ⟨SqL.of g1, fun t nt => k t _ es4 _ (P4.free K4 nt) upd_same (g2.tk (TK.new nt)) O4 ne4 len4 (P4.new nt) (K4.then_new nt)⟩⟩
end

def sp_law (K : PySem.W.Frag) : Sp := fun vs H Q _ => ∃ (a : Addr) (ns : List Int), vs = [.ref a] ∧ SqL K H a (ns.map V.int) ∧ ∀ H', Q (.bl true) H'
section
variable {P : Program} {w : World} {K : PySem.W.Frag} {mg : Str → Option Value} {base : Heap} {C_Tape : Addr} {C_Thinker : Addr} {C_Brain : Addr} {C_Mind : Addr} {C_Frame : Addr} {C_Thinking : Addr} {C_Checker : Addr} {T_EVENTS : Addr} {T_SIGNS : Addr} {T_ROUND_NAMES : Addr} {T_BRAIN_NAMES : Addr} {T_EFFECTS : Addr}
theorem ok_law {f : Addr} {fd : FuncData} (F : C8.Fun K "law" "law" s_law f fd) (T : Txt K mg C_Tape C_Thinker C_Brain C_Mind C_Frame C_Thinking C_Checker T_EVENTS T_SIGNS T_ROUND_NAMES T_BRAIN_NAMES T_EFFECTS) (c_law_pool : C8.Cal P w K mg base 1 "_law_pool" (sp_law_pool K) []) (c_law_draw : C8.Cal P w K mg base 1 "_law_draw" sp_law_draw []) (c_law_brain : C8.Cal P w K mg base 34 "_law_brain" (sp_brainC K) [])
    (c_Brain : C8.Mak P w K mg base 1 "Brain" C_Brain (sp_brinit K C_Brain) []) (c_mind_of : C8.Cal P w K mg base 24 "mind_of" (sp_mindof K C_Brain C_Mind) []) (c_check_mind : C8.Cal P w K mg base 4 "check_mind" (sp_cmind K C_Mind) []) (c_law_number : C8.Cal P w K mg base 2 "_law_number" sp_law_number [])
    (c_Tape : C8.Mak P w K mg base 1 "Tape" C_Tape (sp_tape K C_Tape) []) (c_Brain_start : C8.Met P w K mg base 1 C_Brain "start" (sp_start C_Brain) []) (c_law_view : C8.Cal P w K mg base 3 "_law_view" sp_view []) (c_law_count : C8.Cal P w K mg base 2 "_law_count" sp_count [])
    (c_think : C8.Cal P w K mg base 42 "think" (sp_think K C_Brain C_Tape) []) (c_think_by_code : C8.Cal P w K mg base 4 "think_by_code" (sp_tbc K C_Mind C_Tape) []) (c_law_same : C8.Cal P w K mg base 5 "_law_same" (sp_law_same K 5) []) :
    FnOk P w K mg base C8.CX0 43 f fd ["script"] (sp_law K) := by
  refine C8.fn0 F sc_law (fun vs H Q E h => ?_) (fun cdv A outer s H vs Q E hr h => ?_)
  · obtain ⟨a, ns, rfl, _⟩ := h
    rfl
  · obtain ⟨a, ns, rfl, hS, k⟩ := h
    refine ⟨_, (pss_cons (ps_set (i := 1) sc_law.nd rfl (by first | exact Or.inl rfl | exact Or.inr rfl) (pe_c c_law_pool hr (by first | exact Nat.le_refl _ | decide | omega) rfl (pa_cons (pv 0) (pa_cons pe_int pa_nil))))
(pss_cons (ps_set (i := 2) sc_law.nd rfl (by first | exact Or.inl rfl | exact Or.inr rfl) (pe_c c_law_brain hr (by first | exact Nat.le_refl _ | decide | omega) rfl (pa_cons (pv 1) (pa_cons (pe_op op_add pe_int (pe_c c_law_draw hr (by first | exact Nat.le_refl _ | decide | omega) rfl (pa_cons (pv 1) (pa_cons pe_int pa_nil)))) (pa_cons pe_bl pa_nil)))))
(pss_cons (ps_set (i := 3) sc_law.nd rfl (by first | exact Or.inl rfl | exact Or.inr rfl) (pe_mk c_Brain hr (by first | exact Nat.le_refl _ | decide | omega) rfl (pa_cons (pe_ix ix_tup (pv 2) pe_int (fun _ _ => rfl)) (pa_cons (pe_ix ix_tup (pv 2) pe_int (fun _ _ => rfl)) (pa_cons (pe_ix ix_tup (pv 2) pe_int (fun _ _ => rfl)) (pa_cons (pe_ix ix_tup (pv 2) pe_int (fun _ _ => rfl)) pa_nil))))))
(pss_cons (ps_set (i := 4) sc_law.nd rfl (by first | exact Or.inl rfl | exact Or.inr rfl) (pe_c c_mind_of hr (by first | exact Nat.le_refl _ | decide | omega) rfl (pa_cons (pv 3) pa_nil)))
(pss_cons (ps_if (pt_not (pt_chain op_le op_le pe_int (pe_c c_check_mind hr (by first | exact Nat.le_refl _ | decide | omega) rfl (pa_cons (pv 4) pa_nil)) pe_int))
  (pss_one (ps_ret pe_bl))
  pss_nil)
(pss_cons (ps_setLc (i := 5) (own := [("k", 8)]) (g := gName 8) (tt := tYes) rfl sc_law.nd rfl rfl (sw_true rfl rfl rfl (by decide +kernel)) (pi_range1 (by rfl) T.n_range (pa_cons (pe_c c_law_draw hr (by first | exact Nat.le_refl _ | decide | omega) rfl (pa_cons (pv 1) (pa_cons pe_int pa_nil))) pa_nil)) (blkOk_by (N := ["script", "pool", "row", "brain", "mind", "results", "tapes", "cells", "k", "view", "count", "due", "actual"]) (sc := fnScope s_law) (by decide +kernel)) (fun _ _ _ _ _ => pg_name (i := 8) sc_law.nd rfl (Or.inl rfl)) (fun _ _ _ _ _ => pts_nil) (fun _ _ _ _ _ => (pe_c c_law_number hr (by first | exact Nat.le_refl _ | decide | omega) rfl (pa_cons (pv 1) pa_nil))))
(pss_cons (ps_set (i := 6) sc_law.nd rfl (by first | exact Or.inl rfl | exact Or.inr rfl) (pe_lst (pa_cons (pe_mk c_Tape hr (by first | exact Nat.le_refl _ | decide | omega) rfl (pa_cons (pe_callTy call_list_of (by rfl) T.n_list bo_list (pa_cons (pv 5) pa_nil)) pa_nil)) (pa_cons (pe_mk c_Tape hr (by first | exact Nat.le_refl _ | decide | omega) rfl (pa_cons (pe_callTy call_list_of (by rfl) T.n_list bo_list (pa_cons (pv 5) pa_nil)) pa_nil)) pa_nil))))
(pss_cons (ps_set (i := 7) sc_law.nd rfl (by first | exact Or.inl rfl | exact Or.inr rfl) (pe_lst (pa_cons (pe_mt0 c_Brain_start hr (by first | exact Nat.le_refl _ | decide | omega) (pv 3)) (pa_cons (pe_fld (pv 4) rfl) pa_nil))))
(pss_cons (ps_for PassesOwn.never rfl (pi_range1 (by rfl) T.n_range (pa_cons pe_int pa_nil)) (pg_name (i := 8) sc_law.nd rfl (by first | exact Or.inl rfl | exact Or.inr rfl))
  (pss_cons (ps_set (i := 9) sc_law.nd rfl (by first | exact Or.inl rfl | exact Or.inr rfl) (pe_c c_law_view hr (by first | exact Nat.le_refl _ | decide | omega) rfl (pa_cons (pv 1) pa_nil)))
  (pss_cons (ps_set (i := 10) sc_law.nd rfl (by first | exact Or.inl rfl | exact Or.inr rfl) (pe_c c_law_count hr (by first | exact Nat.le_refl _ | decide | omega) rfl (pa_cons (pv 1) (pa_cons (pv 9) pa_nil))))
  (pss_cons (ps_set (i := 11) sc_law.nd rfl (by first | exact Or.inl rfl | exact Or.inr rfl) (pe_c c_think hr (by first | exact Nat.le_refl _ | decide | omega) rfl (pa_cons (pv 3) (pa_cons (pe_ix ix_list (pv 7) pe_int (fun _ _ => rfl)) (pa_cons (pv 9) (pa_cons (pv 10) (pa_cons (pe_ix ix_list (pv 6) pe_int (fun _ _ => rfl)) pa_nil)))))))
  (pss_cons (ps_set (i := 12) sc_law.nd rfl (by first | exact Or.inl rfl | exact Or.inr rfl) (pe_c c_think_by_code hr (by first | exact Nat.le_refl _ | decide | omega) rfl (pa_cons (pv 4) (pa_cons (pe_ix ix_list (pv 7) pe_int (fun _ _ => rfl)) (pa_cons (pv 9) (pa_cons (pv 10) (pa_cons (pe_ix ix_list (pv 6) pe_int (fun _ _ => rfl)) pa_nil)))))))
  (pss_cons (ps_if (PW.pt (pw_or (pt_not (pt_val (pe_callB call_isi (by rfl) T.n_isinstance bo_isinstance (pa_cons (pv 12) (pa_cons (pe_bltn (v := .ty "tuple") (by rfl) T.n_tuple bo_tuple rfl) pa_nil))))) (pw_or (pt_cmpR op_ne (pe_callB call_len_seq (by rfl) T.n_len bo_len (pa_cons (pv 12) pa_nil)) pe_int (nomark _)) (pw_or1 (pt_not (pt_val (pe_c c_law_same hr (by first | exact Nat.le_refl _ | decide | omega) rfl (pa_cons (pe_slice sl_tup (pv 12) po_none (po_some pe_int)) (pa_cons (pv 11) pa_nil)))))))))
    (pss_one (ps_ret pe_bl))
    pss_nil)
  (pss_cons (ps_if (PW.pt (pw_or (pt_not (pt_val (pe_c c_law_same hr (by first | exact Nat.le_refl _ | decide | omega) rfl (pa_cons (pe_fld (pe_ix ix_list (pv 6) pe_int (fun _ _ => rfl)) rfl) (pa_cons (pe_fld (pe_ix ix_list (pv 6) pe_int (fun _ _ => rfl)) rfl) pa_nil))))) (pw_or1 (pt_not (pt_chain op_le op_le pe_int (pe_ix ix_tup (pv 12) pe_int (fun _ _ => rfl)) (pe_op op_mul (pe_op op_add (pe_ix ix_tup (pv 2) pe_int (fun _ _ => rfl)) pe_int) (pe_callB call_len_seq (by rfl) T.n_len bo_len (pa_cons (pe_fld (pv 4) rfl) pa_nil))))))))
    (pss_one (ps_ret pe_bl))
    pss_nil)
  (pss_one (ps_set (i := 7) sc_law.nd rfl (by first | exact Or.inl rfl | exact Or.inr rfl) (pe_lst (pa_cons (pe_ix ix_tup (pv 11) pe_int (fun _ _ => rfl)) (pa_cons (pe_ix ix_tup (pv 12) pe_int (fun _ _ => rfl)) pa_nil))))))))))))
(pss_one (ps_ret pe_bl))))))))))), ?_⟩
    refine ⟨_, rfl, a, (ns, 40), rfl, hS, fun p q H1 np P1 K1 => ?_⟩
    refine ⟨_, rfl, _, rfl, p, q, (ns, 40), 60, rfl, by decide, by decide, P1, fun u0 H2 u0' u1' P2 K2 => ⟨_, _, rfl, rfl, ?_⟩⟩
    refine ⟨p, q, (ns, 40), 1 + u0, true, rfl, P2, by show (40 : Int) ≤ 1000; decide, fun br ce bk an nms ks b e H3 m nbr hbr hBd hBo hcl hks P3 K3 => ?_⟩
    obtain ⟨u, hu⟩ : ∃ u : Int, u = 1 + u0 := ⟨_, rfl⟩
    rw [← hu] at hbr
    have ub0 : 1 ≤ u := by omega
    have ub1 : u ≤ 60 := by omega
    clear hu
    change Pool H3 p q (ns, m) at P3
    refine ⟨_, rfl, _, _, _, _, rfl, rfl, SqT.of hbr, rfl, _, rfl, _, _, _, _, rfl, rfl, SqT.of hbr, rfl, _, rfl, _, _, _, _, rfl, rfl, SqT.of hbr, rfl, _, rfl, _, _, _, _, rfl, rfl, SqT.of hbr, rfl, fun B dB nB ndB neB => ?_⟩
    have km : Keep [] H3 (upd (upd H3 dB (.own B)) B (.ins C_Brain dB [])) := Keep.made nB ndB
    have hBdm := hBd.tk km.tk
    obtain ⟨xs, hce, hR⟩ := hBdm.ce
    obtain ⟨ys, hbk, hT⟩ := hBdm.bk
    refine ⟨B, dB, u, ce, bk, an, xs, ys, rfl, upd_same, hce, hbk, fun H4 K4 oB4 => ⟨rfl, ?_⟩⟩
    have k34 : Keep [] H3 H4 := keep_made nB ndB K4
    have hRl := hR.len
    have hnl := hBo.nl
    have lenM : (cM b e).length ≤ 20000 := by
      have := ec_len hBo.e.2
      unfold cM
      simp only [List.length_append, List.length_cons, List.length_nil]
      omega
    -- mind_of, check_mind
    refine ⟨_, rfl, B, ce, bk, u, an, nms, ks, b, e, rfl, oB4, hBd.tk k34.tk, hBo.bo, hBo.d, hBo.e, by omega, by omega, fun M ca cd H5 nM hM K5 => ?_⟩
    obtain ⟨st, hst, st0, st1⟩ := mind_ok hBo.bo hBo.e
    have hst' : upto (cod nms (cM b e)) ks.length 0 true (cM b e).length = some st := by rw [hRl.2]; exact hst
    refine ⟨_, rfl, M, ca, cd, u, ks, nms, cM b e, st, rfl, hM, by omega, by unfold cM; simp, hst', fun H6 K6 => ⟨_, _, rfl, rfl, _, rfl, iteD (fun _ => ⟨_, _, rfl, rfl, _, rfl, iteN (fun h => absurd st1 h) (fun _ => ?_)⟩) (fun h => absurd st0 h)⟩⟩
    have k36 : Keep [] H3 H6 := (k34.trans K5).trans K6
    have P6 := P3.keep0 k36
    -- the results
    refine ⟨_, rfl, p, q, (ns, m), 10, rfl, by decide, by decide, P6, fun mm H7 mm0 mm1 P7 K7 => ⟨mm, rfl, by omega, by omega, fun L nL => ?_⟩⟩
    have nLp := P7.nep nL
    have nLq := P7.neq nL
    refine lc_range (n := mm.toNat) (fun i H' => ∃ rs : List Int, H' L = some (.lst (rs.map V.int)) ∧ rs.length = i ∧ Pool H' p q (ns, m) ∧ Keep [p] H7 H')
      ⟨[], upd_same, rfl, P7.new nL, Keep.new nL⟩ ?_ ?_
    · rintro i H' hi ⟨rs, hD, hlen, P8, K8⟩
      refine ⟨rfl, yes_then ⟨_, rfl, p, q, (ns, m), rfl, P8, fun z H9 z0 z1 P9 K9 => ?_⟩⟩
      have g := K9 _ _ hD (by simpa using nLp)
      exact ⟨_, g, by rw [List.length_map]; exact smallL (by omega), rs ++ [z], by rw [List.map_append]; exact upd_same, by simp [hlen], P9.own nLp nLq, (K8.trans K9).then_own nL⟩
    rintro H8 ⟨rs, hL8, hrl, P8, K8⟩
    have K38 : Keep [p] H3 H8 := ((k36.mono (by simp)).trans K7).trans K8
    -- the tapes
    refine ⟨_, rfl, L, _, rfl, .inl (SqL.of hL8), fun l1 nl1 tp1 dt1 ntp1 ndt1 ne1 => ⟨tp1, dt1, l1, rs, rfl, SqL.of (made_at ntp1 ndt1 upd_same), upd_same, fun rx1 tx1 H9 nrx1 ntx1 K9 TA9 => ⟨rfl, ?_⟩⟩⟩
    have kl1 : Keep [] H8 (upd H8 l1 (.lst (rs.map V.int))) := Keep.new nl1
    have k89 : Keep [] H8 H9 := kl1.trans (keep_made ntp1 ndt1 K9)
    have nrx1' : H8 rx1 = none := kl1.free ((Keep.made (o := .ins C_Tape dt1 []) ntp1 ndt1).free nrx1)
    have ntx1' : H8 tx1 = none := kl1.free ((Keep.made (o := .ins C_Tape dt1 []) ntp1 ndt1).free ntx1)
    have hL9 := k89 _ _ hL8 (by simp)
    refine ⟨_, rfl, L, _, rfl, .inl (SqL.of hL9), fun l2 nl2 tp2 dt2 ntp2 ndt2 ne2 => ⟨tp2, dt2, l2, rs, rfl, SqL.of (made_at ntp2 ndt2 upd_same), upd_same, fun rx2 tx2 H10 nrx2 ntx2 K10 TA10 => ⟨rfl, ?_⟩⟩⟩
    have kl2 : Keep [] H9 (upd H9 l2 (.lst (rs.map V.int))) := Keep.new nl2
    have k910 : Keep [] H9 H10 := kl2.trans (keep_made ntp2 ndt2 K10)
    have nrx2' : H9 rx2 = none := kl2.free ((Keep.made (o := .ins C_Tape dt2 []) ntp2 ndt2).free nrx2)
    have ntx2' : H9 tx2 = none := kl2.free ((Keep.made (o := .ins C_Tape dt2 []) ntp2 ndt2).free ntx2)
    have TA910 := TA9.keep k910 k910.tk (by simp) (by simp) (by simp)
    refine ⟨by show 2 ≤ sizeLine; decide, fun tl ntl => ?_⟩
    have k1011 : Keep [] H10 (upd H10 tl (.lst [.ref tp1, .ref tp2])) := Keep.new ntl
    have htl : upd H10 tl (.lst [.ref tp1, .ref tp2]) tl = some (.lst [.ref tp1, .ref tp2]) := upd_same
    generalize upd H10 tl (.lst [.ref tp1, .ref tp2]) = H11 at *
    have TA1 := TA910.keep k1011 k1011.tk (by simp) (by simp) (by simp)
    have TA2 := TA10.keep k1011 k1011.tk (by simp) (by simp) (by simp)
    have k811 : Keep [] H8 H11 := (k89.trans k910).trans k1011
    have P11 := P8.keep0 k811
    obtain ⟨o1, eo1⟩ : ∃ o, H9 tx1 = some o := by obtain ⟨y, h, _⟩ := TA9.t; exact ⟨_, h⟩
    obtain ⟨o2, eo2⟩ : ∃ o, H9 rx1 = some o := ⟨_, TA9.r⟩
    have ne_tt : tx1 ≠ tx2 := ne_of_none eo1 ntx2'
    have ne_tr : tx1 ≠ rx2 := ne_of_none eo1 nrx2'
    have ne_rt : rx1 ≠ tx2 := ne_of_none eo2 ntx2'
    have n1p := P8.nep ntx1'
    have n1q := P8.neq ntx1'
    have n1r := P8.nep nrx1'
    have n2r := (P8.keep0 k89).nep nrx2'
    have n2p := (P8.keep0 k89).nep ntx2'
    have n2q := (P8.keep0 k89).neq ntx2'
    -- the cells
    obtain ⟨dB', oB⟩ := oB4
    obtain ⟨⟨dM, oM⟩, hMca, wsM, hMcd, hMl⟩ := hM
    have nBp : B ≠ p := P3.nep nB
    have nMp : M ≠ p := (P3.keep0 k34).nep nM
    have K78 := K7.trans K8
    have oB8 := K78 _ _ (K6 _ _ (K5 _ _ oB (by simp)) (by simp)) (by simpa using nBp)
    have oM8 := K78 _ _ (K6 _ _ oM (by simp)) (by simpa using nMp)
    have tk68 := P6.tk K78
    have tk38 : TK H3 H8 := k36.tk.trans tk68
    have nB1 : B ≠ tx1 := ne_of_none oB8 ntx1'
    have nM1 : M ≠ tx1 := ne_of_none oM8 ntx1'
    have nB2 : B ≠ tx2 := ne_of_none (k89 _ _ oB8 (by simp)) ntx2'
    have nM2 : M ≠ tx2 := ne_of_none (k89 _ _ oM8 (by simp)) ntx2'
    have oB11 := k811 _ _ oB8 (by simp)
    have oM11 := k811 _ _ oM8 (by simp)
    have hBd11 := hBd.tk (tk38.trans k811.tk)
    have hMca11 := (tk68.trans k811.tk) _ _ (K6.tk _ _ hMca)
    have hMcd11 := (tk68.trans k811.tk) _ _ (K6.tk _ _ hMcd)
    have hMl11 := hMl.tk (K6.tk.trans (tk68.trans k811.tk))
    have hbr11 := (tk38.trans k811.tk) _ _ hbr
    obtain ⟨y1, hy1, _⟩ := TA910.t
    obtain ⟨y2, hy2, _⟩ := TA10.t
    have ntl1 : tl ≠ tx1 := (ne_of_none hy1 ntl).symm
    have ntl2 : tl ≠ tx2 := (ne_of_none hy2 ntl).symm
    have ntlp : tl ≠ p := ((P8.keep0 k89).keep0 k910).nep ntl
    obtain ⟨xs11, hce11, hR11⟩ := hBd11.ce
    refine ⟨_, rfl, B, dB', _, rfl, oB11, rfl, B, ce, bk, u, an, xs11, nms, ks, rfl, ⟨dB', oB11⟩, hce11, hR11, by omega, fun c1 H12 nc1 hc1 K12 => ?_⟩
    refine ⟨_, rfl, M, C_Mind, dM, _, _, rfl, K12 _ _ oM11 (by simp), T.cl_Mind, T.a_Mind_cells, rfl, And.intro (by show 2 ≤ sizeLine; decide) <| fun cl0 ncl0 => ?_⟩
    have k1213 : Keep [] H12 (upd H12 cl0 (.lst [.ref c1, .ref ca])) := Keep.new ncl0
    have hcl0 : upd H12 cl0 (.lst [.ref c1, .ref ca]) cl0 = some (.lst [.ref c1, .ref ca]) := upd_same
    generalize upd H12 cl0 (.lst [.ref c1, .ref ca]) = H13 at *
    have k13 : Keep [] H11 H13 := K12.trans k1213
    have TA1_13 := TA1.keep k13 k13.tk (by simp) (by simp) (by simp)
    have TA2_13 := TA2.keep k13 k13.tk (by simp) (by simp) (by simp)
    have lsts : ∀ a ∈ [p, tx1, tx2], ∃ ys, H11 a = some (.lst ys) := fun a ha => by
      simp only [List.mem_cons, List.not_mem_nil, or_false] at ha
      rcases ha with rfl | rfl | rfl
      · exact P11.lst
      · exact ⟨_, k1011 _ _ hy1 (by simp)⟩
      · exact ⟨_, k1011 _ _ hy2 (by simp)⟩
    have ncl0p : cl0 ≠ p := (P11.keep0 K12).nep ncl0
    have ncl01 : cl0 ≠ tx1 := by
      obtain ⟨y, h⟩ := lsts tx1 (by simp)
      exact (ne_of_none (K12 _ _ h (by simp)) ncl0).symm
    have ncl02 : cl0 ≠ tx2 := by
      obtain ⟨y, h⟩ := lsts tx2 (by simp)
      exact (ne_of_none (K12 _ _ h (by simp)) ncl0).symm
    refine ⟨2, rfl, by decide, by decide, for_range (lo := 0) (n := 2) (fun i σ H' => ∃ (cl c1 c2 : Addr) (cs : List Int) (tk : List (Int × Int)) (o8 o9 o10 o11 o12 : Option V), σ = [some (.ref a), some (.ref p), some (.ref br), some (.ref B), some (.ref M), some (.ref L), some (.ref tl), some (.ref cl), o8, o9, o10, o11, o12] ∧
        H' cl = some (.lst [.ref c1, .ref c2]) ∧ cl ∉ [p, tx1, tx2] ∧ H' c1 = some (.tup (cs.map V.int)) ∧ H' c2 = some (.tup (cs.map V.int)) ∧ CsOk cs ∧ cs.length = nms.length ∧ tk.length ≤ 100 * i ∧ TapeAt C_Tape H' tp1 rx1 tx1 rs tk ∧ TapeAt C_Tape H' tp2 rx2 tx2 rs tk ∧ Pool H' p q (ns, m) ∧ Keep [p, tx1, tx2] H11 H')
      ⟨cl0, c1, ca, ks, [], _, _, _, _, _, rfl, hcl0, by simp [ncl0p, ncl01, ncl02], k1213 _ _ hc1 (by simp), k13 _ _ hMca11 (by simp), hks, hRl.2, Nat.zero_le _, TA1_13, TA2_13, P11.keep0 k13, k13.mono (by simp)⟩ ?_ ?_⟩
    · rintro i σ H14 hi ⟨cl, c1, c2, cs, tk, o8, o9, o10, o11, o12, rfl, hcl, ncl, hc1, hc2, co, csl, tkl, TA1', TA2', P14, K14⟩
      have tk14 := K14.tkL lsts
      have npW : p ∈ [p, tx1, tx2] := by simp
      refine ⟨_, rfl, p, q, (ns, m), rfl, P14, fun vw vxs es H15 nvw hvw hE hEo hEn hEl P15 K15 => ?_⟩
      have nvwp := P14.nep nvw
      refine ⟨_, rfl, _, rfl, p, q, (ns, m), vw, vxs, es, rfl, P15, hvw, nvwp, hE, hEo, hEn, fun count H16 P16 K16 => ?_⟩
      have K46 := K15.trans K16
      have tk46 := P14.tk K46
      have K1116 := K14.trans (K46.mono (by simp))
      have tk16 := tk14.trans tk46
      have nepl : cl ≠ p := fun z => ncl (by rw [z]; simp)
      have hcl16 := K46 _ _ hcl (by simpa using nepl)
      have htl16 := K1116 _ _ htl (by simp [ntlp, ntl1, ntl2])
      have hnp : (nums es).length ≤ 60000 := by rw [nums_len]; omega
      have I16 : ThIn K H16 ce bk c1 vw an nms ks cs b e vxs es u := ⟨hBd11.tk tk16, hBo, by omega, by omega, co, csl, tk46 _ _ hc1, K16 _ _ hvw (by simpa using nvwp), hE.tk (P15.tk K16), hEo, by omega⟩
      have TA1_16 := TA1'.keep K46 tk46 (by
        obtain ⟨dx, h⟩ := TA1'.o
        obtain ⟨y, hy⟩ := P14.lst
        simpa using ne_of h hy (by intro z; cases z)) (by simpa using n1r) (by simpa using n1p)
      have TA2_16 := TA2'.keep K46 tk46 (by
        obtain ⟨dx, h⟩ := TA2'.o
        obtain ⟨y, hy⟩ := P14.lst
        simpa using ne_of h hy (by intro z; cases z)) (by simpa using n2r) (by simpa using n2p)
      have oB16 := K1116 _ _ oB11 (by simp [nBp, nB1, nB2])
      have hlt : i < 2 := hi
      have tkb : tk.length ≤ 1000 := by omega
      obtain ⟨R1, R2, R3⟩ := thk_ok (e := e) (count := count) (rs := rs) (tk := tk) csl co (nums_ok hEo) hBo.bo (show 0 ≤ u by omega)
      obtain ⟨N, mF, hP, hd, hne, q1, q2, q3⟩ := brain_path (rs := rs) (count := count) (u := u) (tk := tk) hBo.nd (nums_ok hEo) hnp hBo.bo hBo.e csl co (show 0 ≤ u by omega) (by omega)
      refine ⟨_, rfl, _, rfl, _, _, _, _, rfl, rfl, SqL.of hcl16, rfl, _, rfl, _, rfl, _, rfl, _, _, _, _, rfl, rfl, SqL.of htl16, rfl, B, ce, bk, c1, vw, tp1, rx1, tx1, an, nms, ks, cs, b, e, vxs, es, u, count, rs, tk, rfl, ⟨dB', oB16⟩, I16, TA1_16, tkb, fun due ct H17 ndue hdue hct TA1_17 K17 => ?_⟩
      generalize hr : thk nms cs b e count (nums es) rs u tk = r at *
      obtain ⟨ty1, hty1, _⟩ := TA1_16.t
      have tk1617 : TK H16 H17 := K17.tk1 hty1
      have K1117 := K1116.trans (K17.mono (W' := [p, tx1, tx2]) (by simp))
      have tk17 := tk16.trans tk1617
      have hvw17 := tk1617 _ _ (K16 _ _ hvw (by simpa using nvwp))
      have oM17 := K1117 _ _ oM11 (by simp [nMp, nM1, nM2])
      have hcl17 := K17 _ _ hcl16 (by intro z; apply ncl; simp only [List.mem_singleton] at z; simp [z])
      have htl17 := K17 _ _ htl16 (by simpa using ntl1)
      have TA2_17 := TA2_16.keep K17 tk1617 (by
        obtain ⟨dx, h⟩ := TA2_16.o
        simpa using ne_of h hty1 (by intro z; cases z)) (by simpa using ne_tr.symm) (by simpa using ne_tt.symm)
      have P17 := P16.keepX K17 (by simpa using n1p.symm) (by simpa using n1q.symm)
      have hc2_17 := tk1617 _ _ (tk46 _ _ hc2)
      have hdue0 := hdue
      refine ⟨_, rfl, _, rfl, _, _, _, _, rfl, rfl, SqL.of hcl17, rfl, _, rfl, _, rfl, _, rfl, _, _, _, _, rfl, rfl, SqL.of htl17, rfl, M, c2, vw, tp2, rx2, tx2, cd, u, nms, cM b e, cs, es, rs, tk, count, N, mF, rfl, ⟨⟨ca, ks, ⟨dM, oM17⟩, tk17 _ _ hMca11, wsM, tk17 _ _ hMcd11, hMl11.tk tk17⟩, hc2_17, ⟨vxs, hvw17, (hE.tk (P15.tk K16)).tk tk1617⟩, hEo, by omega, TA2_17⟩, hP, hd, hne, fun act ct2 H18 nact hact hct2 TA2_18 K18 => ?_⟩
      rw [q1] at hact
      rw [q2] at hct2
      rw [q3] at TA2_18
      obtain ⟨ty2, hty2, _⟩ := TA2_17.t
      have tk1718 : TK H17 H18 := K18.tk1 hty2
      have K1118 := K1117.trans (K18.mono (W' := [p, tx1, tx2]) (by simp))
      have hdue18 := tk1718 _ _ hdue
      have hct18 := tk1718 _ _ hct
      have hcl18 := K18 _ _ hcl17 (by intro z; apply ncl; simp only [List.mem_singleton] at z; simp [z])
      have htl18 := K18 _ _ htl17 (by simpa using ntl2)
      have TA1_18 := TA1_17.keep K18 tk1718 (by
        obtain ⟨dx, h⟩ := TA1_17.o
        simpa using ne_of h hty2 (by intro z; cases z)) (by simpa using ne_rt) (by simpa using ne_tt)
      have P18 := P17.keepX K18 (by simpa using n2p.symm) (by simpa using n2q.symm)
      have hbr18 := tk1718 _ _ (tk17 _ _ hbr11)
      have oM18 := K18 _ _ oM17 (by simpa using nM2)
      refine ⟨_, rfl, _, _, _, _, _, rfl, .ty _, .base (.tup hact), kTT, _, rfl, iteF ⟨_, rfl, _, _, rfl, .inr (SqT.of hact), rfl, _, rfl, iteNF (by simp) ?_⟩⟩
      refine ⟨_, rfl, _, rfl, _, _, rfl, SqT.of hact, by show ¬ ((0 : Nat) = 0 ∧ (2 : Nat) = 3); decide, fun t3 nt3 => ?_⟩
      have k19 : Keep [] H18 (upd H18 t3 (.tup (cutV [V.int r.fst, V.ref ct2, V.int (N : Nat)] none (some 2)))) := Keep.new nt3
      have ht3 : upd H18 t3 (.tup (cutV [V.int r.fst, V.ref ct2, V.int (N : Nat)] none (some 2))) t3 = some (.tup [.int r.1, .ref ct2]) := upd_same
      refine ⟨_, rfl, _, _, rfl, sameT (n := 4) (.inl ht3) (.inl (k19 _ _ hdue18 (by simp))) (.cons (sameV_atom (.inr (.inl ⟨_, rfl⟩))) (.cons (same_intsT (n := 2) (k19 _ _ hct2 (by simp)) (k19 _ _ hct18 (by simp)) (by omega)) .nil)) (by show 2 ≤ 1000000; decide), _, rfl, iteF ?_⟩
      generalize upd H18 t3 (.tup (cutV [V.int r.fst, V.ref ct2, V.int (N : Nat)] none (some 2))) = H19 at *
      have TA1_19 := TA1_18.keep k19 k19.tk (by simp) (by simp) (by simp)
      have TA2_19 := TA2_18.keep k19 k19.tk (by simp) (by simp) (by simp)
      obtain ⟨d1, oT1⟩ := TA1_19.o
      obtain ⟨d2, oT2⟩ := TA2_19.o
      obtain ⟨z1, hz1, pl1⟩ := TA1_19.t
      obtain ⟨z2, hz2, pl2⟩ := TA2_19.t
      have htl19 := k19 _ _ htl18 (by simp)
      have hact19 := k19 _ _ hact (by simp)
      have hbr19 := k19 _ _ hbr18 (by simp)
      have oM19 := k19 _ _ oM18 (by simp)
      have hMcd19 := k19 _ _ (tk1718 _ _ (tk17 _ _ hMcd11)) (by simp)
      have hws : wsM.length = (cM b e).length := hMl.len
      obtain ⟨N1, N2⟩ := brain_len hBo.bo hBo.e (show 0 ≤ u by omega) hP hd
      refine ⟨_, rfl, _, _, _, _, rfl, rfl, SqL.of htl19, rfl, tp2, C_Tape, d2, _, _, rfl, oT2, T.cl_Tape, T.a_Tape_taken, rfl, _, rfl, _, _, _, _, rfl, rfl, SqL.of htl19, rfl, tp1, C_Tape, d1, _, _, rfl, oT1, T.cl_Tape, T.a_Tape_taken, rfl, _, _, rfl, sameL (n := 4) hz2 hz1 (same_pl (n := 2) pl2 pl1) (by rw [pl2.len]; omega), _, rfl, iteF ?_⟩
      refine ⟨_, rfl, _, _, _, _, rfl, rfl, SqT.of hact19, rfl, _, _, rfl, rfl, _, rfl, iteD (fun _ => ?_) (fun h => absurd (by omega) h)⟩
      refine ⟨_, rfl, _, _, _, _, rfl, rfl, SqT.of hbr19, rfl, _, _, rfl, rfl, _, rfl, M, C_Mind, dM, _, _, rfl, oM19, T.cl_Mind, T.a_Mind_code, rfl, _, _, rfl, .inr (SqT.of hMcd19), _, _, rfl, rfl, .inl ⟨by omega, by omega⟩, _, _, rfl, rfl, _, rfl, iteN (fun h => absurd (by rw [hws]; exact N2) h) (fun _ => ?_)⟩
      have hdue19 := k19 _ _ hdue18 (by simp)
      refine ⟨_, rfl, _, _, _, _, rfl, rfl, SqT.of hdue19, rfl, _, rfl, _, _, _, _, rfl, rfl, SqT.of hact19, rfl, And.intro (by show 2 ≤ sizeLine; decide) <| fun cl' ncl' => ?_⟩
      have k20 : Keep [] H19 (upd H19 cl' (.lst [.ref ct, .ref ct2])) := Keep.new ncl'
      have P19 := P18.keep0 k19
      have K1119 := K1118.trans (k19.mono (W' := [p, tx1, tx2]) (by simp))
      refine ⟨cl', ct, ct2, r.2.1, r.2.2, _, _, _, _, _, rfl, upd_same, ?_, k20 _ _ (k19 _ _ hct18 (by simp)) (by simp), k20 _ _ (k19 _ _ hct2 (by simp)) (by simp), R1, R2, by omega, TA1_19.keep k20 k20.tk (by simp) (by simp) (by simp), TA2_19.keep k20 k20.tk (by simp) (by simp) (by simp), P19.keep0 k20, K1119.trans (k20.mono (by simp))⟩
      have g1 : cl' ≠ p := P19.nep ncl'
      have g2 : cl' ≠ tx1 := (ne_of_none hz1 ncl').symm
      have g3 : cl' ≠ tx2 := (ne_of_none hz2 ncl').symm
      simp [g1, g2, g3]
    · rintro σ H14 ⟨cl, c1, c2, cs, tk, o8, o9, o10, o11, o12, rfl, _⟩
      exact k _
end

theorem allNm_or (n : Str) (h : n ∈ allNm) : n = "push" ∨ n = "load" ∨ n = "store" ∨ n = "sign" ∨ n = "jump" ∨ n = "skip" ∨ n = "lot" ∨ n = "ask" ∨ n = "show" ∨ n = "pay" ∨ n = "take" ∨ n = "view" ∨ n = "long" ∨ n = "unit" ∨ n = "back" ∨ n = "end" := by
  have : ∀ n ∈ allNm, n = "push" ∨ n = "load" ∨ n = "store" ∨ n = "sign" ∨ n = "jump" ∨ n = "skip" ∨ n = "lot" ∨ n = "ask" ∨ n = "show" ∨ n = "pay" ∨ n = "take" ∨ n = "view" ∨ n = "long" ∨ n = "unit" ∨ n = "back" ∨ n = "end" := by decide +kernel
  exact this n h
theorem effOk {K : PySem.W.Frag} {w : World} {TE : Addr} {es : Array DictEntry} {m : Nat} (hl : K.lookup TE = some ⟨.type "dict", none, .dict es m, #[]⟩) (hk : PySem.W.KeysLit w.params es.toList)
    (h : ∀ n ∈ allNm, ∃ tp, PySem.W.nsIn K TE n = some (some (.ref tp)) ∧ ∃ (t u : Tok) (k : Nat) (sl : Array (Option Value)), K.lookup tp = some ⟨.type "tuple", none, .seq #[.int (eff n).1 t, .int (eff n).2 u] k, sl⟩) : EffOk K w TE := fun n hn => by
  obtain ⟨tp, g, t, u, k, sl, l⟩ := h n hn
  exact ⟨tp, ⟨_, _, _, hl, hk, g, rfl⟩, fun H => .inr ⟨_, _, _, l, rfl, rfl, by show 2 ≤ sizeLine; decide, .cons ⟨_, rfl⟩ (.cons ⟨_, rfl⟩ .nil)⟩⟩

section
variable {P : Program} {w : World} {K : PySem.W.Frag} {mg : Str → Option Value} {base : Heap} {C_Tape : Addr} {C_Thinker : Addr} {C_Brain : Addr} {C_Mind : Addr} {C_Frame : Addr} {C_Thinking : Addr} {C_Checker : Addr} {T_EVENTS : Addr} {T_SIGNS : Addr} {T_ROUND_NAMES : Addr} {T_BRAIN_NAMES : Addr} {T_EFFECTS : Addr}
theorem expr_all {f : Addr} {fd : FuncData} (D : C8.Def K mg "_law_expression" s_law_expression f fd) (b : Binds K fd ["pool", "names", "deep"] []) (T : Txt K mg C_Tape C_Thinker C_Brain C_Mind C_Frame C_Thinking C_Checker T_EVENTS T_SIGNS T_ROUND_NAMES T_BRAIN_NAMES T_EFFECTS) (c1 : C8.Cal P w K mg base 1 "_law_draw" sp_law_draw []) (c2 : C8.Cal P w K mg base 1 "_law_spend" sp_law_spend []) (c3 : C8.Cal P w K mg base 2 "_law_number" sp_law_number []) : ∀ n, C8.Cal P w K mg base (n + 3) "_law_expression" (sp_expr K n) []
  | 0 => ok_law_expr0 D b
  | n + 1 => ok_law_expr D b T (expr_all D b T c1 c2 c3 n) (calUp c1 (by omega)) (calUp c2 (by omega)) (calUp c3 (by omega))
end

theorem all_mk {l : PySem.W.OpenLaw} {w : World} {K : PySem.W.Frag} {h : Heap} {mg : Str → Option Value} {fa : Addr} (X : K.In h) (G : h.Ns mainGlobals mg) (hfa : mg "law" = some (.ref fa))
    {f_view_numbers : Addr} {od_view_numbers an_view_numbers : Option Addr} {sl_view_numbers : Array (Option Value)} {oc_view_numbers kV_view_numbers dc_view_numbers pm_view_numbers cd_view_numbers ct_view_numbers : Value}
    {f_think : Addr} {od_think an_think : Option Addr} {sl_think : Array (Option Value)} {oc_think kV_think dc_think pm_think cd_think ct_think : Value}
    {f_combine : Addr} {od_combine an_combine : Option Addr} {sl_combine : Array (Option Value)} {oc_combine kV_combine dc_combine pm_combine cd_combine ct_combine : Value}
    {f_value_of : Addr} {od_value_of an_value_of : Option Addr} {sl_value_of : Array (Option Value)} {oc_value_of kV_value_of dc_value_of pm_value_of cd_value_of ct_value_of : Value}
    {T_value_of : Addr} {oT_value_of : Value} {dT_value_of : Option Addr} {nT_value_of : Nat} {slT_value_of : Array (Option Value)} {E_value_of : Addr}
    {f_expression_code : Addr} {od_expression_code an_expression_code : Option Addr} {sl_expression_code : Array (Option Value)} {oc_expression_code kV_expression_code dc_expression_code pm_expression_code cd_expression_code ct_expression_code : Value}
    {f_branch_code : Addr} {od_branch_code an_branch_code : Option Addr} {sl_branch_code : Array (Option Value)} {oc_branch_code kV_branch_code dc_branch_code pm_branch_code cd_branch_code ct_branch_code : Value}
    {f_thoughts_code : Addr} {od_thoughts_code an_thoughts_code : Option Addr} {sl_thoughts_code : Array (Option Value)} {oc_thoughts_code kV_thoughts_code dc_thoughts_code pm_thoughts_code cd_thoughts_code ct_thoughts_code : Value}
    {f_brain_code : Addr} {od_brain_code an_brain_code : Option Addr} {sl_brain_code : Array (Option Value)} {oc_brain_code kV_brain_code dc_brain_code pm_brain_code cd_brain_code ct_brain_code : Value}
    {f_names_of : Addr} {od_names_of an_names_of : Option Addr} {sl_names_of : Array (Option Value)} {oc_names_of kV_names_of dc_names_of pm_names_of cd_names_of ct_names_of : Value}
    {f_mind_of : Addr} {od_mind_of an_mind_of : Option Addr} {sl_mind_of : Array (Option Value)} {oc_mind_of kV_mind_of dc_mind_of pm_mind_of cd_mind_of ct_mind_of : Value}
    {f_think_by_code : Addr} {od_think_by_code an_think_by_code : Option Addr} {sl_think_by_code : Array (Option Value)} {oc_think_by_code kV_think_by_code dc_think_by_code pm_think_by_code cd_think_by_code ct_think_by_code : Value}
    {f_argument_fits : Addr} {od_argument_fits an_argument_fits : Option Addr} {sl_argument_fits : Array (Option Value)} {oc_argument_fits kV_argument_fits dc_argument_fits pm_argument_fits cd_argument_fits ct_argument_fits : Value}
    {f_targets_of : Addr} {od_targets_of an_targets_of : Option Addr} {sl_targets_of : Array (Option Value)} {oc_targets_of kV_targets_of dc_targets_of pm_targets_of cd_targets_of ct_targets_of : Value}
    {f_check_code : Addr} {od_check_code an_check_code : Option Addr} {sl_check_code : Array (Option Value)} {oc_check_code dc_check_code pm_check_code cd_check_code ct_check_code : Value} {KD_check_code : Addr}
    {f_check_mind : Addr} {od_check_mind an_check_mind : Option Addr} {sl_check_mind : Array (Option Value)} {oc_check_mind kV_check_mind dc_check_mind pm_check_mind cd_check_mind ct_check_mind : Value}
    {f_law_pool : Addr} {od_law_pool an_law_pool : Option Addr} {sl_law_pool : Array (Option Value)} {oc_law_pool kV_law_pool dc_law_pool pm_law_pool cd_law_pool ct_law_pool : Value}
    {f_law_draw : Addr} {od_law_draw an_law_draw : Option Addr} {sl_law_draw : Array (Option Value)} {oc_law_draw kV_law_draw dc_law_draw pm_law_draw cd_law_draw ct_law_draw : Value}
    {f_law_spend : Addr} {od_law_spend an_law_spend : Option Addr} {sl_law_spend : Array (Option Value)} {oc_law_spend kV_law_spend dc_law_spend pm_law_spend cd_law_spend ct_law_spend : Value}
    {f_law_few : Addr} {od_law_few an_law_few : Option Addr} {sl_law_few : Array (Option Value)} {oc_law_few kV_law_few dc_law_few pm_law_few cd_law_few ct_law_few : Value}
    {f_law_number : Addr} {od_law_number an_law_number : Option Addr} {sl_law_number : Array (Option Value)} {oc_law_number kV_law_number dc_law_number pm_law_number cd_law_number ct_law_number : Value}
    {f_law_same : Addr} {od_law_same an_law_same : Option Addr} {sl_law_same : Array (Option Value)} {oc_law_same kV_law_same dc_law_same pm_law_same cd_law_same ct_law_same : Value}
    {f_law_keys : Addr} {od_law_keys an_law_keys : Option Addr} {sl_law_keys : Array (Option Value)} {oc_law_keys kV_law_keys dc_law_keys pm_law_keys cd_law_keys ct_law_keys : Value}
    {f_law_name : Addr} {od_law_name an_law_name : Option Addr} {sl_law_name : Array (Option Value)} {oc_law_name kV_law_name dc_law_name pm_law_name cd_law_name ct_law_name : Value}
    {f_law_names : Addr} {od_law_names an_law_names : Option Addr} {sl_law_names : Array (Option Value)} {oc_law_names kV_law_names dc_law_names pm_law_names cd_law_names ct_law_names : Value}
    {f_law_expression : Addr} {od_law_expression an_law_expression : Option Addr} {sl_law_expression : Array (Option Value)} {oc_law_expression kV_law_expression dc_law_expression pm_law_expression cd_law_expression ct_law_expression : Value}
    {f_law_thoughts : Addr} {od_law_thoughts an_law_thoughts : Option Addr} {sl_law_thoughts : Array (Option Value)} {oc_law_thoughts kV_law_thoughts dc_law_thoughts pm_law_thoughts cd_law_thoughts ct_law_thoughts : Value}
    {f_law_thought : Addr} {od_law_thought an_law_thought : Option Addr} {sl_law_thought : Array (Option Value)} {oc_law_thought kV_law_thought dc_law_thought pm_law_thought cd_law_thought ct_law_thought : Value}
    {f_law_brain : Addr} {od_law_brain an_law_brain : Option Addr} {sl_law_brain : Array (Option Value)} {oc_law_brain kV_law_brain dc_law_brain pm_law_brain cd_law_brain ct_law_brain : Value}
    {f_law_view : Addr} {od_law_view an_law_view : Option Addr} {sl_law_view : Array (Option Value)} {oc_law_view kV_law_view dc_law_view pm_law_view cd_law_view ct_law_view : Value}
    {f_law_count : Addr} {od_law_count an_law_count : Option Addr} {sl_law_count : Array (Option Value)} {oc_law_count kV_law_count dc_law_count pm_law_count cd_law_count ct_law_count : Value}
    {f_law : Addr} {od_law an_law : Option Addr} {sl_law : Array (Option Value)} {oc_law kV_law dc_law pm_law cd_law ct_law : Value}
    {C_Tape : Addr}
    {C_Thinker : Addr}
    {C_Brain : Addr}
    {C_Mind : Addr}
    {C_Frame : Addr}
    {C_Thinking : Addr}
    {C_Checker : Addr}
    {f_Tape___init : Addr} {od_Tape___init an_Tape___init : Option Addr} {sl_Tape___init : Array (Option Value)} {oc_Tape___init kV_Tape___init dc_Tape___init pm_Tape___init cd_Tape___init ct_Tape___init : Value}
    {f_Tape_take : Addr} {od_Tape_take an_Tape_take : Option Addr} {sl_Tape_take : Array (Option Value)} {oc_Tape_take kV_Tape_take dc_Tape_take pm_Tape_take cd_Tape_take ct_Tape_take : Value}
    {f_Brain___init : Addr} {od_Brain___init an_Brain___init : Option Addr} {sl_Brain___init : Array (Option Value)} {oc_Brain___init kV_Brain___init dc_Brain___init pm_Brain___init cd_Brain___init ct_Brain___init : Value}
    {f_Brain_start : Addr} {od_Brain_start an_Brain_start : Option Addr} {sl_Brain_start : Array (Option Value)} {oc_Brain_start kV_Brain_start dc_Brain_start pm_Brain_start cd_Brain_start ct_Brain_start : Value}
    {f_Mind___init : Addr} {od_Mind___init an_Mind___init : Option Addr} {sl_Mind___init : Array (Option Value)} {oc_Mind___init kV_Mind___init dc_Mind___init pm_Mind___init cd_Mind___init ct_Mind___init : Value}
    {f_Thinker___init : Addr} {od_Thinker___init an_Thinker___init : Option Addr} {sl_Thinker___init : Array (Option Value)} {oc_Thinker___init kV_Thinker___init dc_Thinker___init pm_Thinker___init cd_Thinker___init ct_Thinker___init : Value}
    {f_Thinker_value : Addr} {od_Thinker_value an_Thinker_value : Option Addr} {sl_Thinker_value : Array (Option Value)} {oc_Thinker_value kV_Thinker_value dc_Thinker_value pm_Thinker_value cd_Thinker_value ct_Thinker_value : Value}
    {f_Thinker_unit : Addr} {od_Thinker_unit an_Thinker_unit : Option Addr} {sl_Thinker_unit : Array (Option Value)} {oc_Thinker_unit kV_Thinker_unit dc_Thinker_unit pm_Thinker_unit cd_Thinker_unit ct_Thinker_unit : Value}
    {f_Thinker_run : Addr} {od_Thinker_run an_Thinker_run : Option Addr} {sl_Thinker_run : Array (Option Value)} {oc_Thinker_run kV_Thinker_run dc_Thinker_run pm_Thinker_run cd_Thinker_run ct_Thinker_run : Value}
    {f_Thinker_step : Addr} {od_Thinker_step an_Thinker_step : Option Addr} {sl_Thinker_step : Array (Option Value)} {oc_Thinker_step kV_Thinker_step dc_Thinker_step pm_Thinker_step cd_Thinker_step ct_Thinker_step : Value}
    {f_Thinker_loop : Addr} {od_Thinker_loop an_Thinker_loop : Option Addr} {sl_Thinker_loop : Array (Option Value)} {oc_Thinker_loop kV_Thinker_loop dc_Thinker_loop pm_Thinker_loop cd_Thinker_loop ct_Thinker_loop : Value}
    {f_Frame___init : Addr} {od_Frame___init an_Frame___init : Option Addr} {sl_Frame___init : Array (Option Value)} {oc_Frame___init kV_Frame___init dc_Frame___init pm_Frame___init cd_Frame___init ct_Frame___init : Value}
    {f_Frame_advance : Addr} {od_Frame_advance an_Frame_advance : Option Addr} {sl_Frame_advance : Array (Option Value)} {oc_Frame_advance kV_Frame_advance dc_Frame_advance pm_Frame_advance cd_Frame_advance ct_Frame_advance : Value}
    {f_Thinking_special : Addr} {od_Thinking_special an_Thinking_special : Option Addr} {sl_Thinking_special : Array (Option Value)} {oc_Thinking_special kV_Thinking_special dc_Thinking_special pm_Thinking_special cd_Thinking_special ct_Thinking_special : Value}
    {f_Checker___init : Addr} {od_Checker___init an_Checker___init : Option Addr} {sl_Checker___init : Array (Option Value)} {oc_Checker___init kV_Checker___init dc_Checker___init pm_Checker___init cd_Checker___init ct_Checker___init : Value}
    {f_Checker_reaches : Addr} {od_Checker_reaches an_Checker_reaches : Option Addr} {sl_Checker_reaches : Array (Option Value)} {oc_Checker_reaches kV_Checker_reaches dc_Checker_reaches pm_Checker_reaches cd_Checker_reaches ct_Checker_reaches : Value}
    {f_Checker_returns : Addr} {od_Checker_returns an_Checker_returns : Option Addr} {sl_Checker_returns : Array (Option Value)} {oc_Checker_returns kV_Checker_returns dc_Checker_returns pm_Checker_returns cd_Checker_returns ct_Checker_returns : Value}
    {f_Checker_good : Addr} {od_Checker_good an_Checker_good : Option Addr} {sl_Checker_good : Array (Option Value)} {oc_Checker_good kV_Checker_good dc_Checker_good pm_Checker_good cd_Checker_good ct_Checker_good : Value}
    {f_Thinking___init cda_Thinking___init cc_Thinking___init : Addr} {od_Thinking___init an_Thinking___init cld_Thinking___init cdd_Thinking___init : Option Addr} {sl_Thinking___init csl_Thinking___init ccs_Thinking___init : Array (Option Value)} {vs_Thinking___init : Array Value} {oc_Thinking___init kV_Thinking___init dc_Thinking___init pm_Thinking___init ct_Thinking___init cl_Thinking___init ccl_Thinking___init : Value} {file_Thinking___init : Str} {tf_Thinking___init : Tok}
    {t_GREATEST : Tok}
    {T_EVENTS : Addr} {nn_EVENTS : Nat} {sl_EVENTS : Array (Option Value)} {t_EVENTS0 t_EVENTS1 t_EVENTS2 t_EVENTS3 : Tok}
    {T_SIGNS : Addr} {nn_SIGNS : Nat} {sl_SIGNS : Array (Option Value)} {t_SIGNS0 t_SIGNS1 t_SIGNS2 t_SIGNS3 t_SIGNS4 t_SIGNS5 t_SIGNS6 : Tok}
    {t_HIGHEST : Tok}
    {T_ROUND_NAMES : Addr} {nn_ROUND_NAMES : Nat} {sl_ROUND_NAMES : Array (Option Value)} {t_ROUND_NAMES0 t_ROUND_NAMES1 t_ROUND_NAMES2 t_ROUND_NAMES3 t_ROUND_NAMES4 t_ROUND_NAMES5 t_ROUND_NAMES6 t_ROUND_NAMES7 t_ROUND_NAMES8 t_ROUND_NAMES9 t_ROUND_NAMES10 t_ROUND_NAMES11 : Tok}
    {T_BRAIN_NAMES : Addr} {nn_BRAIN_NAMES : Nat} {sl_BRAIN_NAMES : Array (Option Value)} {t_BRAIN_NAMES0 t_BRAIN_NAMES1 t_BRAIN_NAMES2 t_BRAIN_NAMES3 t_BRAIN_NAMES4 t_BRAIN_NAMES5 t_BRAIN_NAMES6 t_BRAIN_NAMES7 t_BRAIN_NAMES8 t_BRAIN_NAMES9 t_BRAIN_NAMES10 t_BRAIN_NAMES11 : Tok}
    {T_EFFECTS : Addr}
    {es_EFFECTS : Array DictEntry} {nn_EFFECTS : Nat}
    {p_EFFECTS_0 : Addr} {np_EFFECTS_0 : Nat} {sp_EFFECTS_0 : Array (Option Value)} {tp_EFFECTS_0_0 tp_EFFECTS_0_1 : Tok}
    {p_EFFECTS_1 : Addr} {np_EFFECTS_1 : Nat} {sp_EFFECTS_1 : Array (Option Value)} {tp_EFFECTS_1_0 tp_EFFECTS_1_1 : Tok}
    {p_EFFECTS_2 : Addr} {np_EFFECTS_2 : Nat} {sp_EFFECTS_2 : Array (Option Value)} {tp_EFFECTS_2_0 tp_EFFECTS_2_1 : Tok}
    {p_EFFECTS_3 : Addr} {np_EFFECTS_3 : Nat} {sp_EFFECTS_3 : Array (Option Value)} {tp_EFFECTS_3_0 tp_EFFECTS_3_1 : Tok}
    {p_EFFECTS_4 : Addr} {np_EFFECTS_4 : Nat} {sp_EFFECTS_4 : Array (Option Value)} {tp_EFFECTS_4_0 tp_EFFECTS_4_1 : Tok}
    {p_EFFECTS_5 : Addr} {np_EFFECTS_5 : Nat} {sp_EFFECTS_5 : Array (Option Value)} {tp_EFFECTS_5_0 tp_EFFECTS_5_1 : Tok}
    {p_EFFECTS_6 : Addr} {np_EFFECTS_6 : Nat} {sp_EFFECTS_6 : Array (Option Value)} {tp_EFFECTS_6_0 tp_EFFECTS_6_1 : Tok}
    {p_EFFECTS_7 : Addr} {np_EFFECTS_7 : Nat} {sp_EFFECTS_7 : Array (Option Value)} {tp_EFFECTS_7_0 tp_EFFECTS_7_1 : Tok}
    {p_EFFECTS_8 : Addr} {np_EFFECTS_8 : Nat} {sp_EFFECTS_8 : Array (Option Value)} {tp_EFFECTS_8_0 tp_EFFECTS_8_1 : Tok}
    {p_EFFECTS_9 : Addr} {np_EFFECTS_9 : Nat} {sp_EFFECTS_9 : Array (Option Value)} {tp_EFFECTS_9_0 tp_EFFECTS_9_1 : Tok}
    {p_EFFECTS_10 : Addr} {np_EFFECTS_10 : Nat} {sp_EFFECTS_10 : Array (Option Value)} {tp_EFFECTS_10_0 tp_EFFECTS_10_1 : Tok}
    {p_EFFECTS_11 : Addr} {np_EFFECTS_11 : Nat} {sp_EFFECTS_11 : Array (Option Value)} {tp_EFFECTS_11_0 tp_EFFECTS_11_1 : Tok}
    {p_EFFECTS_12 : Addr} {np_EFFECTS_12 : Nat} {sp_EFFECTS_12 : Array (Option Value)} {tp_EFFECTS_12_0 tp_EFFECTS_12_1 : Tok}
    {p_EFFECTS_13 : Addr} {np_EFFECTS_13 : Nat} {sp_EFFECTS_13 : Array (Option Value)} {tp_EFFECTS_13_0 tp_EFFECTS_13_1 : Tok}
    {p_EFFECTS_14 : Addr} {np_EFFECTS_14 : Nat} {sp_EFFECTS_14 : Array (Option Value)} {tp_EFFECTS_14_0 tp_EFFECTS_14_1 : Tok}
    {p_EFFECTS_15 : Addr} {np_EFFECTS_15 : Nat} {sp_EFFECTS_15 : Array (Option Value)} {tp_EFFECTS_15_0 tp_EFFECTS_15_1 : Tok}
    (a_view_numbers : PySem.W.nsIn K mainGlobals "view_numbers" = some (some (.ref f_view_numbers))) (l_view_numbers : K.lookup f_view_numbers = some ⟨oc_view_numbers, od_view_numbers, .func (PySem.W.fnOf "view_numbers" "view_numbers" (fnArgs s_view_numbers) (fnBody s_view_numbers) (fnScope s_view_numbers) .none kV_view_numbers dc_view_numbers pm_view_numbers an_view_numbers cd_view_numbers ct_view_numbers), sl_view_numbers⟩) (c_view_numbers : PySem.W.codeIn K cd_view_numbers "view_numbers" = true) (k_view_numbers : PySem.W.keepIn K (.ref f_view_numbers) = true)
    (a_think : PySem.W.nsIn K mainGlobals "think" = some (some (.ref f_think))) (l_think : K.lookup f_think = some ⟨oc_think, od_think, .func (PySem.W.fnOf "think" "think" (fnArgs s_think) (fnBody s_think) (fnScope s_think) .none kV_think dc_think pm_think an_think cd_think ct_think), sl_think⟩) (c_think : PySem.W.codeIn K cd_think "think" = true) (k_think : PySem.W.keepIn K (.ref f_think) = true)
    (a_combine : PySem.W.nsIn K mainGlobals "combine" = some (some (.ref f_combine))) (l_combine : K.lookup f_combine = some ⟨oc_combine, od_combine, .func (PySem.W.fnOf "combine" "combine" (fnArgs s_combine) (fnBody s_combine) (fnScope s_combine) .none kV_combine dc_combine pm_combine an_combine cd_combine ct_combine), sl_combine⟩) (c_combine : PySem.W.codeIn K cd_combine "combine" = true) (k_combine : PySem.W.keepIn K (.ref f_combine) = true)
    (a_value_of : PySem.W.nsIn K mainGlobals "value_of" = some (some (.ref f_value_of))) (l_value_of : K.lookup f_value_of = some ⟨oc_value_of, od_value_of, .func (PySem.W.fnOf "value_of" "value_of" (fnArgs s_value_of) (fnBody s_value_of) (fnScope s_value_of) (.ref T_value_of) kV_value_of dc_value_of pm_value_of an_value_of cd_value_of ct_value_of), sl_value_of⟩) (c_value_of : PySem.W.codeIn K cd_value_of "value_of" = true) (k_value_of : PySem.W.keepIn K (.ref f_value_of) = true)
    (lT_value_of : K.lookup T_value_of = some ⟨oT_value_of, dT_value_of, .seq #[.ref E_value_of] nT_value_of, slT_value_of⟩)
    (a_expression_code : PySem.W.nsIn K mainGlobals "expression_code" = some (some (.ref f_expression_code))) (l_expression_code : K.lookup f_expression_code = some ⟨oc_expression_code, od_expression_code, .func (PySem.W.fnOf "expression_code" "expression_code" (fnArgs s_expression_code) (fnBody s_expression_code) (fnScope s_expression_code) .none kV_expression_code dc_expression_code pm_expression_code an_expression_code cd_expression_code ct_expression_code), sl_expression_code⟩) (c_expression_code : PySem.W.codeIn K cd_expression_code "expression_code" = true) (k_expression_code : PySem.W.keepIn K (.ref f_expression_code) = true)
    (a_branch_code : PySem.W.nsIn K mainGlobals "branch_code" = some (some (.ref f_branch_code))) (l_branch_code : K.lookup f_branch_code = some ⟨oc_branch_code, od_branch_code, .func (PySem.W.fnOf "branch_code" "branch_code" (fnArgs s_branch_code) (fnBody s_branch_code) (fnScope s_branch_code) .none kV_branch_code dc_branch_code pm_branch_code an_branch_code cd_branch_code ct_branch_code), sl_branch_code⟩) (c_branch_code : PySem.W.codeIn K cd_branch_code "branch_code" = true) (k_branch_code : PySem.W.keepIn K (.ref f_branch_code) = true)
    (a_thoughts_code : PySem.W.nsIn K mainGlobals "thoughts_code" = some (some (.ref f_thoughts_code))) (l_thoughts_code : K.lookup f_thoughts_code = some ⟨oc_thoughts_code, od_thoughts_code, .func (PySem.W.fnOf "thoughts_code" "thoughts_code" (fnArgs s_thoughts_code) (fnBody s_thoughts_code) (fnScope s_thoughts_code) .none kV_thoughts_code dc_thoughts_code pm_thoughts_code an_thoughts_code cd_thoughts_code ct_thoughts_code), sl_thoughts_code⟩) (c_thoughts_code : PySem.W.codeIn K cd_thoughts_code "thoughts_code" = true) (k_thoughts_code : PySem.W.keepIn K (.ref f_thoughts_code) = true)
    (a_brain_code : PySem.W.nsIn K mainGlobals "brain_code" = some (some (.ref f_brain_code))) (l_brain_code : K.lookup f_brain_code = some ⟨oc_brain_code, od_brain_code, .func (PySem.W.fnOf "brain_code" "brain_code" (fnArgs s_brain_code) (fnBody s_brain_code) (fnScope s_brain_code) .none kV_brain_code dc_brain_code pm_brain_code an_brain_code cd_brain_code ct_brain_code), sl_brain_code⟩) (c_brain_code : PySem.W.codeIn K cd_brain_code "brain_code" = true) (k_brain_code : PySem.W.keepIn K (.ref f_brain_code) = true)
    (a_names_of : PySem.W.nsIn K mainGlobals "names_of" = some (some (.ref f_names_of))) (l_names_of : K.lookup f_names_of = some ⟨oc_names_of, od_names_of, .func (PySem.W.fnOf "names_of" "names_of" (fnArgs s_names_of) (fnBody s_names_of) (fnScope s_names_of) .none kV_names_of dc_names_of pm_names_of an_names_of cd_names_of ct_names_of), sl_names_of⟩) (c_names_of : PySem.W.codeIn K cd_names_of "names_of" = true) (k_names_of : PySem.W.keepIn K (.ref f_names_of) = true)
    (a_mind_of : PySem.W.nsIn K mainGlobals "mind_of" = some (some (.ref f_mind_of))) (l_mind_of : K.lookup f_mind_of = some ⟨oc_mind_of, od_mind_of, .func (PySem.W.fnOf "mind_of" "mind_of" (fnArgs s_mind_of) (fnBody s_mind_of) (fnScope s_mind_of) .none kV_mind_of dc_mind_of pm_mind_of an_mind_of cd_mind_of ct_mind_of), sl_mind_of⟩) (c_mind_of : PySem.W.codeIn K cd_mind_of "mind_of" = true) (k_mind_of : PySem.W.keepIn K (.ref f_mind_of) = true)
    (a_think_by_code : PySem.W.nsIn K mainGlobals "think_by_code" = some (some (.ref f_think_by_code))) (l_think_by_code : K.lookup f_think_by_code = some ⟨oc_think_by_code, od_think_by_code, .func (PySem.W.fnOf "think_by_code" "think_by_code" (fnArgs s_think_by_code) (fnBody s_think_by_code) (fnScope s_think_by_code) .none kV_think_by_code dc_think_by_code pm_think_by_code an_think_by_code cd_think_by_code ct_think_by_code), sl_think_by_code⟩) (c_think_by_code : PySem.W.codeIn K cd_think_by_code "think_by_code" = true) (k_think_by_code : PySem.W.keepIn K (.ref f_think_by_code) = true)
    (a_argument_fits : PySem.W.nsIn K mainGlobals "argument_fits" = some (some (.ref f_argument_fits))) (l_argument_fits : K.lookup f_argument_fits = some ⟨oc_argument_fits, od_argument_fits, .func (PySem.W.fnOf "argument_fits" "argument_fits" (fnArgs s_argument_fits) (fnBody s_argument_fits) (fnScope s_argument_fits) .none kV_argument_fits dc_argument_fits pm_argument_fits an_argument_fits cd_argument_fits ct_argument_fits), sl_argument_fits⟩) (c_argument_fits : PySem.W.codeIn K cd_argument_fits "argument_fits" = true) (k_argument_fits : PySem.W.keepIn K (.ref f_argument_fits) = true)
    (a_targets_of : PySem.W.nsIn K mainGlobals "targets_of" = some (some (.ref f_targets_of))) (l_targets_of : K.lookup f_targets_of = some ⟨oc_targets_of, od_targets_of, .func (PySem.W.fnOf "targets_of" "targets_of" (fnArgs s_targets_of) (fnBody s_targets_of) (fnScope s_targets_of) .none kV_targets_of dc_targets_of pm_targets_of an_targets_of cd_targets_of ct_targets_of), sl_targets_of⟩) (c_targets_of : PySem.W.codeIn K cd_targets_of "targets_of" = true) (k_targets_of : PySem.W.keepIn K (.ref f_targets_of) = true)
    (a_check_code : PySem.W.nsIn K mainGlobals "check_code" = some (some (.ref f_check_code))) (l_check_code : K.lookup f_check_code = some ⟨oc_check_code, od_check_code, .func (PySem.W.fnOf "check_code" "check_code" (fnArgs s_check_code) (fnBody s_check_code) (fnScope s_check_code) .none (.ref KD_check_code) dc_check_code pm_check_code an_check_code cd_check_code ct_check_code), sl_check_code⟩) (c_check_code : PySem.W.codeIn K cd_check_code "check_code" = true) (k_check_code : PySem.W.keepIn K (.ref f_check_code) = true)
    (kd_check_code : PySem.W.nsIn K KD_check_code "thinking" = some (some (.bool false)))
    (a_check_mind : PySem.W.nsIn K mainGlobals "check_mind" = some (some (.ref f_check_mind))) (l_check_mind : K.lookup f_check_mind = some ⟨oc_check_mind, od_check_mind, .func (PySem.W.fnOf "check_mind" "check_mind" (fnArgs s_check_mind) (fnBody s_check_mind) (fnScope s_check_mind) .none kV_check_mind dc_check_mind pm_check_mind an_check_mind cd_check_mind ct_check_mind), sl_check_mind⟩) (c_check_mind : PySem.W.codeIn K cd_check_mind "check_mind" = true) (k_check_mind : PySem.W.keepIn K (.ref f_check_mind) = true)
    (a_law_pool : PySem.W.nsIn K mainGlobals "_law_pool" = some (some (.ref f_law_pool))) (l_law_pool : K.lookup f_law_pool = some ⟨oc_law_pool, od_law_pool, .func (PySem.W.fnOf "_law_pool" "_law_pool" (fnArgs s_law_pool) (fnBody s_law_pool) (fnScope s_law_pool) .none kV_law_pool dc_law_pool pm_law_pool an_law_pool cd_law_pool ct_law_pool), sl_law_pool⟩) (c_law_pool : PySem.W.codeIn K cd_law_pool "_law_pool" = true) (k_law_pool : PySem.W.keepIn K (.ref f_law_pool) = true)
    (a_law_draw : PySem.W.nsIn K mainGlobals "_law_draw" = some (some (.ref f_law_draw))) (l_law_draw : K.lookup f_law_draw = some ⟨oc_law_draw, od_law_draw, .func (PySem.W.fnOf "_law_draw" "_law_draw" (fnArgs s_law_draw) (fnBody s_law_draw) (fnScope s_law_draw) .none kV_law_draw dc_law_draw pm_law_draw an_law_draw cd_law_draw ct_law_draw), sl_law_draw⟩) (c_law_draw : PySem.W.codeIn K cd_law_draw "_law_draw" = true) (k_law_draw : PySem.W.keepIn K (.ref f_law_draw) = true)
    (a_law_spend : PySem.W.nsIn K mainGlobals "_law_spend" = some (some (.ref f_law_spend))) (l_law_spend : K.lookup f_law_spend = some ⟨oc_law_spend, od_law_spend, .func (PySem.W.fnOf "_law_spend" "_law_spend" (fnArgs s_law_spend) (fnBody s_law_spend) (fnScope s_law_spend) .none kV_law_spend dc_law_spend pm_law_spend an_law_spend cd_law_spend ct_law_spend), sl_law_spend⟩) (c_law_spend : PySem.W.codeIn K cd_law_spend "_law_spend" = true) (k_law_spend : PySem.W.keepIn K (.ref f_law_spend) = true)
    (a_law_few : PySem.W.nsIn K mainGlobals "_law_few" = some (some (.ref f_law_few))) (l_law_few : K.lookup f_law_few = some ⟨oc_law_few, od_law_few, .func (PySem.W.fnOf "_law_few" "_law_few" (fnArgs s_law_few) (fnBody s_law_few) (fnScope s_law_few) .none kV_law_few dc_law_few pm_law_few an_law_few cd_law_few ct_law_few), sl_law_few⟩) (c_law_few : PySem.W.codeIn K cd_law_few "_law_few" = true) (k_law_few : PySem.W.keepIn K (.ref f_law_few) = true)
    (a_law_number : PySem.W.nsIn K mainGlobals "_law_number" = some (some (.ref f_law_number))) (l_law_number : K.lookup f_law_number = some ⟨oc_law_number, od_law_number, .func (PySem.W.fnOf "_law_number" "_law_number" (fnArgs s_law_number) (fnBody s_law_number) (fnScope s_law_number) .none kV_law_number dc_law_number pm_law_number an_law_number cd_law_number ct_law_number), sl_law_number⟩) (c_law_number : PySem.W.codeIn K cd_law_number "_law_number" = true) (k_law_number : PySem.W.keepIn K (.ref f_law_number) = true)
    (a_law_same : PySem.W.nsIn K mainGlobals "_law_same" = some (some (.ref f_law_same))) (l_law_same : K.lookup f_law_same = some ⟨oc_law_same, od_law_same, .func (PySem.W.fnOf "_law_same" "_law_same" (fnArgs s_law_same) (fnBody s_law_same) (fnScope s_law_same) .none kV_law_same dc_law_same pm_law_same an_law_same cd_law_same ct_law_same), sl_law_same⟩) (c_law_same : PySem.W.codeIn K cd_law_same "_law_same" = true) (k_law_same : PySem.W.keepIn K (.ref f_law_same) = true)
    (a_law_keys : PySem.W.nsIn K mainGlobals "_law_keys" = some (some (.ref f_law_keys))) (l_law_keys : K.lookup f_law_keys = some ⟨oc_law_keys, od_law_keys, .func (PySem.W.fnOf "_law_keys" "_law_keys" (fnArgs s_law_keys) (fnBody s_law_keys) (fnScope s_law_keys) .none kV_law_keys dc_law_keys pm_law_keys an_law_keys cd_law_keys ct_law_keys), sl_law_keys⟩) (c_law_keys : PySem.W.codeIn K cd_law_keys "_law_keys" = true) (k_law_keys : PySem.W.keepIn K (.ref f_law_keys) = true)
    (a_law_name : PySem.W.nsIn K mainGlobals "_law_name" = some (some (.ref f_law_name))) (l_law_name : K.lookup f_law_name = some ⟨oc_law_name, od_law_name, .func (PySem.W.fnOf "_law_name" "_law_name" (fnArgs s_law_name) (fnBody s_law_name) (fnScope s_law_name) .none kV_law_name dc_law_name pm_law_name an_law_name cd_law_name ct_law_name), sl_law_name⟩) (c_law_name : PySem.W.codeIn K cd_law_name "_law_name" = true) (k_law_name : PySem.W.keepIn K (.ref f_law_name) = true)
    (a_law_names : PySem.W.nsIn K mainGlobals "_law_names" = some (some (.ref f_law_names))) (l_law_names : K.lookup f_law_names = some ⟨oc_law_names, od_law_names, .func (PySem.W.fnOf "_law_names" "_law_names" (fnArgs s_law_names) (fnBody s_law_names) (fnScope s_law_names) .none kV_law_names dc_law_names pm_law_names an_law_names cd_law_names ct_law_names), sl_law_names⟩) (c_law_names : PySem.W.codeIn K cd_law_names "_law_names" = true) (k_law_names : PySem.W.keepIn K (.ref f_law_names) = true)
    (a_law_expression : PySem.W.nsIn K mainGlobals "_law_expression" = some (some (.ref f_law_expression))) (l_law_expression : K.lookup f_law_expression = some ⟨oc_law_expression, od_law_expression, .func (PySem.W.fnOf "_law_expression" "_law_expression" (fnArgs s_law_expression) (fnBody s_law_expression) (fnScope s_law_expression) .none kV_law_expression dc_law_expression pm_law_expression an_law_expression cd_law_expression ct_law_expression), sl_law_expression⟩) (c_law_expression : PySem.W.codeIn K cd_law_expression "_law_expression" = true) (k_law_expression : PySem.W.keepIn K (.ref f_law_expression) = true)
    (a_law_thoughts : PySem.W.nsIn K mainGlobals "_law_thoughts" = some (some (.ref f_law_thoughts))) (l_law_thoughts : K.lookup f_law_thoughts = some ⟨oc_law_thoughts, od_law_thoughts, .func (PySem.W.fnOf "_law_thoughts" "_law_thoughts" (fnArgs s_law_thoughts) (fnBody s_law_thoughts) (fnScope s_law_thoughts) .none kV_law_thoughts dc_law_thoughts pm_law_thoughts an_law_thoughts cd_law_thoughts ct_law_thoughts), sl_law_thoughts⟩) (c_law_thoughts : PySem.W.codeIn K cd_law_thoughts "_law_thoughts" = true) (k_law_thoughts : PySem.W.keepIn K (.ref f_law_thoughts) = true)
    (a_law_thought : PySem.W.nsIn K mainGlobals "_law_thought" = some (some (.ref f_law_thought))) (l_law_thought : K.lookup f_law_thought = some ⟨oc_law_thought, od_law_thought, .func (PySem.W.fnOf "_law_thought" "_law_thought" (fnArgs s_law_thought) (fnBody s_law_thought) (fnScope s_law_thought) .none kV_law_thought dc_law_thought pm_law_thought an_law_thought cd_law_thought ct_law_thought), sl_law_thought⟩) (c_law_thought : PySem.W.codeIn K cd_law_thought "_law_thought" = true) (k_law_thought : PySem.W.keepIn K (.ref f_law_thought) = true)
    (a_law_brain : PySem.W.nsIn K mainGlobals "_law_brain" = some (some (.ref f_law_brain))) (l_law_brain : K.lookup f_law_brain = some ⟨oc_law_brain, od_law_brain, .func (PySem.W.fnOf "_law_brain" "_law_brain" (fnArgs s_law_brain) (fnBody s_law_brain) (fnScope s_law_brain) .none kV_law_brain dc_law_brain pm_law_brain an_law_brain cd_law_brain ct_law_brain), sl_law_brain⟩) (c_law_brain : PySem.W.codeIn K cd_law_brain "_law_brain" = true) (k_law_brain : PySem.W.keepIn K (.ref f_law_brain) = true)
    (a_law_view : PySem.W.nsIn K mainGlobals "_law_view" = some (some (.ref f_law_view))) (l_law_view : K.lookup f_law_view = some ⟨oc_law_view, od_law_view, .func (PySem.W.fnOf "_law_view" "_law_view" (fnArgs s_law_view) (fnBody s_law_view) (fnScope s_law_view) .none kV_law_view dc_law_view pm_law_view an_law_view cd_law_view ct_law_view), sl_law_view⟩) (c_law_view : PySem.W.codeIn K cd_law_view "_law_view" = true) (k_law_view : PySem.W.keepIn K (.ref f_law_view) = true)
    (a_law_count : PySem.W.nsIn K mainGlobals "_law_count" = some (some (.ref f_law_count))) (l_law_count : K.lookup f_law_count = some ⟨oc_law_count, od_law_count, .func (PySem.W.fnOf "_law_count" "_law_count" (fnArgs s_law_count) (fnBody s_law_count) (fnScope s_law_count) .none kV_law_count dc_law_count pm_law_count an_law_count cd_law_count ct_law_count), sl_law_count⟩) (c_law_count : PySem.W.codeIn K cd_law_count "_law_count" = true) (k_law_count : PySem.W.keepIn K (.ref f_law_count) = true)
    (a_law : PySem.W.nsIn K mainGlobals "law" = some (some (.ref f_law))) (l_law : K.lookup f_law = some ⟨oc_law, od_law, .func (PySem.W.fnOf "law" "law" (fnArgs s_law) (fnBody s_law) (fnScope s_law) .none kV_law dc_law pm_law an_law cd_law ct_law), sl_law⟩) (c_law : PySem.W.codeIn K cd_law "law" = true) (k_law : PySem.W.keepIn K (.ref f_law) = true)
    (mc_Tape : PySem.W.nsIn K mainGlobals "Tape" = some (some (.ref C_Tape)))
    (pg_Tape : PySem.W.plainGet K C_Tape Str.empty = true)
    (hd_Tape : PySem.W.hasDictIn K C_Tape = true)
    (po_Tape : PySem.W.plainOver K C_Tape = true)
    (sa_Tape : PySem.W.findIn K (.ref C_Tape) "__setattr__" = some (some (.builtin "object.__setattr__")))
    (mk_Tape : PySem.W.makesIn K C_Tape = true)
    (kc_Tape : PySem.W.keepIn K (.ref C_Tape) = true)
    (ha_Tape : PySem.W.findIn K (.ref C_Tape) "__class__" = some (some (.builtin "object.__class__")))
    (hn_Tape : PySem.W.specialIn K (.builtin "object.__class__") "__get__" = some (some (.builtin "getset_descriptor.__get__")))
    (ht_Tape : PySem.W.takesIn K (.builtin "object.__class__") = some true)
    (hm_Tape : PySem.W.mroIn K C_Tape (.type "object") = some true)
    (nresults_Tape : PySem.W.findIn K (.ref C_Tape) "results" = some none)
    (ntaken_Tape : PySem.W.findIn K (.ref C_Tape) "taken" = some none)
    (mc_Thinker : PySem.W.nsIn K mainGlobals "Thinker" = some (some (.ref C_Thinker)))
    (pg_Thinker : PySem.W.plainGet K C_Thinker Str.empty = true)
    (hd_Thinker : PySem.W.hasDictIn K C_Thinker = true)
    (po_Thinker : PySem.W.plainOver K C_Thinker = true)
    (sa_Thinker : PySem.W.findIn K (.ref C_Thinker) "__setattr__" = some (some (.builtin "object.__setattr__")))
    (mk_Thinker : PySem.W.makesIn K C_Thinker = true)
    (kc_Thinker : PySem.W.keepIn K (.ref C_Thinker) = true)
    (ha_Thinker : PySem.W.findIn K (.ref C_Thinker) "__class__" = some (some (.builtin "object.__class__")))
    (hn_Thinker : PySem.W.specialIn K (.builtin "object.__class__") "__get__" = some (some (.builtin "getset_descriptor.__get__")))
    (ht_Thinker : PySem.W.takesIn K (.builtin "object.__class__") = some true)
    (hm_Thinker : PySem.W.mroIn K C_Thinker (.type "object") = some true)
    (ntable_Thinker : PySem.W.findIn K (.ref C_Thinker) "table" = some none)
    (nleft_Thinker : PySem.W.findIn K (.ref C_Thinker) "left" = some none)
    (nseen_Thinker : PySem.W.findIn K (.ref C_Thinker) "seen" = some none)
    (ntape_Thinker : PySem.W.findIn K (.ref C_Thinker) "tape" = some none)
    (mc_Brain : PySem.W.nsIn K mainGlobals "Brain" = some (some (.ref C_Brain)))
    (pg_Brain : PySem.W.plainGet K C_Brain Str.empty = true)
    (hd_Brain : PySem.W.hasDictIn K C_Brain = true)
    (po_Brain : PySem.W.plainOver K C_Brain = true)
    (sa_Brain : PySem.W.findIn K (.ref C_Brain) "__setattr__" = some (some (.builtin "object.__setattr__")))
    (mk_Brain : PySem.W.makesIn K C_Brain = true)
    (kc_Brain : PySem.W.keepIn K (.ref C_Brain) = true)
    (ha_Brain : PySem.W.findIn K (.ref C_Brain) "__class__" = some (some (.builtin "object.__class__")))
    (hn_Brain : PySem.W.specialIn K (.builtin "object.__class__") "__get__" = some (some (.builtin "getset_descriptor.__get__")))
    (ht_Brain : PySem.W.takesIn K (.builtin "object.__class__") = some true)
    (hm_Brain : PySem.W.mroIn K C_Brain (.type "object") = some true)
    (nunits_Brain : PySem.W.findIn K (.ref C_Brain) "units" = some none)
    (ncells_Brain : PySem.W.findIn K (.ref C_Brain) "cells" = some none)
    (nblock_Brain : PySem.W.findIn K (.ref C_Brain) "block" = some none)
    (nanswer_Brain : PySem.W.findIn K (.ref C_Brain) "answer" = some none)
    (mc_Mind : PySem.W.nsIn K mainGlobals "Mind" = some (some (.ref C_Mind)))
    (pg_Mind : PySem.W.plainGet K C_Mind Str.empty = true)
    (hd_Mind : PySem.W.hasDictIn K C_Mind = true)
    (po_Mind : PySem.W.plainOver K C_Mind = true)
    (sa_Mind : PySem.W.findIn K (.ref C_Mind) "__setattr__" = some (some (.builtin "object.__setattr__")))
    (mk_Mind : PySem.W.makesIn K C_Mind = true)
    (kc_Mind : PySem.W.keepIn K (.ref C_Mind) = true)
    (ha_Mind : PySem.W.findIn K (.ref C_Mind) "__class__" = some (some (.builtin "object.__class__")))
    (hn_Mind : PySem.W.specialIn K (.builtin "object.__class__") "__get__" = some (some (.builtin "getset_descriptor.__get__")))
    (ht_Mind : PySem.W.takesIn K (.builtin "object.__class__") = some true)
    (hm_Mind : PySem.W.mroIn K C_Mind (.type "object") = some true)
    (nunits_Mind : PySem.W.findIn K (.ref C_Mind) "units" = some none)
    (ncells_Mind : PySem.W.findIn K (.ref C_Mind) "cells" = some none)
    (ncode_Mind : PySem.W.findIn K (.ref C_Mind) "code" = some none)
    (mc_Frame : PySem.W.nsIn K mainGlobals "Frame" = some (some (.ref C_Frame)))
    (pg_Frame : PySem.W.plainGet K C_Frame Str.empty = true)
    (hd_Frame : PySem.W.hasDictIn K C_Frame = true)
    (po_Frame : PySem.W.plainOver K C_Frame = true)
    (sa_Frame : PySem.W.findIn K (.ref C_Frame) "__setattr__" = some (some (.builtin "object.__setattr__")))
    (mk_Frame : PySem.W.makesIn K C_Frame = true)
    (kc_Frame : PySem.W.keepIn K (.ref C_Frame) = true)
    (ha_Frame : PySem.W.findIn K (.ref C_Frame) "__class__" = some (some (.builtin "object.__class__")))
    (hn_Frame : PySem.W.specialIn K (.builtin "object.__class__") "__get__" = some (some (.builtin "getset_descriptor.__get__")))
    (ht_Frame : PySem.W.takesIn K (.builtin "object.__class__") = some true)
    (hm_Frame : PySem.W.mroIn K C_Frame (.type "object") = some true)
    (ncode_Frame : PySem.W.findIn K (.ref C_Frame) "code" = some none)
    (ntable_Frame : PySem.W.findIn K (.ref C_Frame) "table" = some none)
    (ntape_Frame : PySem.W.findIn K (.ref C_Frame) "tape" = some none)
    (nat_Frame : PySem.W.findIn K (.ref C_Frame) "at" = some none)
    (nstack_Frame : PySem.W.findIn K (.ref C_Frame) "stack" = some none)
    (nsteps_Frame : PySem.W.findIn K (.ref C_Frame) "steps" = some none)
    (mc_Thinking : PySem.W.nsIn K mainGlobals "Thinking" = some (some (.ref C_Thinking)))
    (pg_Thinking : PySem.W.plainGet K C_Thinking Str.empty = true)
    (hd_Thinking : PySem.W.hasDictIn K C_Thinking = true)
    (po_Thinking : PySem.W.plainOver K C_Thinking = true)
    (sa_Thinking : PySem.W.findIn K (.ref C_Thinking) "__setattr__" = some (some (.builtin "object.__setattr__")))
    (mk_Thinking : PySem.W.makesIn K C_Thinking = true)
    (kc_Thinking : PySem.W.keepIn K (.ref C_Thinking) = true)
    (ha_Thinking : PySem.W.findIn K (.ref C_Thinking) "__class__" = some (some (.builtin "object.__class__")))
    (hn_Thinking : PySem.W.specialIn K (.builtin "object.__class__") "__get__" = some (some (.builtin "getset_descriptor.__get__")))
    (ht_Thinking : PySem.W.takesIn K (.builtin "object.__class__") = some true)
    (hm_Thinking : PySem.W.mroIn K C_Thinking (.type "object") = some true)
    (ncode_Thinking : PySem.W.findIn K (.ref C_Thinking) "code" = some none)
    (ntable_Thinking : PySem.W.findIn K (.ref C_Thinking) "table" = some none)
    (ntape_Thinking : PySem.W.findIn K (.ref C_Thinking) "tape" = some none)
    (nat_Thinking : PySem.W.findIn K (.ref C_Thinking) "at" = some none)
    (nstack_Thinking : PySem.W.findIn K (.ref C_Thinking) "stack" = some none)
    (nsteps_Thinking : PySem.W.findIn K (.ref C_Thinking) "steps" = some none)
    (nleft_Thinking : PySem.W.findIn K (.ref C_Thinking) "left" = some none)
    (nseen_Thinking : PySem.W.findIn K (.ref C_Thinking) "seen" = some none)
    (nsilent_Thinking : PySem.W.findIn K (.ref C_Thinking) "silent" = some none)
    (ndone_Thinking : PySem.W.findIn K (.ref C_Thinking) "done" = some none)
    (mc_Checker : PySem.W.nsIn K mainGlobals "Checker" = some (some (.ref C_Checker)))
    (pg_Checker : PySem.W.plainGet K C_Checker Str.empty = true)
    (hd_Checker : PySem.W.hasDictIn K C_Checker = true)
    (po_Checker : PySem.W.plainOver K C_Checker = true)
    (sa_Checker : PySem.W.findIn K (.ref C_Checker) "__setattr__" = some (some (.builtin "object.__setattr__")))
    (mk_Checker : PySem.W.makesIn K C_Checker = true)
    (kc_Checker : PySem.W.keepIn K (.ref C_Checker) = true)
    (ha_Checker : PySem.W.findIn K (.ref C_Checker) "__class__" = some (some (.builtin "object.__class__")))
    (hn_Checker : PySem.W.specialIn K (.builtin "object.__class__") "__get__" = some (some (.builtin "getset_descriptor.__get__")))
    (ht_Checker : PySem.W.takesIn K (.builtin "object.__class__") = some true)
    (hm_Checker : PySem.W.mroIn K C_Checker (.type "object") = some true)
    (ncode_Checker : PySem.W.findIn K (.ref C_Checker) "code" = some none)
    (nslots_Checker : PySem.W.findIn K (.ref C_Checker) "slots" = some none)
    (nmoves_Checker : PySem.W.findIn K (.ref C_Checker) "moves" = some none)
    (nthinking_Checker : PySem.W.findIn K (.ref C_Checker) "thinking" = some none)
    (nheights_Checker : PySem.W.findIn K (.ref C_Checker) "heights" = some none)
    (nhighest_Checker : PySem.W.findIn K (.ref C_Checker) "highest" = some none)
    (a_Tape___init : PySem.W.findIn K (.ref C_Tape) "__init__" = some (some (.ref f_Tape___init))) (i_Tape___init : PySem.W.isFn K (.ref f_Tape___init) = true) (l_Tape___init : K.lookup f_Tape___init = some ⟨oc_Tape___init, od_Tape___init, .func (PySem.W.fnOf "__init__" "Tape.__init__" (fnArgs s_Tape___init) (fnBody s_Tape___init) (fnScope s_Tape___init) .none kV_Tape___init dc_Tape___init pm_Tape___init an_Tape___init cd_Tape___init ct_Tape___init), sl_Tape___init⟩) (c_Tape___init : PySem.W.codeIn K cd_Tape___init "Tape.__init__" = true) (k_Tape___init : PySem.W.keepIn K (.ref f_Tape___init) = true)
    (a_Tape_take : PySem.W.findIn K (.ref C_Tape) "take" = some (some (.ref f_Tape_take))) (i_Tape_take : PySem.W.isFn K (.ref f_Tape_take) = true) (l_Tape_take : K.lookup f_Tape_take = some ⟨oc_Tape_take, od_Tape_take, .func (PySem.W.fnOf "take" "Tape.take" (fnArgs s_Tape_take) (fnBody s_Tape_take) (fnScope s_Tape_take) .none kV_Tape_take dc_Tape_take pm_Tape_take an_Tape_take cd_Tape_take ct_Tape_take), sl_Tape_take⟩) (c_Tape_take : PySem.W.codeIn K cd_Tape_take "Tape.take" = true) (k_Tape_take : PySem.W.keepIn K (.ref f_Tape_take) = true)
    (a_Brain___init : PySem.W.findIn K (.ref C_Brain) "__init__" = some (some (.ref f_Brain___init))) (i_Brain___init : PySem.W.isFn K (.ref f_Brain___init) = true) (l_Brain___init : K.lookup f_Brain___init = some ⟨oc_Brain___init, od_Brain___init, .func (PySem.W.fnOf "__init__" "Brain.__init__" (fnArgs s_Brain___init) (fnBody s_Brain___init) (fnScope s_Brain___init) .none kV_Brain___init dc_Brain___init pm_Brain___init an_Brain___init cd_Brain___init ct_Brain___init), sl_Brain___init⟩) (c_Brain___init : PySem.W.codeIn K cd_Brain___init "Brain.__init__" = true) (k_Brain___init : PySem.W.keepIn K (.ref f_Brain___init) = true)
    (a_Brain_start : PySem.W.findIn K (.ref C_Brain) "start" = some (some (.ref f_Brain_start))) (i_Brain_start : PySem.W.isFn K (.ref f_Brain_start) = true) (l_Brain_start : K.lookup f_Brain_start = some ⟨oc_Brain_start, od_Brain_start, .func (PySem.W.fnOf "start" "Brain.start" (fnArgs s_Brain_start) (fnBody s_Brain_start) (fnScope s_Brain_start) .none kV_Brain_start dc_Brain_start pm_Brain_start an_Brain_start cd_Brain_start ct_Brain_start), sl_Brain_start⟩) (c_Brain_start : PySem.W.codeIn K cd_Brain_start "Brain.start" = true) (k_Brain_start : PySem.W.keepIn K (.ref f_Brain_start) = true)
    (a_Mind___init : PySem.W.findIn K (.ref C_Mind) "__init__" = some (some (.ref f_Mind___init))) (i_Mind___init : PySem.W.isFn K (.ref f_Mind___init) = true) (l_Mind___init : K.lookup f_Mind___init = some ⟨oc_Mind___init, od_Mind___init, .func (PySem.W.fnOf "__init__" "Mind.__init__" (fnArgs s_Mind___init) (fnBody s_Mind___init) (fnScope s_Mind___init) .none kV_Mind___init dc_Mind___init pm_Mind___init an_Mind___init cd_Mind___init ct_Mind___init), sl_Mind___init⟩) (c_Mind___init : PySem.W.codeIn K cd_Mind___init "Mind.__init__" = true) (k_Mind___init : PySem.W.keepIn K (.ref f_Mind___init) = true)
    (a_Thinker___init : PySem.W.findIn K (.ref C_Thinker) "__init__" = some (some (.ref f_Thinker___init))) (i_Thinker___init : PySem.W.isFn K (.ref f_Thinker___init) = true) (l_Thinker___init : K.lookup f_Thinker___init = some ⟨oc_Thinker___init, od_Thinker___init, .func (PySem.W.fnOf "__init__" "Thinker.__init__" (fnArgs s_Thinker___init) (fnBody s_Thinker___init) (fnScope s_Thinker___init) .none kV_Thinker___init dc_Thinker___init pm_Thinker___init an_Thinker___init cd_Thinker___init ct_Thinker___init), sl_Thinker___init⟩) (c_Thinker___init : PySem.W.codeIn K cd_Thinker___init "Thinker.__init__" = true) (k_Thinker___init : PySem.W.keepIn K (.ref f_Thinker___init) = true)
    (a_Thinker_value : PySem.W.findIn K (.ref C_Thinker) "value" = some (some (.ref f_Thinker_value))) (i_Thinker_value : PySem.W.isFn K (.ref f_Thinker_value) = true) (l_Thinker_value : K.lookup f_Thinker_value = some ⟨oc_Thinker_value, od_Thinker_value, .func (PySem.W.fnOf "value" "Thinker.value" (fnArgs s_Thinker_value) (fnBody s_Thinker_value) (fnScope s_Thinker_value) .none kV_Thinker_value dc_Thinker_value pm_Thinker_value an_Thinker_value cd_Thinker_value ct_Thinker_value), sl_Thinker_value⟩) (c_Thinker_value : PySem.W.codeIn K cd_Thinker_value "Thinker.value" = true) (k_Thinker_value : PySem.W.keepIn K (.ref f_Thinker_value) = true)
    (a_Thinker_unit : PySem.W.findIn K (.ref C_Thinker) "unit" = some (some (.ref f_Thinker_unit))) (i_Thinker_unit : PySem.W.isFn K (.ref f_Thinker_unit) = true) (l_Thinker_unit : K.lookup f_Thinker_unit = some ⟨oc_Thinker_unit, od_Thinker_unit, .func (PySem.W.fnOf "unit" "Thinker.unit" (fnArgs s_Thinker_unit) (fnBody s_Thinker_unit) (fnScope s_Thinker_unit) .none kV_Thinker_unit dc_Thinker_unit pm_Thinker_unit an_Thinker_unit cd_Thinker_unit ct_Thinker_unit), sl_Thinker_unit⟩) (c_Thinker_unit : PySem.W.codeIn K cd_Thinker_unit "Thinker.unit" = true) (k_Thinker_unit : PySem.W.keepIn K (.ref f_Thinker_unit) = true)
    (a_Thinker_run : PySem.W.findIn K (.ref C_Thinker) "run" = some (some (.ref f_Thinker_run))) (i_Thinker_run : PySem.W.isFn K (.ref f_Thinker_run) = true) (l_Thinker_run : K.lookup f_Thinker_run = some ⟨oc_Thinker_run, od_Thinker_run, .func (PySem.W.fnOf "run" "Thinker.run" (fnArgs s_Thinker_run) (fnBody s_Thinker_run) (fnScope s_Thinker_run) .none kV_Thinker_run dc_Thinker_run pm_Thinker_run an_Thinker_run cd_Thinker_run ct_Thinker_run), sl_Thinker_run⟩) (c_Thinker_run : PySem.W.codeIn K cd_Thinker_run "Thinker.run" = true) (k_Thinker_run : PySem.W.keepIn K (.ref f_Thinker_run) = true)
    (a_Thinker_step : PySem.W.findIn K (.ref C_Thinker) "step" = some (some (.ref f_Thinker_step))) (i_Thinker_step : PySem.W.isFn K (.ref f_Thinker_step) = true) (l_Thinker_step : K.lookup f_Thinker_step = some ⟨oc_Thinker_step, od_Thinker_step, .func (PySem.W.fnOf "step" "Thinker.step" (fnArgs s_Thinker_step) (fnBody s_Thinker_step) (fnScope s_Thinker_step) .none kV_Thinker_step dc_Thinker_step pm_Thinker_step an_Thinker_step cd_Thinker_step ct_Thinker_step), sl_Thinker_step⟩) (c_Thinker_step : PySem.W.codeIn K cd_Thinker_step "Thinker.step" = true) (k_Thinker_step : PySem.W.keepIn K (.ref f_Thinker_step) = true)
    (a_Thinker_loop : PySem.W.findIn K (.ref C_Thinker) "loop" = some (some (.ref f_Thinker_loop))) (i_Thinker_loop : PySem.W.isFn K (.ref f_Thinker_loop) = true) (l_Thinker_loop : K.lookup f_Thinker_loop = some ⟨oc_Thinker_loop, od_Thinker_loop, .func (PySem.W.fnOf "loop" "Thinker.loop" (fnArgs s_Thinker_loop) (fnBody s_Thinker_loop) (fnScope s_Thinker_loop) .none kV_Thinker_loop dc_Thinker_loop pm_Thinker_loop an_Thinker_loop cd_Thinker_loop ct_Thinker_loop), sl_Thinker_loop⟩) (c_Thinker_loop : PySem.W.codeIn K cd_Thinker_loop "Thinker.loop" = true) (k_Thinker_loop : PySem.W.keepIn K (.ref f_Thinker_loop) = true)
    (a_Frame___init : PySem.W.findIn K (.ref C_Frame) "__init__" = some (some (.ref f_Frame___init))) (i_Frame___init : PySem.W.isFn K (.ref f_Frame___init) = true) (l_Frame___init : K.lookup f_Frame___init = some ⟨oc_Frame___init, od_Frame___init, .func (PySem.W.fnOf "__init__" "Frame.__init__" (fnArgs s_Frame___init) (fnBody s_Frame___init) (fnScope s_Frame___init) .none kV_Frame___init dc_Frame___init pm_Frame___init an_Frame___init cd_Frame___init ct_Frame___init), sl_Frame___init⟩) (c_Frame___init : PySem.W.codeIn K cd_Frame___init "Frame.__init__" = true) (k_Frame___init : PySem.W.keepIn K (.ref f_Frame___init) = true)
    (a_Frame_advance : PySem.W.findIn K (.ref C_Frame) "advance" = some (some (.ref f_Frame_advance))) (i_Frame_advance : PySem.W.isFn K (.ref f_Frame_advance) = true) (l_Frame_advance : K.lookup f_Frame_advance = some ⟨oc_Frame_advance, od_Frame_advance, .func (PySem.W.fnOf "advance" "Frame.advance" (fnArgs s_Frame_advance) (fnBody s_Frame_advance) (fnScope s_Frame_advance) .none kV_Frame_advance dc_Frame_advance pm_Frame_advance an_Frame_advance cd_Frame_advance ct_Frame_advance), sl_Frame_advance⟩) (c_Frame_advance : PySem.W.codeIn K cd_Frame_advance "Frame.advance" = true) (k_Frame_advance : PySem.W.keepIn K (.ref f_Frame_advance) = true)
    (a_Thinking_special : PySem.W.findIn K (.ref C_Thinking) "special" = some (some (.ref f_Thinking_special))) (i_Thinking_special : PySem.W.isFn K (.ref f_Thinking_special) = true) (l_Thinking_special : K.lookup f_Thinking_special = some ⟨oc_Thinking_special, od_Thinking_special, .func (PySem.W.fnOf "special" "Thinking.special" (fnArgs s_Thinking_special) (fnBody s_Thinking_special) (fnScope s_Thinking_special) .none kV_Thinking_special dc_Thinking_special pm_Thinking_special an_Thinking_special cd_Thinking_special ct_Thinking_special), sl_Thinking_special⟩) (c_Thinking_special : PySem.W.codeIn K cd_Thinking_special "Thinking.special" = true) (k_Thinking_special : PySem.W.keepIn K (.ref f_Thinking_special) = true)
    (a_Checker___init : PySem.W.findIn K (.ref C_Checker) "__init__" = some (some (.ref f_Checker___init))) (i_Checker___init : PySem.W.isFn K (.ref f_Checker___init) = true) (l_Checker___init : K.lookup f_Checker___init = some ⟨oc_Checker___init, od_Checker___init, .func (PySem.W.fnOf "__init__" "Checker.__init__" (fnArgs s_Checker___init) (fnBody s_Checker___init) (fnScope s_Checker___init) .none kV_Checker___init dc_Checker___init pm_Checker___init an_Checker___init cd_Checker___init ct_Checker___init), sl_Checker___init⟩) (c_Checker___init : PySem.W.codeIn K cd_Checker___init "Checker.__init__" = true) (k_Checker___init : PySem.W.keepIn K (.ref f_Checker___init) = true)
    (a_Checker_reaches : PySem.W.findIn K (.ref C_Checker) "reaches" = some (some (.ref f_Checker_reaches))) (i_Checker_reaches : PySem.W.isFn K (.ref f_Checker_reaches) = true) (l_Checker_reaches : K.lookup f_Checker_reaches = some ⟨oc_Checker_reaches, od_Checker_reaches, .func (PySem.W.fnOf "reaches" "Checker.reaches" (fnArgs s_Checker_reaches) (fnBody s_Checker_reaches) (fnScope s_Checker_reaches) .none kV_Checker_reaches dc_Checker_reaches pm_Checker_reaches an_Checker_reaches cd_Checker_reaches ct_Checker_reaches), sl_Checker_reaches⟩) (c_Checker_reaches : PySem.W.codeIn K cd_Checker_reaches "Checker.reaches" = true) (k_Checker_reaches : PySem.W.keepIn K (.ref f_Checker_reaches) = true)
    (a_Checker_returns : PySem.W.findIn K (.ref C_Checker) "returns" = some (some (.ref f_Checker_returns))) (i_Checker_returns : PySem.W.isFn K (.ref f_Checker_returns) = true) (l_Checker_returns : K.lookup f_Checker_returns = some ⟨oc_Checker_returns, od_Checker_returns, .func (PySem.W.fnOf "returns" "Checker.returns" (fnArgs s_Checker_returns) (fnBody s_Checker_returns) (fnScope s_Checker_returns) .none kV_Checker_returns dc_Checker_returns pm_Checker_returns an_Checker_returns cd_Checker_returns ct_Checker_returns), sl_Checker_returns⟩) (c_Checker_returns : PySem.W.codeIn K cd_Checker_returns "Checker.returns" = true) (k_Checker_returns : PySem.W.keepIn K (.ref f_Checker_returns) = true)
    (a_Checker_good : PySem.W.findIn K (.ref C_Checker) "good" = some (some (.ref f_Checker_good))) (i_Checker_good : PySem.W.isFn K (.ref f_Checker_good) = true) (l_Checker_good : K.lookup f_Checker_good = some ⟨oc_Checker_good, od_Checker_good, .func (PySem.W.fnOf "good" "Checker.good" (fnArgs s_Checker_good) (fnBody s_Checker_good) (fnScope s_Checker_good) .none kV_Checker_good dc_Checker_good pm_Checker_good an_Checker_good cd_Checker_good ct_Checker_good), sl_Checker_good⟩) (c_Checker_good : PySem.W.codeIn K cd_Checker_good "Checker.good" = true) (k_Checker_good : PySem.W.keepIn K (.ref f_Checker_good) = true)
    (a_Thinking___init : PySem.W.findIn K (.ref C_Thinking) "__init__" = some (some (.ref f_Thinking___init)))
    (i_Thinking___init : PySem.W.isFn K (.ref f_Thinking___init) = true)
    (l_Thinking___init : K.lookup f_Thinking___init = some ⟨oc_Thinking___init, od_Thinking___init, .func (PySem.W.fnX "__init__" "Thinking.__init__" (fnArgs s_Thinking___init) (fnBody s_Thinking___init) (fnScope s_Thinking___init) [("__class__", cc_Thinking___init)] .none kV_Thinking___init dc_Thinking___init pm_Thinking___init an_Thinking___init (.ref cda_Thinking___init) ct_Thinking___init), sl_Thinking___init⟩)
    (c_Thinking___init : PySem.W.codeIn K (.ref cda_Thinking___init) "Thinking.__init__" = true)
    (k_Thinking___init : PySem.W.keepIn K (.ref f_Thinking___init) = true)
    (lc_Thinking___init : K.lookup cc_Thinking___init = some ⟨cl_Thinking___init, cld_Thinking___init, .cell (some (.ref C_Thinking)), csl_Thinking___init⟩)
    (ld_Thinking___init : K.lookup cda_Thinking___init = some ⟨ccl_Thinking___init, cdd_Thinking___init, .fields vs_Thinking___init, ccs_Thinking___init⟩)
    (vf_Thinking___init : vs_Thinking___init[2]? = some (.str file_Thinking___init tf_Thinking___init))
    (fe_Thinking___init : ((l.prog.main.file : Str) == file_Thinking___init) = true)
    (al_Thinking___init : PySem.W.ks_superIn K C_Thinking C_Thinking "__init__" = some (some (.ref f_Frame___init)))
    (mo_Thinking___init : PySem.W.mroIn K C_Thinking (.ref C_Thinking) = some true)
    (tfb_Thinking___init : PySem.W.typeIn K (.ref f_Frame___init) = some (.type "function"))
    (fib_Thinking___init : PySem.W.fnIn K f_Frame___init = true)
    (ah_Thinking_advance : PySem.W.findIn K (.ref C_Thinking) "advance" = some (some (.ref f_Frame_advance)))
    (opq : PySem.W.nsIn K PySem.cStatics "thirdparty.any" = some none)
    (zsup : PySem.W.nsIn K mainGlobals "super" = some none)
    (ptop : (l.prog.main.scope.names.lookup ("super" : Str)).isSome = false)
    (xsp : PySem.W.specialIn K (.builtin "object.__class__") "__get__" = some (some (.builtin "getset_descriptor.__get__")))
    (xtk : PySem.W.takesIn K (.builtin "object.__class__") = some true)
    (z_GREATEST : PySem.W.nsIn K mainGlobals "GREATEST" = some (some (.int 65535 t_GREATEST)))
    (z_EVENTS : PySem.W.nsIn K mainGlobals "EVENTS" = some (some (.ref T_EVENTS)))
    (lT_EVENTS : K.lookup T_EVENTS = some ⟨.type "tuple", none, .seq #[.str "round" t_EVENTS0, .str "told" t_EVENTS1, .str "move" t_EVENTS2, .str "did" t_EVENTS3] nn_EVENTS, sl_EVENTS⟩)
    (z_SIGNS : PySem.W.nsIn K mainGlobals "SIGNS" = some (some (.ref T_SIGNS)))
    (lT_SIGNS : K.lookup T_SIGNS = some ⟨.type "tuple", none, .seq #[.str "+" t_SIGNS0, .str "-" t_SIGNS1, .str "*" t_SIGNS2, .str "/" t_SIGNS3, .str "mod" t_SIGNS4, .str "<" t_SIGNS5, .str "=" t_SIGNS6] nn_SIGNS, sl_SIGNS⟩)
    (z_HIGHEST : PySem.W.nsIn K mainGlobals "HIGHEST" = some (some (.int 16 t_HIGHEST)))
    (z_ROUND_NAMES : PySem.W.nsIn K mainGlobals "ROUND_NAMES" = some (some (.ref T_ROUND_NAMES)))
    (lT_ROUND_NAMES : K.lookup T_ROUND_NAMES = some ⟨.type "tuple", none, .seq #[.str "push" t_ROUND_NAMES0, .str "load" t_ROUND_NAMES1, .str "store" t_ROUND_NAMES2, .str "sign" t_ROUND_NAMES3, .str "jump" t_ROUND_NAMES4, .str "skip" t_ROUND_NAMES5, .str "lot" t_ROUND_NAMES6, .str "end" t_ROUND_NAMES7, .str "ask" t_ROUND_NAMES8, .str "show" t_ROUND_NAMES9, .str "pay" t_ROUND_NAMES10, .str "take" t_ROUND_NAMES11] nn_ROUND_NAMES, sl_ROUND_NAMES⟩)
    (z_BRAIN_NAMES : PySem.W.nsIn K mainGlobals "BRAIN_NAMES" = some (some (.ref T_BRAIN_NAMES)))
    (lT_BRAIN_NAMES : K.lookup T_BRAIN_NAMES = some ⟨.type "tuple", none, .seq #[.str "push" t_BRAIN_NAMES0, .str "load" t_BRAIN_NAMES1, .str "store" t_BRAIN_NAMES2, .str "sign" t_BRAIN_NAMES3, .str "jump" t_BRAIN_NAMES4, .str "skip" t_BRAIN_NAMES5, .str "lot" t_BRAIN_NAMES6, .str "end" t_BRAIN_NAMES7, .str "view" t_BRAIN_NAMES8, .str "long" t_BRAIN_NAMES9, .str "unit" t_BRAIN_NAMES10, .str "back" t_BRAIN_NAMES11] nn_BRAIN_NAMES, sl_BRAIN_NAMES⟩)
    (z_EFFECTS : PySem.W.nsIn K mainGlobals "EFFECTS" = some (some (.ref T_EFFECTS)))
    (lT_EFFECTS : K.lookup T_EFFECTS = some ⟨.type "dict", none, .dict es_EFFECTS nn_EFFECTS, #[]⟩)
    (kl_EFFECTS : PySem.W.KeysLit w.params es_EFFECTS.toList)
    (gp_EFFECTS_0 : PySem.W.nsIn K T_EFFECTS "push" = some (some (.ref p_EFFECTS_0)))
    (lp_EFFECTS_0 : K.lookup p_EFFECTS_0 = some ⟨.type "tuple", none, .seq #[.int (0) tp_EFFECTS_0_0, .int (1) tp_EFFECTS_0_1] np_EFFECTS_0, sp_EFFECTS_0⟩)
    (gp_EFFECTS_1 : PySem.W.nsIn K T_EFFECTS "load" = some (some (.ref p_EFFECTS_1)))
    (lp_EFFECTS_1 : K.lookup p_EFFECTS_1 = some ⟨.type "tuple", none, .seq #[.int (0) tp_EFFECTS_1_0, .int (1) tp_EFFECTS_1_1] np_EFFECTS_1, sp_EFFECTS_1⟩)
    (gp_EFFECTS_2 : PySem.W.nsIn K T_EFFECTS "store" = some (some (.ref p_EFFECTS_2)))
    (lp_EFFECTS_2 : K.lookup p_EFFECTS_2 = some ⟨.type "tuple", none, .seq #[.int (1) tp_EFFECTS_2_0, .int (0) tp_EFFECTS_2_1] np_EFFECTS_2, sp_EFFECTS_2⟩)
    (gp_EFFECTS_3 : PySem.W.nsIn K T_EFFECTS "sign" = some (some (.ref p_EFFECTS_3)))
    (lp_EFFECTS_3 : K.lookup p_EFFECTS_3 = some ⟨.type "tuple", none, .seq #[.int (2) tp_EFFECTS_3_0, .int (1) tp_EFFECTS_3_1] np_EFFECTS_3, sp_EFFECTS_3⟩)
    (gp_EFFECTS_4 : PySem.W.nsIn K T_EFFECTS "jump" = some (some (.ref p_EFFECTS_4)))
    (lp_EFFECTS_4 : K.lookup p_EFFECTS_4 = some ⟨.type "tuple", none, .seq #[.int (0) tp_EFFECTS_4_0, .int (0) tp_EFFECTS_4_1] np_EFFECTS_4, sp_EFFECTS_4⟩)
    (gp_EFFECTS_5 : PySem.W.nsIn K T_EFFECTS "skip" = some (some (.ref p_EFFECTS_5)))
    (lp_EFFECTS_5 : K.lookup p_EFFECTS_5 = some ⟨.type "tuple", none, .seq #[.int (1) tp_EFFECTS_5_0, .int (0) tp_EFFECTS_5_1] np_EFFECTS_5, sp_EFFECTS_5⟩)
    (gp_EFFECTS_6 : PySem.W.nsIn K T_EFFECTS "lot" = some (some (.ref p_EFFECTS_6)))
    (lp_EFFECTS_6 : K.lookup p_EFFECTS_6 = some ⟨.type "tuple", none, .seq #[.int (1) tp_EFFECTS_6_0, .int (1) tp_EFFECTS_6_1] np_EFFECTS_6, sp_EFFECTS_6⟩)
    (gp_EFFECTS_7 : PySem.W.nsIn K T_EFFECTS "ask" = some (some (.ref p_EFFECTS_7)))
    (lp_EFFECTS_7 : K.lookup p_EFFECTS_7 = some ⟨.type "tuple", none, .seq #[.int (0) tp_EFFECTS_7_0, .int (1) tp_EFFECTS_7_1] np_EFFECTS_7, sp_EFFECTS_7⟩)
    (gp_EFFECTS_8 : PySem.W.nsIn K T_EFFECTS "show" = some (some (.ref p_EFFECTS_8)))
    (lp_EFFECTS_8 : K.lookup p_EFFECTS_8 = some ⟨.type "tuple", none, .seq #[.int (1) tp_EFFECTS_8_0, .int (0) tp_EFFECTS_8_1] np_EFFECTS_8, sp_EFFECTS_8⟩)
    (gp_EFFECTS_9 : PySem.W.nsIn K T_EFFECTS "pay" = some (some (.ref p_EFFECTS_9)))
    (lp_EFFECTS_9 : K.lookup p_EFFECTS_9 = some ⟨.type "tuple", none, .seq #[.int (1) tp_EFFECTS_9_0, .int (0) tp_EFFECTS_9_1] np_EFFECTS_9, sp_EFFECTS_9⟩)
    (gp_EFFECTS_10 : PySem.W.nsIn K T_EFFECTS "take" = some (some (.ref p_EFFECTS_10)))
    (lp_EFFECTS_10 : K.lookup p_EFFECTS_10 = some ⟨.type "tuple", none, .seq #[.int (1) tp_EFFECTS_10_0, .int (0) tp_EFFECTS_10_1] np_EFFECTS_10, sp_EFFECTS_10⟩)
    (gp_EFFECTS_11 : PySem.W.nsIn K T_EFFECTS "view" = some (some (.ref p_EFFECTS_11)))
    (lp_EFFECTS_11 : K.lookup p_EFFECTS_11 = some ⟨.type "tuple", none, .seq #[.int (1) tp_EFFECTS_11_0, .int (1) tp_EFFECTS_11_1] np_EFFECTS_11, sp_EFFECTS_11⟩)
    (gp_EFFECTS_12 : PySem.W.nsIn K T_EFFECTS "long" = some (some (.ref p_EFFECTS_12)))
    (lp_EFFECTS_12 : K.lookup p_EFFECTS_12 = some ⟨.type "tuple", none, .seq #[.int (0) tp_EFFECTS_12_0, .int (1) tp_EFFECTS_12_1] np_EFFECTS_12, sp_EFFECTS_12⟩)
    (gp_EFFECTS_13 : PySem.W.nsIn K T_EFFECTS "unit" = some (some (.ref p_EFFECTS_13)))
    (lp_EFFECTS_13 : K.lookup p_EFFECTS_13 = some ⟨.type "tuple", none, .seq #[.int (0) tp_EFFECTS_13_0, .int (0) tp_EFFECTS_13_1] np_EFFECTS_13, sp_EFFECTS_13⟩)
    (gp_EFFECTS_14 : PySem.W.nsIn K T_EFFECTS "back" = some (some (.ref p_EFFECTS_14)))
    (lp_EFFECTS_14 : K.lookup p_EFFECTS_14 = some ⟨.type "tuple", none, .seq #[.int (0) tp_EFFECTS_14_0, .int (0) tp_EFFECTS_14_1] np_EFFECTS_14, sp_EFFECTS_14⟩)
    (gp_EFFECTS_15 : PySem.W.nsIn K T_EFFECTS "end" = some (some (.ref p_EFFECTS_15)))
    (lp_EFFECTS_15 : K.lookup p_EFFECTS_15 = some ⟨.type "tuple", none, .seq #[.int (0) tp_EFFECTS_15_0, .int (0) tp_EFFECTS_15_1] np_EFFECTS_15, sp_EFFECTS_15⟩)
    (z_bool : PySem.W.nsIn K mainGlobals "bool" = some none)
    (z_int : PySem.W.nsIn K mainGlobals "int" = some none)
    (z_isinstance : PySem.W.nsIn K mainGlobals "isinstance" = some none)
    (z_len : PySem.W.nsIn K mainGlobals "len" = some none)
    (z_list : PySem.W.nsIn K mainGlobals "list" = some none)
    (z_max : PySem.W.nsIn K mainGlobals "max" = some none)
    (z_min : PySem.W.nsIn K mainGlobals "min" = some none)
    (z_range : PySem.W.nsIn K mainGlobals "range" = some none)
    (z_str : PySem.W.nsIn K mainGlobals "str" = some none)
    (z_tuple : PySem.W.nsIn K mainGlobals "tuple" = some none)
    (z_zip : PySem.W.nsIn K mainGlobals "zip" = some none)
    : ∃ fd : FuncData, (∀ (s : Shared) (v : Value), BindsTo s fd ⟨[v], []⟩ [("script", v)]) ∧ ∀ base : Heap, K.In base → base.Ns mainGlobals mg → FnOk l.prog w K mg base C8.CX0 43 fa fd ["script"] (sp_law K) := by
  have e := hfa.symm.trans (PySem.W.mg_of X G a_law)
  cases e
  have T : Txt K mg C_Tape C_Thinker C_Brain C_Mind C_Frame C_Thinking C_Checker T_EVENTS T_SIGNS T_ROUND_NAMES T_BRAIN_NAMES T_EFFECTS := ⟨PySem.W.mg_none_of X G z_bool, PySem.W.mg_none_of X G z_int, PySem.W.mg_none_of X G z_isinstance, PySem.W.mg_none_of X G z_len, PySem.W.mg_none_of X G z_list, PySem.W.mg_none_of X G z_max, PySem.W.mg_none_of X G z_min, PySem.W.mg_none_of X G z_range, PySem.W.mg_none_of X G z_str, PySem.W.mg_none_of X G z_tuple, PySem.W.mg_none_of X G z_zip, ⟨pg_Tape, hd_Tape, po_Tape, sa_Tape⟩, PySem.W.mg_of X G mc_Tape, ⟨⟨pg_Tape, hd_Tape, po_Tape, sa_Tape⟩, ha_Tape, hn_Tape, ht_Tape, hm_Tape, kitSelf⟩, nresults_Tape, ntaken_Tape, ⟨pg_Thinker, hd_Thinker, po_Thinker, sa_Thinker⟩, PySem.W.mg_of X G mc_Thinker, ⟨⟨pg_Thinker, hd_Thinker, po_Thinker, sa_Thinker⟩, ha_Thinker, hn_Thinker, ht_Thinker, hm_Thinker, kitSelf⟩, ntable_Thinker, nleft_Thinker, nseen_Thinker, ntape_Thinker, ⟨pg_Brain, hd_Brain, po_Brain, sa_Brain⟩, PySem.W.mg_of X G mc_Brain, ⟨⟨pg_Brain, hd_Brain, po_Brain, sa_Brain⟩, ha_Brain, hn_Brain, ht_Brain, hm_Brain, kitSelf⟩, nunits_Brain, ncells_Brain, nblock_Brain, nanswer_Brain, ⟨pg_Mind, hd_Mind, po_Mind, sa_Mind⟩, PySem.W.mg_of X G mc_Mind, ⟨⟨pg_Mind, hd_Mind, po_Mind, sa_Mind⟩, ha_Mind, hn_Mind, ht_Mind, hm_Mind, kitSelf⟩, nunits_Mind, ncells_Mind, ncode_Mind, ⟨pg_Frame, hd_Frame, po_Frame, sa_Frame⟩, PySem.W.mg_of X G mc_Frame, ⟨⟨pg_Frame, hd_Frame, po_Frame, sa_Frame⟩, ha_Frame, hn_Frame, ht_Frame, hm_Frame, kitSelf⟩, ncode_Frame, ntable_Frame, ntape_Frame, nat_Frame, nstack_Frame, nsteps_Frame, ⟨pg_Thinking, hd_Thinking, po_Thinking, sa_Thinking⟩, PySem.W.mg_of X G mc_Thinking, ⟨⟨pg_Thinking, hd_Thinking, po_Thinking, sa_Thinking⟩, ha_Thinking, hn_Thinking, ht_Thinking, hm_Thinking, kitSelf⟩, ncode_Thinking, ntable_Thinking, ntape_Thinking, nat_Thinking, nstack_Thinking, nsteps_Thinking, nleft_Thinking, nseen_Thinking, nsilent_Thinking, ndone_Thinking, ⟨pg_Checker, hd_Checker, po_Checker, sa_Checker⟩, PySem.W.mg_of X G mc_Checker, ⟨⟨pg_Checker, hd_Checker, po_Checker, sa_Checker⟩, ha_Checker, hn_Checker, ht_Checker, hm_Checker, kitSelf⟩, ncode_Checker, nslots_Checker, nmoves_Checker, nthinking_Checker, nheights_Checker, nhighest_Checker, ⟨_, PySem.W.mg_of X G z_GREATEST, ⟨_, rfl⟩⟩, ⟨_, PySem.W.mg_of X G z_EVENTS, rfl⟩, fun H => .inr ⟨_, _, _, lT_EVENTS, rfl, rfl, by show 4 ≤ sizeLine; decide, .cons ⟨_, rfl⟩ (.cons ⟨_, rfl⟩ (.cons ⟨_, rfl⟩ (.cons ⟨_, rfl⟩ (.nil))))⟩, ⟨_, lT_EVENTS, rfl, rfl⟩, ⟨_, PySem.W.mg_of X G z_SIGNS, rfl⟩, fun H => .inr ⟨_, _, _, lT_SIGNS, rfl, rfl, by show 7 ≤ sizeLine; decide, .cons ⟨_, rfl⟩ (.cons ⟨_, rfl⟩ (.cons ⟨_, rfl⟩ (.cons ⟨_, rfl⟩ (.cons ⟨_, rfl⟩ (.cons ⟨_, rfl⟩ (.cons ⟨_, rfl⟩ (.nil)))))))⟩, ⟨_, lT_SIGNS, rfl, rfl⟩, ⟨_, PySem.W.mg_of X G z_HIGHEST, ⟨_, rfl⟩⟩, ⟨_, PySem.W.mg_of X G z_ROUND_NAMES, rfl⟩, fun H => .inr ⟨_, _, _, lT_ROUND_NAMES, rfl, rfl, by show 12 ≤ sizeLine; decide, .cons ⟨_, rfl⟩ (.cons ⟨_, rfl⟩ (.cons ⟨_, rfl⟩ (.cons ⟨_, rfl⟩ (.cons ⟨_, rfl⟩ (.cons ⟨_, rfl⟩ (.cons ⟨_, rfl⟩ (.cons ⟨_, rfl⟩ (.cons ⟨_, rfl⟩ (.cons ⟨_, rfl⟩ (.cons ⟨_, rfl⟩ (.cons ⟨_, rfl⟩ (.nil))))))))))))⟩, ⟨_, lT_ROUND_NAMES, rfl, rfl⟩, ⟨_, PySem.W.mg_of X G z_BRAIN_NAMES, rfl⟩, fun H => .inr ⟨_, _, _, lT_BRAIN_NAMES, rfl, rfl, by show 12 ≤ sizeLine; decide, .cons ⟨_, rfl⟩ (.cons ⟨_, rfl⟩ (.cons ⟨_, rfl⟩ (.cons ⟨_, rfl⟩ (.cons ⟨_, rfl⟩ (.cons ⟨_, rfl⟩ (.cons ⟨_, rfl⟩ (.cons ⟨_, rfl⟩ (.cons ⟨_, rfl⟩ (.cons ⟨_, rfl⟩ (.cons ⟨_, rfl⟩ (.cons ⟨_, rfl⟩ (.nil))))))))))))⟩, ⟨_, lT_BRAIN_NAMES, rfl, rfl⟩, ⟨_, PySem.W.mg_of X G z_EFFECTS, rfl⟩, True.intro⟩
  have F_Tape___init : C8.Fun K "__init__" "Tape.__init__" s_Tape___init _ _ := ⟨⟨_, _, _, _, _, _, _, _, _, _, rfl, l_Tape___init, c_Tape___init⟩⟩
  have M_Tape : Mk K C_Tape f_Tape___init := ⟨mk_Tape, a_Tape___init, i_Tape___init, kc_Tape⟩
  have b_Tape___init : Binds K _ ["self", "results"] [] := C8.Fun.binds F_Tape___init rfl fun _ _ _ _ _ _ us hl => match us, hl with | [_, _], _ => rfl
  have F_Tape_take : C8.Fun K "take" "Tape.take" s_Tape_take _ _ := ⟨⟨_, _, _, _, _, _, _, _, _, _, rfl, l_Tape_take, c_Tape_take⟩⟩
  have M_Tape_take : Meth K C_Tape "take" f_Tape_take := ⟨a_Tape_take, i_Tape_take, k_Tape_take⟩
  have b_Tape_take : Binds K _ ["self", "count"] [] := C8.Fun.binds F_Tape_take rfl fun _ _ _ _ _ _ us hl => match us, hl with | [_, _], _ => rfl
  have F_Brain___init : C8.Fun K "__init__" "Brain.__init__" s_Brain___init _ _ := ⟨⟨_, _, _, _, _, _, _, _, _, _, rfl, l_Brain___init, c_Brain___init⟩⟩
  have M_Brain : Mk K C_Brain f_Brain___init := ⟨mk_Brain, a_Brain___init, i_Brain___init, kc_Brain⟩
  have b_Brain___init : Binds K _ ["self", "units", "cells", "block", "answer"] [] := C8.Fun.binds F_Brain___init rfl fun _ _ _ _ _ _ us hl => match us, hl with | [_, _, _, _, _], _ => rfl
  have F_Brain_start : C8.Fun K "start" "Brain.start" s_Brain_start _ _ := ⟨⟨_, _, _, _, _, _, _, _, _, _, rfl, l_Brain_start, c_Brain_start⟩⟩
  have M_Brain_start : Meth K C_Brain "start" f_Brain_start := ⟨a_Brain_start, i_Brain_start, k_Brain_start⟩
  have b_Brain_start : Binds K _ ["self"] [] := C8.Fun.binds F_Brain_start rfl fun _ _ _ _ _ _ us hl => match us, hl with | [_], _ => rfl
  have F_Mind___init : C8.Fun K "__init__" "Mind.__init__" s_Mind___init _ _ := ⟨⟨_, _, _, _, _, _, _, _, _, _, rfl, l_Mind___init, c_Mind___init⟩⟩
  have M_Mind : Mk K C_Mind f_Mind___init := ⟨mk_Mind, a_Mind___init, i_Mind___init, kc_Mind⟩
  have b_Mind___init : Binds K _ ["self", "units", "cells", "code"] [] := C8.Fun.binds F_Mind___init rfl fun _ _ _ _ _ _ us hl => match us, hl with | [_, _, _, _], _ => rfl
  have F_Thinker___init : C8.Fun K "__init__" "Thinker.__init__" s_Thinker___init _ _ := ⟨⟨_, _, _, _, _, _, _, _, _, _, rfl, l_Thinker___init, c_Thinker___init⟩⟩
  have M_Thinker : Mk K C_Thinker f_Thinker___init := ⟨mk_Thinker, a_Thinker___init, i_Thinker___init, kc_Thinker⟩
  have b_Thinker___init : Binds K _ ["self", "brain", "cells", "seen", "tape"] [] := C8.Fun.binds F_Thinker___init rfl fun _ _ _ _ _ _ us hl => match us, hl with | [_, _, _, _, _], _ => rfl
  have F_Thinker_value : C8.Fun K "value" "Thinker.value" s_Thinker_value _ _ := ⟨⟨_, _, _, _, _, _, _, _, _, _, rfl, l_Thinker_value, c_Thinker_value⟩⟩
  have M_Thinker_value : Meth K C_Thinker "value" f_Thinker_value := ⟨a_Thinker_value, i_Thinker_value, k_Thinker_value⟩
  have b_Thinker_value : Binds K _ ["self", "expression"] [] := C8.Fun.binds F_Thinker_value rfl fun _ _ _ _ _ _ us hl => match us, hl with | [_, _], _ => rfl
  have F_Thinker_unit : C8.Fun K "unit" "Thinker.unit" s_Thinker_unit _ _ := ⟨⟨_, _, _, _, _, _, _, _, _, _, rfl, l_Thinker_unit, c_Thinker_unit⟩⟩
  have M_Thinker_unit : Meth K C_Thinker "unit" f_Thinker_unit := ⟨a_Thinker_unit, i_Thinker_unit, k_Thinker_unit⟩
  have b_Thinker_unit : Binds K _ ["self"] [] := C8.Fun.binds F_Thinker_unit rfl fun _ _ _ _ _ _ us hl => match us, hl with | [_], _ => rfl
  have F_Thinker_run : C8.Fun K "run" "Thinker.run" s_Thinker_run _ _ := ⟨⟨_, _, _, _, _, _, _, _, _, _, rfl, l_Thinker_run, c_Thinker_run⟩⟩
  have M_Thinker_run : Meth K C_Thinker "run" f_Thinker_run := ⟨a_Thinker_run, i_Thinker_run, k_Thinker_run⟩
  have b_Thinker_run : Binds K _ ["self", "block"] [] := C8.Fun.binds F_Thinker_run rfl fun _ _ _ _ _ _ us hl => match us, hl with | [_, _], _ => rfl
  have F_Thinker_step : C8.Fun K "step" "Thinker.step" s_Thinker_step _ _ := ⟨⟨_, _, _, _, _, _, _, _, _, _, rfl, l_Thinker_step, c_Thinker_step⟩⟩
  have M_Thinker_step : Meth K C_Thinker "step" f_Thinker_step := ⟨a_Thinker_step, i_Thinker_step, k_Thinker_step⟩
  have b_Thinker_step : Binds K _ ["self", "statement"] [] := C8.Fun.binds F_Thinker_step rfl fun _ _ _ _ _ _ us hl => match us, hl with | [_, _], _ => rfl
  have F_Thinker_loop : C8.Fun K "loop" "Thinker.loop" s_Thinker_loop _ _ := ⟨⟨_, _, _, _, _, _, _, _, _, _, rfl, l_Thinker_loop, c_Thinker_loop⟩⟩
  have M_Thinker_loop : Meth K C_Thinker "loop" f_Thinker_loop := ⟨a_Thinker_loop, i_Thinker_loop, k_Thinker_loop⟩
  have b_Thinker_loop : Binds K _ ["self", "test", "block"] [] := C8.Fun.binds F_Thinker_loop rfl fun _ _ _ _ _ _ us hl => match us, hl with | [_, _, _], _ => rfl
  have F_Frame___init : C8.Fun K "__init__" "Frame.__init__" s_Frame___init _ _ := ⟨⟨_, _, _, _, _, _, _, _, _, _, rfl, l_Frame___init, c_Frame___init⟩⟩
  have M_Frame : Mk K C_Frame f_Frame___init := ⟨mk_Frame, a_Frame___init, i_Frame___init, kc_Frame⟩
  have b_Frame___init : Binds K _ ["self", "code", "table", "tape"] [] := C8.Fun.binds F_Frame___init rfl fun _ _ _ _ _ _ us hl => match us, hl with | [_, _, _, _], _ => rfl
  have F_Frame_advance : C8.Fun K "advance" "Frame.advance" s_Frame_advance _ _ := ⟨⟨_, _, _, _, _, _, _, _, _, _, rfl, l_Frame_advance, c_Frame_advance⟩⟩
  have M_Frame_advance : Meth K C_Frame "advance" f_Frame_advance := ⟨a_Frame_advance, i_Frame_advance, k_Frame_advance⟩
  have b_Frame_advance : Binds K _ ["self"] [] := C8.Fun.binds F_Frame_advance rfl fun _ _ _ _ _ _ us hl => match us, hl with | [_], _ => rfl
  have F_Thinking_special : C8.Fun K "special" "Thinking.special" s_Thinking_special _ _ := ⟨⟨_, _, _, _, _, _, _, _, _, _, rfl, l_Thinking_special, c_Thinking_special⟩⟩
  have M_Thinking_special : Meth K C_Thinking "special" f_Thinking_special := ⟨a_Thinking_special, i_Thinking_special, k_Thinking_special⟩
  have b_Thinking_special : Binds K _ ["self", "name", "argument"] [] := C8.Fun.binds F_Thinking_special rfl fun _ _ _ _ _ _ us hl => match us, hl with | [_, _, _], _ => rfl
  have F_Checker___init : C8.Fun K "__init__" "Checker.__init__" s_Checker___init _ _ := ⟨⟨_, _, _, _, _, _, _, _, _, _, rfl, l_Checker___init, c_Checker___init⟩⟩
  have M_Checker : Mk K C_Checker f_Checker___init := ⟨mk_Checker, a_Checker___init, i_Checker___init, kc_Checker⟩
  have b_Checker___init : Binds K _ ["self", "code", "slots", "moves", "thinking"] [] := C8.Fun.binds F_Checker___init rfl fun _ _ _ _ _ _ us hl => match us, hl with | [_, _, _, _, _], _ => rfl
  have F_Checker_reaches : C8.Fun K "reaches" "Checker.reaches" s_Checker_reaches _ _ := ⟨⟨_, _, _, _, _, _, _, _, _, _, rfl, l_Checker_reaches, c_Checker_reaches⟩⟩
  have M_Checker_reaches : Meth K C_Checker "reaches" f_Checker_reaches := ⟨a_Checker_reaches, i_Checker_reaches, k_Checker_reaches⟩
  have b_Checker_reaches : Binds K _ ["self", "targets", "height"] [] := C8.Fun.binds F_Checker_reaches rfl fun _ _ _ _ _ _ us hl => match us, hl with | [_, _, _], _ => rfl
  have F_Checker_returns : C8.Fun K "returns" "Checker.returns" s_Checker_returns _ _ := ⟨⟨_, _, _, _, _, _, _, _, _, _, rfl, l_Checker_returns, c_Checker_returns⟩⟩
  have M_Checker_returns : Meth K C_Checker "returns" f_Checker_returns := ⟨a_Checker_returns, i_Checker_returns, k_Checker_returns⟩
  have b_Checker_returns : Binds K _ ["self", "at", "target"] [] := C8.Fun.binds F_Checker_returns rfl fun _ _ _ _ _ _ us hl => match us, hl with | [_, _, _], _ => rfl
  have F_Checker_good : C8.Fun K "good" "Checker.good" s_Checker_good _ _ := ⟨⟨_, _, _, _, _, _, _, _, _, _, rfl, l_Checker_good, c_Checker_good⟩⟩
  have M_Checker_good : Meth K C_Checker "good" f_Checker_good := ⟨a_Checker_good, i_Checker_good, k_Checker_good⟩
  have b_Checker_good : Binds K _ ["self", "at"] [] := C8.Fun.binds F_Checker_good rfl fun _ _ _ _ _ _ us hl => match us, hl with | [_, _], _ => rfl
  have FS_Thinking___init : FunS l.prog K "Thinking.__init__" s_Thinking___init f_Thinking___init _ C_Thinking := ⟨⟨_, _, _, _, _, _, _, _, _, _, _, _, _, _, _, _, _, _, _, rfl, l_Thinking___init, c_Thinking___init, lc_Thinking___init, ld_Thinking___init, vf_Thinking___init, fe_Thinking___init⟩⟩
  have U_Thinking : SupOk l.prog K mg C_Thinking f_Frame___init := ⟨sup_cls al_Thinking___init, al_Thinking___init, opq, PySem.W.mg_none_of X G zsup, mo_Thinking___init, ptop, tfb_Thinking___init, fib_Thinking___init⟩
  have M_Thinking : Mk K C_Thinking f_Thinking___init := ⟨mk_Thinking, a_Thinking___init, i_Thinking___init, kc_Thinking⟩
  have b_Thinking___init : Binds K _ ["self", "mind", "cells", "view", "tape"] [] := FunS.binds FS_Thinking___init fun _ _ _ _ _ _ _ us hl => match us, hl with | [_, _, _, _, _], _ => rfl
  have M_Thinking_advance : Meth K C_Thinking "advance" f_Frame_advance := ⟨ah_Thinking_advance, i_Frame_advance, k_Frame_advance⟩
  have D_view_numbers : C8.Def K mg "view_numbers" s_view_numbers _ _ := ⟨⟨⟨_, _, _, _, _, _, _, _, _, _, rfl, l_view_numbers, c_view_numbers⟩⟩, PySem.W.mg_of X G a_view_numbers, k_view_numbers⟩
  have b_view_numbers : Binds K _ ["view"] [] := C8.Fun.binds D_view_numbers.fn rfl fun _ _ _ _ _ _ us hl => match us, hl with | [_], _ => rfl
  have D_think : C8.Def K mg "think" s_think _ _ := ⟨⟨⟨_, _, _, _, _, _, _, _, _, _, rfl, l_think, c_think⟩⟩, PySem.W.mg_of X G a_think, k_think⟩
  have b_think : Binds K _ ["brain", "cells", "view", "count", "tape"] [] := C8.Fun.binds D_think.fn rfl fun _ _ _ _ _ _ us hl => match us, hl with | [_, _, _, _, _], _ => rfl
  have D_combine : C8.Def K mg "combine" s_combine _ _ := ⟨⟨⟨_, _, _, _, _, _, _, _, _, _, rfl, l_combine, c_combine⟩⟩, PySem.W.mg_of X G a_combine, k_combine⟩
  have b_combine : Binds K _ ["sign", "left", "right"] [] := C8.Fun.binds D_combine.fn rfl fun _ _ _ _ _ _ us hl => match us, hl with | [_, _, _], _ => rfl
  have D_value_of : C8.Def K mg "value_of" s_value_of _ _ := ⟨⟨⟨_, _, _, _, _, _, _, _, _, _, rfl, l_value_of, c_value_of⟩⟩, PySem.W.mg_of X G a_value_of, k_value_of⟩
  have FD_value_of : FunD K "value_of" "value_of" (fnArgs s_value_of) (fnBody s_value_of) (fnScope s_value_of) [.ref E_value_of] [] f_value_of _ := ⟨⟨_, _, _, _, _, _, _, _, _, _, rfl, l_value_of, c_value_of, .inr ⟨by simp, _, _, [_], _, rfl, lT_value_of, rfl, .cons rfl .nil⟩, .inl rfl⟩, k_value_of⟩
  obtain ⟨ds2_value_of, v2_value_of, b2_value_of⟩ := FD_value_of.binds1 (ps := ["expression", "table", "on", "seen"]) 4 1 (by simp) rfl (fun _ _ _ _ _ _ _ us its hu hi => match us, hu, its, hi with | [_, _, _, _], _, [_], _ => ⟨_, rfl, rfl⟩)
  obtain ⟨ds1_value_of, v1_value_of, b1_value_of⟩ := FD_value_of.binds1 (ps := ["expression", "table", "on", "seen"]) 3 0 (by simp) rfl (fun _ _ _ _ _ _ _ us its hu hi => match us, hu, its, hi with | [_, _, _], _, [_], _ => ⟨_, rfl, rfl⟩)
  have D_expression_code : C8.Def K mg "expression_code" s_expression_code _ _ := ⟨⟨⟨_, _, _, _, _, _, _, _, _, _, rfl, l_expression_code, c_expression_code⟩⟩, PySem.W.mg_of X G a_expression_code, k_expression_code⟩
  have b_expression_code : Binds K _ ["expression", "slots", "on"] [] := C8.Fun.binds D_expression_code.fn rfl fun _ _ _ _ _ _ us hl => match us, hl with | [_, _, _], _ => rfl
  have D_branch_code : C8.Def K mg "branch_code" s_branch_code _ _ := ⟨⟨⟨_, _, _, _, _, _, _, _, _, _, rfl, l_branch_code, c_branch_code⟩⟩, PySem.W.mg_of X G a_branch_code, k_branch_code⟩
  have b_branch_code : Binds K _ ["test", "then", "other"] [] := C8.Fun.binds D_branch_code.fn rfl fun _ _ _ _ _ _ us hl => match us, hl with | [_, _, _], _ => rfl
  have D_thoughts_code : C8.Def K mg "thoughts_code" s_thoughts_code _ _ := ⟨⟨⟨_, _, _, _, _, _, _, _, _, _, rfl, l_thoughts_code, c_thoughts_code⟩⟩, PySem.W.mg_of X G a_thoughts_code, k_thoughts_code⟩
  have b_thoughts_code : Binds K _ ["block", "slots"] [] := C8.Fun.binds D_thoughts_code.fn rfl fun _ _ _ _ _ _ us hl => match us, hl with | [_, _], _ => rfl
  have D_brain_code : C8.Def K mg "brain_code" s_brain_code _ _ := ⟨⟨⟨_, _, _, _, _, _, _, _, _, _, rfl, l_brain_code, c_brain_code⟩⟩, PySem.W.mg_of X G a_brain_code, k_brain_code⟩
  have b_brain_code : Binds K _ ["block", "answer", "slots"] [] := C8.Fun.binds D_brain_code.fn rfl fun _ _ _ _ _ _ us hl => match us, hl with | [_, _, _], _ => rfl
  have D_names_of : C8.Def K mg "names_of" s_names_of _ _ := ⟨⟨⟨_, _, _, _, _, _, _, _, _, _, rfl, l_names_of, c_names_of⟩⟩, PySem.W.mg_of X G a_names_of, k_names_of⟩
  have b_names_of : Binds K _ ["rows"] [] := C8.Fun.binds D_names_of.fn rfl fun _ _ _ _ _ _ us hl => match us, hl with | [_], _ => rfl
  have D_mind_of : C8.Def K mg "mind_of" s_mind_of _ _ := ⟨⟨⟨_, _, _, _, _, _, _, _, _, _, rfl, l_mind_of, c_mind_of⟩⟩, PySem.W.mg_of X G a_mind_of, k_mind_of⟩
  have b_mind_of : Binds K _ ["brain"] [] := C8.Fun.binds D_mind_of.fn rfl fun _ _ _ _ _ _ us hl => match us, hl with | [_], _ => rfl
  have D_think_by_code : C8.Def K mg "think_by_code" s_think_by_code _ _ := ⟨⟨⟨_, _, _, _, _, _, _, _, _, _, rfl, l_think_by_code, c_think_by_code⟩⟩, PySem.W.mg_of X G a_think_by_code, k_think_by_code⟩
  have b_think_by_code : Binds K _ ["mind", "cells", "view", "count", "tape"] [] := C8.Fun.binds D_think_by_code.fn rfl fun _ _ _ _ _ _ us hl => match us, hl with | [_, _, _, _, _], _ => rfl
  have D_argument_fits : C8.Def K mg "argument_fits" s_argument_fits _ _ := ⟨⟨⟨_, _, _, _, _, _, _, _, _, _, rfl, l_argument_fits, c_argument_fits⟩⟩, PySem.W.mg_of X G a_argument_fits, k_argument_fits⟩
  have b_argument_fits : Binds K _ ["instruction", "slots", "moves"] [] := C8.Fun.binds D_argument_fits.fn rfl fun _ _ _ _ _ _ us hl => match us, hl with | [_, _, _], _ => rfl
  have D_targets_of : C8.Def K mg "targets_of" s_targets_of _ _ := ⟨⟨⟨_, _, _, _, _, _, _, _, _, _, rfl, l_targets_of, c_targets_of⟩⟩, PySem.W.mg_of X G a_targets_of, k_targets_of⟩
  have b_targets_of : Binds K _ ["at", "instruction"] [] := C8.Fun.binds D_targets_of.fn rfl fun _ _ _ _ _ _ us hl => match us, hl with | [_, _], _ => rfl
  have D_check_code : C8.Def K mg "check_code" s_check_code _ _ := ⟨⟨⟨_, _, _, _, _, _, _, _, _, _, rfl, l_check_code, c_check_code⟩⟩, PySem.W.mg_of X G a_check_code, k_check_code⟩
  have FD_check_code : FunD K "check_code" "check_code" (fnArgs s_check_code) (fnBody s_check_code) (fnScope s_check_code) [] [("thinking", .bl false)] f_check_code _ := ⟨⟨_, _, _, _, _, _, _, _, _, _, rfl, l_check_code, c_check_code, .inl ⟨rfl, rfl⟩, .inr ⟨_, rfl, fun q hq => by rw [List.mem_singleton] at hq; subst hq; exact ⟨_, kd_check_code, rfl⟩⟩⟩, k_check_code⟩
  obtain ⟨ds1_check_code, v1_check_code, b1_check_code⟩ := FD_check_code.binds0 (ps := ["code", "slots", "moves", "thinking"]) 3 (by simp) rfl (fun _ _ _ _ _ _ us ks hu hk => match us, hu, ks, hk with | [_, _, _], _, [_], _ => ⟨_, _, _, _, _, _, rfl, rfl, rfl⟩)
  obtain ⟨its_check_code, kb_check_code⟩ := FD_check_code.kbinds0 (ps := ["code", "slots", "moves", "thinking"]) 3 ["thinking"] [] (fun us _ ws => us ++ ws) (by simp) (fun _ h => nomatch h) (fun h1 _ h3 => h1.append h3) (fun _ _ _ _ _ _ us mv ws hu hm hw => match us, hu, mv, hm, ws, hw with | [_, _, _], _, [], _, [_], _ => rfl)
  have D_check_mind : C8.Def K mg "check_mind" s_check_mind _ _ := ⟨⟨⟨_, _, _, _, _, _, _, _, _, _, rfl, l_check_mind, c_check_mind⟩⟩, PySem.W.mg_of X G a_check_mind, k_check_mind⟩
  have b_check_mind : Binds K _ ["mind"] [] := C8.Fun.binds D_check_mind.fn rfl fun _ _ _ _ _ _ us hl => match us, hl with | [_], _ => rfl
  have D_law_pool : C8.Def K mg "_law_pool" s_law_pool _ _ := ⟨⟨⟨_, _, _, _, _, _, _, _, _, _, rfl, l_law_pool, c_law_pool⟩⟩, PySem.W.mg_of X G a_law_pool, k_law_pool⟩
  have b_law_pool : Binds K _ ["script", "budget"] [] := C8.Fun.binds D_law_pool.fn rfl fun _ _ _ _ _ _ us hl => match us, hl with | [_, _], _ => rfl
  have D_law_draw : C8.Def K mg "_law_draw" s_law_draw _ _ := ⟨⟨⟨_, _, _, _, _, _, _, _, _, _, rfl, l_law_draw, c_law_draw⟩⟩, PySem.W.mg_of X G a_law_draw, k_law_draw⟩
  have b_law_draw : Binds K _ ["pool", "size"] [] := C8.Fun.binds D_law_draw.fn rfl fun _ _ _ _ _ _ us hl => match us, hl with | [_, _], _ => rfl
  have D_law_spend : C8.Def K mg "_law_spend" s_law_spend _ _ := ⟨⟨⟨_, _, _, _, _, _, _, _, _, _, rfl, l_law_spend, c_law_spend⟩⟩, PySem.W.mg_of X G a_law_spend, k_law_spend⟩
  have b_law_spend : Binds K _ ["pool"] [] := C8.Fun.binds D_law_spend.fn rfl fun _ _ _ _ _ _ us hl => match us, hl with | [_], _ => rfl
  have D_law_few : C8.Def K mg "_law_few" s_law_few _ _ := ⟨⟨⟨_, _, _, _, _, _, _, _, _, _, rfl, l_law_few, c_law_few⟩⟩, PySem.W.mg_of X G a_law_few, k_law_few⟩
  have b_law_few : Binds K _ ["pool", "most"] [] := C8.Fun.binds D_law_few.fn rfl fun _ _ _ _ _ _ us hl => match us, hl with | [_, _], _ => rfl
  have D_law_number : C8.Def K mg "_law_number" s_law_number _ _ := ⟨⟨⟨_, _, _, _, _, _, _, _, _, _, rfl, l_law_number, c_law_number⟩⟩, PySem.W.mg_of X G a_law_number, k_law_number⟩
  have b_law_number : Binds K _ ["pool"] [] := C8.Fun.binds D_law_number.fn rfl fun _ _ _ _ _ _ us hl => match us, hl with | [_], _ => rfl
  have D_law_same : C8.Def K mg "_law_same" s_law_same _ _ := ⟨⟨⟨_, _, _, _, _, _, _, _, _, _, rfl, l_law_same, c_law_same⟩⟩, PySem.W.mg_of X G a_law_same, k_law_same⟩
  have b_law_same : Binds K _ ["actual", "due"] [] := C8.Fun.binds D_law_same.fn rfl fun _ _ _ _ _ _ us hl => match us, hl with | [_, _], _ => rfl
  have D_law_keys : C8.Def K mg "_law_keys" s_law_keys _ _ := ⟨⟨⟨_, _, _, _, _, _, _, _, _, _, rfl, l_law_keys, c_law_keys⟩⟩, PySem.W.mg_of X G a_law_keys, k_law_keys⟩
  have b_law_keys : Binds K _ [] [] := C8.Fun.binds D_law_keys.fn rfl fun _ _ _ _ _ _ us hl => match us, hl with | [], _ => rfl
  have D_law_name : C8.Def K mg "_law_name" s_law_name _ _ := ⟨⟨⟨_, _, _, _, _, _, _, _, _, _, rfl, l_law_name, c_law_name⟩⟩, PySem.W.mg_of X G a_law_name, k_law_name⟩
  have b_law_name : Binds K _ ["pool", "taken"] [] := C8.Fun.binds D_law_name.fn rfl fun _ _ _ _ _ _ us hl => match us, hl with | [_, _], _ => rfl
  have D_law_names : C8.Def K mg "_law_names" s_law_names _ _ := ⟨⟨⟨_, _, _, _, _, _, _, _, _, _, rfl, l_law_names, c_law_names⟩⟩, PySem.W.mg_of X G a_law_names, k_law_names⟩
  have b_law_names : Binds K _ ["pool", "most"] [] := C8.Fun.binds D_law_names.fn rfl fun _ _ _ _ _ _ us hl => match us, hl with | [_, _], _ => rfl
  have D_law_expression : C8.Def K mg "_law_expression" s_law_expression _ _ := ⟨⟨⟨_, _, _, _, _, _, _, _, _, _, rfl, l_law_expression, c_law_expression⟩⟩, PySem.W.mg_of X G a_law_expression, k_law_expression⟩
  have b_law_expression : Binds K _ ["pool", "names", "deep"] [] := C8.Fun.binds D_law_expression.fn rfl fun _ _ _ _ _ _ us hl => match us, hl with | [_, _, _], _ => rfl
  have D_law_thoughts : C8.Def K mg "_law_thoughts" s_law_thoughts _ _ := ⟨⟨⟨_, _, _, _, _, _, _, _, _, _, rfl, l_law_thoughts, c_law_thoughts⟩⟩, PySem.W.mg_of X G a_law_thoughts, k_law_thoughts⟩
  have b_law_thoughts : Binds K _ ["pool", "names", "deep", "loops"] [] := C8.Fun.binds D_law_thoughts.fn rfl fun _ _ _ _ _ _ us hl => match us, hl with | [_, _, _, _], _ => rfl
  have D_law_thought : C8.Def K mg "_law_thought" s_law_thought _ _ := ⟨⟨⟨_, _, _, _, _, _, _, _, _, _, rfl, l_law_thought, c_law_thought⟩⟩, PySem.W.mg_of X G a_law_thought, k_law_thought⟩
  have b_law_thought : Binds K _ ["pool", "names", "deep", "loops"] [] := C8.Fun.binds D_law_thought.fn rfl fun _ _ _ _ _ _ us hl => match us, hl with | [_, _, _, _], _ => rfl
  have D_law_brain : C8.Def K mg "_law_brain" s_law_brain _ _ := ⟨⟨⟨_, _, _, _, _, _, _, _, _, _, rfl, l_law_brain, c_law_brain⟩⟩, PySem.W.mg_of X G a_law_brain, k_law_brain⟩
  have b_law_brain : Binds K _ ["pool", "units", "loops"] [] := C8.Fun.binds D_law_brain.fn rfl fun _ _ _ _ _ _ us hl => match us, hl with | [_, _, _], _ => rfl
  have D_law_view : C8.Def K mg "_law_view" s_law_view _ _ := ⟨⟨⟨_, _, _, _, _, _, _, _, _, _, rfl, l_law_view, c_law_view⟩⟩, PySem.W.mg_of X G a_law_view, k_law_view⟩
  have b_law_view : Binds K _ ["pool"] [] := C8.Fun.binds D_law_view.fn rfl fun _ _ _ _ _ _ us hl => match us, hl with | [_], _ => rfl
  have D_law_count : C8.Def K mg "_law_count" s_law_count _ _ := ⟨⟨⟨_, _, _, _, _, _, _, _, _, _, rfl, l_law_count, c_law_count⟩⟩, PySem.W.mg_of X G a_law_count, k_law_count⟩
  have b_law_count : Binds K _ ["pool", "view"] [] := C8.Fun.binds D_law_count.fn rfl fun _ _ _ _ _ _ us hl => match us, hl with | [_, _], _ => rfl
  have F_law : C8.Fun K "law" "law" s_law _ _ := ⟨⟨_, _, _, _, _, _, _, _, _, _, rfl, l_law, c_law⟩⟩
  refine ⟨PySem.W.fnOf "law" "law" (fnArgs s_law) (fnBody s_law) (fnScope s_law) .none kV_law dc_law pm_law an_law cd_law ct_law, fun s v => .of_eq rfl, fun base _ _ => ?_⟩
  have c_law_pool := ok_law_pool (P := l.prog) (w := w) (base := base) D_law_pool b_law_pool T
  have c_law_draw := ok_law_draw (P := l.prog) (w := w) (base := base) D_law_draw b_law_draw T
  have c_law_spend := ok_law_spend (P := l.prog) (w := w) (base := base) D_law_spend b_law_spend T
  have c_law_few := ok_law_few D_law_few b_law_few T c_law_draw
  have c_law_number := ok_law_number D_law_number b_law_number T c_law_draw
  have c_law_keys := ok_law_keys (P := l.prog) (w := w) (base := base) D_law_keys b_law_keys T
  have c_law_name := ok_law_name D_law_name b_law_name T c_law_draw c_law_few c_law_keys
  have c_law_names := ok_law_names D_law_names b_law_names T c_law_few c_law_name
  have c_law_same := same_all (P := l.prog) (w := w) (base := base) D_law_same b_law_same T 5
  have c_combine := ok_combine (P := l.prog) (w := w) (base := base) D_combine b_combine T (k := 0)
  have c_value_of := value_all D_value_of v2_value_of b2_value_of T c_combine 12
  have c_law_expression := expr_all D_law_expression b_law_expression T c_law_draw c_law_spend c_law_number 12
  have c_law_thoughts := thoughts_all D_law_thoughts b_law_thoughts D_law_thought b_law_thought T c_law_draw c_law_spend c_law_few c_law_expression 9
  have c_Tape := ok_tape_init (P := l.prog) (w := w) (base := base) M_Tape F_Tape___init b_Tape___init T
  have c_Tape_take := ok_tape_take (P := l.prog) (w := w) (base := base) M_Tape_take F_Tape_take b_Tape_take T
  have c_view_numbers := ok_views (P := l.prog) (w := w) (base := base) D_view_numbers b_view_numbers T
  have c_Thinker := ok_thinit (P := l.prog) (w := w) (base := base) M_Thinker F_Thinker___init b_Thinker___init T
  have c_Thinker_value := ok_tval M_Thinker_value F_Thinker_value b_Thinker_value T c_value_of
  have c_Thinker_unit := ok_tunit (P := l.prog) (w := w) (base := base) M_Thinker_unit F_Thinker_unit b_Thinker_unit T
  have c_Thinker_run := trun_all M_Thinker_run F_Thinker_run b_Thinker_run M_Thinker_step F_Thinker_step b_Thinker_step M_Thinker_loop F_Thinker_loop b_Thinker_loop T c_Thinker_value c_Thinker_unit c_Tape_take 9
  have c_think := ok_think D_think b_think T c_view_numbers c_Thinker c_Thinker_run c_Thinker_value
  have c_Brain := ok_brinit (P := l.prog) (w := w) (base := base) M_Brain F_Brain___init b_Brain___init T
  have c_law_brain := ok_brain D_law_brain b_law_brain T c_law_names c_law_number c_law_thoughts c_law_expression
  have c_law_view := ok_view D_law_view b_law_view T c_law_draw c_law_few c_law_number
  have c_law_count := ok_count D_law_count b_law_count T c_law_draw
  have c_expression_code := code_all (P := l.prog) (w := w) (base := base) D_expression_code b_expression_code T 12
  have c_branch_code := ok_branch (P := l.prog) (w := w) (base := base) D_branch_code b_branch_code T
  have c_thoughts_code := tcode_all D_thoughts_code b_thoughts_code T c_expression_code c_branch_code 9
  have c_brain_code := ok_bcode D_brain_code b_brain_code T c_thoughts_code c_expression_code
  have c_names_of := ok_names (P := l.prog) (w := w) (base := base) D_names_of b_names_of T
  have c_Brain_start := ok_start (P := l.prog) (w := w) (base := base) M_Brain_start F_Brain_start b_Brain_start T
  have c_Mind := ok_minit (P := l.prog) (w := w) (base := base) M_Mind F_Mind___init b_Mind___init T
  have c_mind_of := ok_mindof D_mind_of b_mind_of T c_brain_code c_names_of c_Brain_start c_Mind
  have c_Frame := ok_frinit (P := l.prog) (w := w) (mg := mg) (base := base) F_Frame___init T
  have c_Thinking := ok_tkinit M_Thinking FS_Thinking___init b_Thinking___init U_Thinking c_Frame b_Frame___init T c_view_numbers
  have c_Thinking_special := ok_special M_Thinking_special F_Thinking_special b_Thinking_special T c_Tape_take
  have c_Thinking_advance := ok_adv M_Thinking_advance F_Frame_advance b_Frame_advance T c_Thinking_special c_combine
  have c_think_by_code := ok_tbc D_think_by_code b_think_by_code T c_Thinking c_Thinking_advance
  have c_argument_fits := ok_fits (P := l.prog) (w := w) (base := base) D_argument_fits b_argument_fits T
  have c_targets_of := ok_tgts (P := l.prog) (w := w) (base := base) D_targets_of b_targets_of T
  have c_Checker := ok_chk_init (P := l.prog) (w := w) (base := base) M_Checker F_Checker___init b_Checker___init T
  have c_Checker_reaches := ok_reaches (P := l.prog) (w := w) (base := base) M_Checker_reaches F_Checker_reaches b_Checker_reaches T
  have c_Checker_returns := ok_returns (P := l.prog) (w := w) (base := base) M_Checker_returns F_Checker_returns b_Checker_returns T
  have hE : EffOk K w T_EFFECTS := effOk lT_EFFECTS kl_EFFECTS fun n hn => by
    have hn' : n = "push" ∨ n = "load" ∨ n = "store" ∨ n = "sign" ∨ n = "jump" ∨ n = "skip" ∨ n = "lot" ∨ n = "ask" ∨ n = "show" ∨ n = "pay" ∨ n = "take" ∨ n = "view" ∨ n = "long" ∨ n = "unit" ∨ n = "back" ∨ n = "end" := allNm_or n hn
    rcases hn' with rfl | rfl | rfl | rfl | rfl | rfl | rfl | rfl | rfl | rfl | rfl | rfl | rfl | rfl | rfl | rfl
    · exact ⟨_, gp_EFFECTS_0, _, _, _, _, lp_EFFECTS_0⟩
    · exact ⟨_, gp_EFFECTS_1, _, _, _, _, lp_EFFECTS_1⟩
    · exact ⟨_, gp_EFFECTS_2, _, _, _, _, lp_EFFECTS_2⟩
    · exact ⟨_, gp_EFFECTS_3, _, _, _, _, lp_EFFECTS_3⟩
    · exact ⟨_, gp_EFFECTS_4, _, _, _, _, lp_EFFECTS_4⟩
    · exact ⟨_, gp_EFFECTS_5, _, _, _, _, lp_EFFECTS_5⟩
    · exact ⟨_, gp_EFFECTS_6, _, _, _, _, lp_EFFECTS_6⟩
    · exact ⟨_, gp_EFFECTS_7, _, _, _, _, lp_EFFECTS_7⟩
    · exact ⟨_, gp_EFFECTS_8, _, _, _, _, lp_EFFECTS_8⟩
    · exact ⟨_, gp_EFFECTS_9, _, _, _, _, lp_EFFECTS_9⟩
    · exact ⟨_, gp_EFFECTS_10, _, _, _, _, lp_EFFECTS_10⟩
    · exact ⟨_, gp_EFFECTS_11, _, _, _, _, lp_EFFECTS_11⟩
    · exact ⟨_, gp_EFFECTS_12, _, _, _, _, lp_EFFECTS_12⟩
    · exact ⟨_, gp_EFFECTS_13, _, _, _, _, lp_EFFECTS_13⟩
    · exact ⟨_, gp_EFFECTS_14, _, _, _, _, lp_EFFECTS_14⟩
    · exact ⟨_, gp_EFFECTS_15, _, _, _, _, lp_EFFECTS_15⟩
  have c_Checker_good := ok_good (P := l.prog) (w := w) (base := base) M_Checker_good F_Checker_good b_Checker_good T hE c_argument_fits c_targets_of c_Checker_returns c_Checker_reaches
  have fn_check := ok_check D_check_code T c_Checker c_Checker_good
  have c_check_code_thinking : CalK0 l.prog w K mg base 3 "check_code" sp_chk0 3 ["thinking"] (fun vs zs => vs ++ zs) := ⟨_, _, _, _, fn_check, D_check_code.mgf, D_check_code.kp, kb_check_code⟩
  have c_check_mind := ok_cmind D_check_mind b_check_mind T rfl c_check_code_thinking
  exact ok_law F_law T c_law_pool c_law_draw c_law_brain c_Brain c_mind_of c_check_mind c_law_number c_Tape c_Brain_start c_law_view c_law_count c_think c_think_by_code c_law_same
theorem walk {l : PySem.W.OpenLaw} {q : Program} {loose : List Str} {XP : (Str → Option Value) → Heap → Prop} {YP : World → Heap → Prop} {d : DefRec} {K : Params → PySem.W.Frag} (hn : l.most = some 63) (hdf : d.params.defaults = [])
    (hY : ∀ (w : World) (h : Heap), YP w h → (K w.params).In h)
    (F : ∀ (w : World) (mg : Str → Option Value) (fa : Addr) (h : Heap), (K w.params).In h → h.Ns mainGlobals mg → mg d.name = some (.ref fa) →
      ∃ fd : FuncData, (∀ (s : Shared) (u : Value), BindsTo s fd ⟨[u], []⟩ [("script", u)]) ∧ ∀ base : Heap, (K w.params).In base → base.Ns mainGlobals mg → FnOk l.prog w (K w.params) mg base C8.CX0 43 fa fd ["script"] (sp_law (K w.params))) :
    PySem.W.WalkO q loose XP YP l.row.toRowW d [] (fun f vs => PySem.call f vs) :=
  L2.walk_ofB (n := 63) (k := 43) (x := "script") (CX := fun _ => C8.CX0) (sp := fun w => sp_law (K w.params)) hn (by decide) hdf ⟨rfl, by decide, by decide⟩ hY F (fun _ _ a ns hl hb _ hS => ⟨a, ns, rfl, hS, fun _ => rfl⟩) fun _ _ _ _ _ z => z
end My
open PySem PySem.W PyProof.Rows
set_option maxRecDepth 100000 in
set_option maxHeartbeats 0 in
theorem PySem.Challenge.cw_bothgain_k75_compiled_brains_think_alike_holds : PySem.Challenge.rw_bothgain_k75_compiled_brains_think_alike.Holds := by
  w_on; o_law; k_head; (case hw => w_witness2)
  k_fill
  refine My.walk (l := PySem.Challenge.rw_bothgain_k75_compiled_brains_think_alike) rfl rfl (fun w h Y => PySem.W.kIn_of Y) ?F
  case F =>
    intro w mg fa h KX G hmg
    refine' My.all_mk KX G hmg ?a_view_numbers ?l_view_numbers ?c_view_numbers ?k_view_numbers ?a_think ?l_think ?c_think ?k_think ?a_combine ?l_combine ?c_combine ?k_combine ?a_value_of ?l_value_of ?c_value_of ?k_value_of ?lT_value_of ?a_expression_code ?l_expression_code ?c_expression_code ?k_expression_code ?a_branch_code ?l_branch_code ?c_branch_code ?k_branch_code ?a_thoughts_code ?l_thoughts_code ?c_thoughts_code ?k_thoughts_code ?a_brain_code ?l_brain_code ?c_brain_code ?k_brain_code ?a_names_of ?l_names_of ?c_names_of ?k_names_of ?a_mind_of ?l_mind_of ?c_mind_of ?k_mind_of ?a_think_by_code ?l_think_by_code ?c_think_by_code ?k_think_by_code ?a_argument_fits ?l_argument_fits ?c_argument_fits ?k_argument_fits ?a_targets_of ?l_targets_of ?c_targets_of ?k_targets_of ?a_check_code ?l_check_code ?c_check_code ?k_check_code ?kd_check_code ?a_check_mind ?l_check_mind ?c_check_mind ?k_check_mind ?a_law_pool ?l_law_pool ?c_law_pool ?k_law_pool ?a_law_draw ?l_law_draw ?c_law_draw ?k_law_draw ?a_law_spend ?l_law_spend ?c_law_spend ?k_law_spend ?a_law_few ?l_law_few ?c_law_few ?k_law_few ?a_law_number ?l_law_number ?c_law_number ?k_law_number ?a_law_same ?l_law_same ?c_law_same ?k_law_same ?a_law_keys ?l_law_keys ?c_law_keys ?k_law_keys ?a_law_name ?l_law_name ?c_law_name ?k_law_name ?a_law_names ?l_law_names ?c_law_names ?k_law_names ?a_law_expression ?l_law_expression ?c_law_expression ?k_law_expression ?a_law_thoughts ?l_law_thoughts ?c_law_thoughts ?k_law_thoughts ?a_law_thought ?l_law_thought ?c_law_thought ?k_law_thought ?a_law_brain ?l_law_brain ?c_law_brain ?k_law_brain ?a_law_view ?l_law_view ?c_law_view ?k_law_view ?a_law_count ?l_law_count ?c_law_count ?k_law_count ?a_law ?l_law ?c_law ?k_law ?mc_Tape ?pg_Tape ?hd_Tape ?po_Tape ?sa_Tape ?mk_Tape ?kc_Tape ?ha_Tape ?hn_Tape ?ht_Tape ?hm_Tape ?nresults_Tape ?ntaken_Tape ?mc_Thinker ?pg_Thinker ?hd_Thinker ?po_Thinker ?sa_Thinker ?mk_Thinker ?kc_Thinker ?ha_Thinker ?hn_Thinker ?ht_Thinker ?hm_Thinker ?ntable_Thinker ?nleft_Thinker ?nseen_Thinker ?ntape_Thinker ?mc_Brain ?pg_Brain ?hd_Brain ?po_Brain ?sa_Brain ?mk_Brain ?kc_Brain ?ha_Brain ?hn_Brain ?ht_Brain ?hm_Brain ?nunits_Brain ?ncells_Brain ?nblock_Brain ?nanswer_Brain ?mc_Mind ?pg_Mind ?hd_Mind ?po_Mind ?sa_Mind ?mk_Mind ?kc_Mind ?ha_Mind ?hn_Mind ?ht_Mind ?hm_Mind ?nunits_Mind ?ncells_Mind ?ncode_Mind ?mc_Frame ?pg_Frame ?hd_Frame ?po_Frame ?sa_Frame ?mk_Frame ?kc_Frame ?ha_Frame ?hn_Frame ?ht_Frame ?hm_Frame ?ncode_Frame ?ntable_Frame ?ntape_Frame ?nat_Frame ?nstack_Frame ?nsteps_Frame ?mc_Thinking ?pg_Thinking ?hd_Thinking ?po_Thinking ?sa_Thinking ?mk_Thinking ?kc_Thinking ?ha_Thinking ?hn_Thinking ?ht_Thinking ?hm_Thinking ?ncode_Thinking ?ntable_Thinking ?ntape_Thinking ?nat_Thinking ?nstack_Thinking ?nsteps_Thinking ?nleft_Thinking ?nseen_Thinking ?nsilent_Thinking ?ndone_Thinking ?mc_Checker ?pg_Checker ?hd_Checker ?po_Checker ?sa_Checker ?mk_Checker ?kc_Checker ?ha_Checker ?hn_Checker ?ht_Checker ?hm_Checker ?ncode_Checker ?nslots_Checker ?nmoves_Checker ?nthinking_Checker ?nheights_Checker ?nhighest_Checker ?a_Tape___init ?i_Tape___init ?l_Tape___init ?c_Tape___init ?k_Tape___init ?a_Tape_take ?i_Tape_take ?l_Tape_take ?c_Tape_take ?k_Tape_take ?a_Brain___init ?i_Brain___init ?l_Brain___init ?c_Brain___init ?k_Brain___init ?a_Brain_start ?i_Brain_start ?l_Brain_start ?c_Brain_start ?k_Brain_start ?a_Mind___init ?i_Mind___init ?l_Mind___init ?c_Mind___init ?k_Mind___init ?a_Thinker___init ?i_Thinker___init ?l_Thinker___init ?c_Thinker___init ?k_Thinker___init ?a_Thinker_value ?i_Thinker_value ?l_Thinker_value ?c_Thinker_value ?k_Thinker_value ?a_Thinker_unit ?i_Thinker_unit ?l_Thinker_unit ?c_Thinker_unit ?k_Thinker_unit ?a_Thinker_run ?i_Thinker_run ?l_Thinker_run ?c_Thinker_run ?k_Thinker_run ?a_Thinker_step ?i_Thinker_step ?l_Thinker_step ?c_Thinker_step ?k_Thinker_step ?a_Thinker_loop ?i_Thinker_loop ?l_Thinker_loop ?c_Thinker_loop ?k_Thinker_loop ?a_Frame___init ?i_Frame___init ?l_Frame___init ?c_Frame___init ?k_Frame___init ?a_Frame_advance ?i_Frame_advance ?l_Frame_advance ?c_Frame_advance ?k_Frame_advance ?a_Thinking_special ?i_Thinking_special ?l_Thinking_special ?c_Thinking_special ?k_Thinking_special ?a_Checker___init ?i_Checker___init ?l_Checker___init ?c_Checker___init ?k_Checker___init ?a_Checker_reaches ?i_Checker_reaches ?l_Checker_reaches ?c_Checker_reaches ?k_Checker_reaches ?a_Checker_returns ?i_Checker_returns ?l_Checker_returns ?c_Checker_returns ?k_Checker_returns ?a_Checker_good ?i_Checker_good ?l_Checker_good ?c_Checker_good ?k_Checker_good ?a_Thinking___init ?i_Thinking___init ?l_Thinking___init ?c_Thinking___init ?k_Thinking___init ?lc_Thinking___init ?ld_Thinking___init ?vf_Thinking___init ?fe_Thinking___init ?al_Thinking___init ?mo_Thinking___init ?tfb_Thinking___init ?fib_Thinking___init ?ah_Thinking_advance ?opq ?zsup ?ptop ?xsp ?xtk ?z_GREATEST ?z_EVENTS ?lT_EVENTS ?z_SIGNS ?lT_SIGNS ?z_HIGHEST ?z_ROUND_NAMES ?lT_ROUND_NAMES ?z_BRAIN_NAMES ?lT_BRAIN_NAMES ?z_EFFECTS ?lT_EFFECTS ?kl_EFFECTS ?gp_EFFECTS_0 ?lp_EFFECTS_0 ?gp_EFFECTS_1 ?lp_EFFECTS_1 ?gp_EFFECTS_2 ?lp_EFFECTS_2 ?gp_EFFECTS_3 ?lp_EFFECTS_3 ?gp_EFFECTS_4 ?lp_EFFECTS_4 ?gp_EFFECTS_5 ?lp_EFFECTS_5 ?gp_EFFECTS_6 ?lp_EFFECTS_6 ?gp_EFFECTS_7 ?lp_EFFECTS_7 ?gp_EFFECTS_8 ?lp_EFFECTS_8 ?gp_EFFECTS_9 ?lp_EFFECTS_9 ?gp_EFFECTS_10 ?lp_EFFECTS_10 ?gp_EFFECTS_11 ?lp_EFFECTS_11 ?gp_EFFECTS_12 ?lp_EFFECTS_12 ?gp_EFFECTS_13 ?lp_EFFECTS_13 ?gp_EFFECTS_14 ?lp_EFFECTS_14 ?gp_EFFECTS_15 ?lp_EFFECTS_15 ?z_bool ?z_int ?z_isinstance ?z_len ?z_list ?z_max ?z_min ?z_range ?z_str ?z_tuple ?z_zip
    (case a_view_numbers => k_is)
    (case l_view_numbers => k_is)
    (case c_view_numbers => k_is)
    (case k_view_numbers => k_is)
    (case a_think => k_is)
    (case l_think => k_is)
    (case c_think => k_is)
    (case k_think => k_is)
    (case a_combine => k_is)
    (case l_combine => k_is)
    (case c_combine => k_is)
    (case k_combine => k_is)
    (case a_value_of => k_is)
    (case l_value_of => k_is)
    (case c_value_of => k_is)
    (case k_value_of => k_is)
    (case lT_value_of => k_is)
    (case a_expression_code => k_is)
    (case l_expression_code => k_is)
    (case c_expression_code => k_is)
    (case k_expression_code => k_is)
    (case a_branch_code => k_is)
    (case l_branch_code => k_is)
    (case c_branch_code => k_is)
    (case k_branch_code => k_is)
    (case a_thoughts_code => k_is)
    (case l_thoughts_code => k_is)
    (case c_thoughts_code => k_is)
    (case k_thoughts_code => k_is)
    (case a_brain_code => k_is)
    (case l_brain_code => k_is)
    (case c_brain_code => k_is)
    (case k_brain_code => k_is)
    (case a_names_of => k_is)
    (case l_names_of => k_is)
    (case c_names_of => k_is)
    (case k_names_of => k_is)
    (case a_mind_of => k_is)
    (case l_mind_of => k_is)
    (case c_mind_of => k_is)
    (case k_mind_of => k_is)
    (case a_think_by_code => k_is)
    (case l_think_by_code => k_is)
    (case c_think_by_code => k_is)
    (case k_think_by_code => k_is)
    (case a_argument_fits => k_is)
    (case l_argument_fits => k_is)
    (case c_argument_fits => k_is)
    (case k_argument_fits => k_is)
    (case a_targets_of => k_is)
    (case l_targets_of => k_is)
    (case c_targets_of => k_is)
    (case k_targets_of => k_is)
    (case a_check_code => k_is)
    (case l_check_code => k_is)
    (case c_check_code => k_is)
    (case k_check_code => k_is)
    (case kd_check_code => k_is)
    (case a_check_mind => k_is)
    (case l_check_mind => k_is)
    (case c_check_mind => k_is)
    (case k_check_mind => k_is)
    (case a_law_pool => k_is)
    (case l_law_pool => k_is)
    (case c_law_pool => k_is)
    (case k_law_pool => k_is)
    (case a_law_draw => k_is)
    (case l_law_draw => k_is)
    (case c_law_draw => k_is)
    (case k_law_draw => k_is)
    (case a_law_spend => k_is)
    (case l_law_spend => k_is)
    (case c_law_spend => k_is)
    (case k_law_spend => k_is)
    (case a_law_few => k_is)
    (case l_law_few => k_is)
    (case c_law_few => k_is)
    (case k_law_few => k_is)
    (case a_law_number => k_is)
    (case l_law_number => k_is)
    (case c_law_number => k_is)
    (case k_law_number => k_is)
    (case a_law_same => k_is)
    (case l_law_same => k_is)
    (case c_law_same => k_is)
    (case k_law_same => k_is)
    (case a_law_keys => k_is)
    (case l_law_keys => k_is)
    (case c_law_keys => k_is)
    (case k_law_keys => k_is)
    (case a_law_name => k_is)
    (case l_law_name => k_is)
    (case c_law_name => k_is)
    (case k_law_name => k_is)
    (case a_law_names => k_is)
    (case l_law_names => k_is)
    (case c_law_names => k_is)
    (case k_law_names => k_is)
    (case a_law_expression => k_is)
    (case l_law_expression => k_is)
    (case c_law_expression => k_is)
    (case k_law_expression => k_is)
    (case a_law_thoughts => k_is)
    (case l_law_thoughts => k_is)
    (case c_law_thoughts => k_is)
    (case k_law_thoughts => k_is)
    (case a_law_thought => k_is)
    (case l_law_thought => k_is)
    (case c_law_thought => k_is)
    (case k_law_thought => k_is)
    (case a_law_brain => k_is)
    (case l_law_brain => k_is)
    (case c_law_brain => k_is)
    (case k_law_brain => k_is)
    (case a_law_view => k_is)
    (case l_law_view => k_is)
    (case c_law_view => k_is)
    (case k_law_view => k_is)
    (case a_law_count => k_is)
    (case l_law_count => k_is)
    (case c_law_count => k_is)
    (case k_law_count => k_is)
    (case a_law => k_is)
    (case l_law => k_is)
    (case c_law => k_is)
    (case k_law => k_is)
    (case mc_Tape => k_is)
    (case pg_Tape => k_is)
    (case hd_Tape => k_is)
    (case po_Tape => k_is)
    (case sa_Tape => k_is)
    (case mk_Tape => k_is)
    (case kc_Tape => k_is)
    (case ha_Tape => k_is)
    (case hn_Tape => k_is)
    (case ht_Tape => k_is)
    (case hm_Tape => k_is)
    (case nresults_Tape => k_is)
    (case ntaken_Tape => k_is)
    (case mc_Thinker => k_is)
    (case pg_Thinker => k_is)
    (case hd_Thinker => k_is)
    (case po_Thinker => k_is)
    (case sa_Thinker => k_is)
    (case mk_Thinker => k_is)
    (case kc_Thinker => k_is)
    (case ha_Thinker => k_is)
    (case hn_Thinker => k_is)
    (case ht_Thinker => k_is)
    (case hm_Thinker => k_is)
    (case ntable_Thinker => k_is)
    (case nleft_Thinker => k_is)
    (case nseen_Thinker => k_is)
    (case ntape_Thinker => k_is)
    (case mc_Brain => k_is)
    (case pg_Brain => k_is)
    (case hd_Brain => k_is)
    (case po_Brain => k_is)
    (case sa_Brain => k_is)
    (case mk_Brain => k_is)
    (case kc_Brain => k_is)
    (case ha_Brain => k_is)
    (case hn_Brain => k_is)
    (case ht_Brain => k_is)
    (case hm_Brain => k_is)
    (case nunits_Brain => k_is)
    (case ncells_Brain => k_is)
    (case nblock_Brain => k_is)
    (case nanswer_Brain => k_is)
    (case mc_Mind => k_is)
    (case pg_Mind => k_is)
    (case hd_Mind => k_is)
    (case po_Mind => k_is)
    (case sa_Mind => k_is)
    (case mk_Mind => k_is)
    (case kc_Mind => k_is)
    (case ha_Mind => k_is)
    (case hn_Mind => k_is)
    (case ht_Mind => k_is)
    (case hm_Mind => k_is)
    (case nunits_Mind => k_is)
    (case ncells_Mind => k_is)
    (case ncode_Mind => k_is)
    (case mc_Frame => k_is)
    (case pg_Frame => k_is)
    (case hd_Frame => k_is)
    (case po_Frame => k_is)
    (case sa_Frame => k_is)
    (case mk_Frame => k_is)
    (case kc_Frame => k_is)
    (case ha_Frame => k_is)
    (case hn_Frame => k_is)
    (case ht_Frame => k_is)
    (case hm_Frame => k_is)
    (case ncode_Frame => k_is)
    (case ntable_Frame => k_is)
    (case ntape_Frame => k_is)
    (case nat_Frame => k_is)
    (case nstack_Frame => k_is)
    (case nsteps_Frame => k_is)
    (case mc_Thinking => k_is)
    (case pg_Thinking => k_is)
    (case hd_Thinking => k_is)
    (case po_Thinking => k_is)
    (case sa_Thinking => k_is)
    (case mk_Thinking => k_is)
    (case kc_Thinking => k_is)
    (case ha_Thinking => k_is)
    (case hn_Thinking => k_is)
    (case ht_Thinking => k_is)
    (case hm_Thinking => k_is)
    (case ncode_Thinking => k_is)
    (case ntable_Thinking => k_is)
    (case ntape_Thinking => k_is)
    (case nat_Thinking => k_is)
    (case nstack_Thinking => k_is)
    (case nsteps_Thinking => k_is)
    (case nleft_Thinking => k_is)
    (case nseen_Thinking => k_is)
    (case nsilent_Thinking => k_is)
    (case ndone_Thinking => k_is)
    (case mc_Checker => k_is)
    (case pg_Checker => k_is)
    (case hd_Checker => k_is)
    (case po_Checker => k_is)
    (case sa_Checker => k_is)
    (case mk_Checker => k_is)
    (case kc_Checker => k_is)
    (case ha_Checker => k_is)
    (case hn_Checker => k_is)
    (case ht_Checker => k_is)
    (case hm_Checker => k_is)
    (case ncode_Checker => k_is)
    (case nslots_Checker => k_is)
    (case nmoves_Checker => k_is)
    (case nthinking_Checker => k_is)
    (case nheights_Checker => k_is)
    (case nhighest_Checker => k_is)
    (case a_Tape___init => k_is)
    (case i_Tape___init => k_is)
    (case l_Tape___init => k_is)
    (case c_Tape___init => k_is)
    (case k_Tape___init => k_is)
    (case a_Tape_take => k_is)
    (case i_Tape_take => k_is)
    (case l_Tape_take => k_is)
    (case c_Tape_take => k_is)
    (case k_Tape_take => k_is)
    (case a_Brain___init => k_is)
    (case i_Brain___init => k_is)
    (case l_Brain___init => k_is)
    (case c_Brain___init => k_is)
    (case k_Brain___init => k_is)
    (case a_Brain_start => k_is)
    (case i_Brain_start => k_is)
    (case l_Brain_start => k_is)
    (case c_Brain_start => k_is)
    (case k_Brain_start => k_is)
    (case a_Mind___init => k_is)
    (case i_Mind___init => k_is)
    (case l_Mind___init => k_is)
    (case c_Mind___init => k_is)
    (case k_Mind___init => k_is)
    (case a_Thinker___init => k_is)
    (case i_Thinker___init => k_is)
    (case l_Thinker___init => k_is)
    (case c_Thinker___init => k_is)
    (case k_Thinker___init => k_is)
    (case a_Thinker_value => k_is)
    (case i_Thinker_value => k_is)
    (case l_Thinker_value => k_is)
    (case c_Thinker_value => k_is)
    (case k_Thinker_value => k_is)
    (case a_Thinker_unit => k_is)
    (case i_Thinker_unit => k_is)
    (case l_Thinker_unit => k_is)
    (case c_Thinker_unit => k_is)
    (case k_Thinker_unit => k_is)
    (case a_Thinker_run => k_is)
    (case i_Thinker_run => k_is)
    (case l_Thinker_run => k_is)
    (case c_Thinker_run => k_is)
    (case k_Thinker_run => k_is)
    (case a_Thinker_step => k_is)
    (case i_Thinker_step => k_is)
    (case l_Thinker_step => k_is)
    (case c_Thinker_step => k_is)
    (case k_Thinker_step => k_is)
    (case a_Thinker_loop => k_is)
    (case i_Thinker_loop => k_is)
    (case l_Thinker_loop => k_is)
    (case c_Thinker_loop => k_is)
    (case k_Thinker_loop => k_is)
    (case a_Frame___init => k_is)
    (case i_Frame___init => k_is)
    (case l_Frame___init => k_is)
    (case c_Frame___init => k_is)
    (case k_Frame___init => k_is)
    (case a_Frame_advance => k_is)
    (case i_Frame_advance => k_is)
    (case l_Frame_advance => k_is)
    (case c_Frame_advance => k_is)
    (case k_Frame_advance => k_is)
    (case a_Thinking_special => k_is)
    (case i_Thinking_special => k_is)
    (case l_Thinking_special => k_is)
    (case c_Thinking_special => k_is)
    (case k_Thinking_special => k_is)
    (case a_Checker___init => k_is)
    (case i_Checker___init => k_is)
    (case l_Checker___init => k_is)
    (case c_Checker___init => k_is)
    (case k_Checker___init => k_is)
    (case a_Checker_reaches => k_is)
    (case i_Checker_reaches => k_is)
    (case l_Checker_reaches => k_is)
    (case c_Checker_reaches => k_is)
    (case k_Checker_reaches => k_is)
    (case a_Checker_returns => k_is)
    (case i_Checker_returns => k_is)
    (case l_Checker_returns => k_is)
    (case c_Checker_returns => k_is)
    (case k_Checker_returns => k_is)
    (case a_Checker_good => k_is)
    (case i_Checker_good => k_is)
    (case l_Checker_good => k_is)
    (case c_Checker_good => k_is)
    (case k_Checker_good => k_is)
    (case a_Thinking___init => k_is)
    (case i_Thinking___init => k_is)
    (case l_Thinking___init => k_is)
    (case c_Thinking___init => k_is)
    (case k_Thinking___init => k_is)
    (case lc_Thinking___init => k_is)
    (case ld_Thinking___init => k_is)
    (case vf_Thinking___init => first | k_is | rfl | decide +kernel)
    (case fe_Thinking___init => first | k_is | rfl | decide +kernel)
    (case al_Thinking___init => first | k_is | rfl | decide +kernel)
    (case mo_Thinking___init => k_is)
    (case tfb_Thinking___init => first | k_is | rfl | decide +kernel)
    (case fib_Thinking___init => first | k_is | rfl | decide +kernel)
    (case ah_Thinking_advance => k_is)
    (case opq => first | k_is | rfl | decide +kernel)
    (case zsup => k_is)
    (case ptop => first | k_is | rfl | decide +kernel)
    (case xsp => k_is)
    (case xtk => k_is)
    (case z_GREATEST => k_is)
    (case z_EVENTS => k_is)
    (case lT_EVENTS => k_is)
    (case z_SIGNS => k_is)
    (case lT_SIGNS => k_is)
    (case z_HIGHEST => k_is)
    (case z_ROUND_NAMES => k_is)
    (case lT_ROUND_NAMES => k_is)
    (case z_BRAIN_NAMES => k_is)
    (case lT_BRAIN_NAMES => k_is)
    (case z_EFFECTS => k_is)
    (case lT_EFFECTS => k_is)
    (case kl_EFFECTS => exact ⟨⟨_, _, rfl, rfl⟩, ⟨_, _, rfl, rfl⟩, ⟨_, _, rfl, rfl⟩, ⟨_, _, rfl, rfl⟩, ⟨_, _, rfl, rfl⟩, ⟨_, _, rfl, rfl⟩, ⟨_, _, rfl, rfl⟩, ⟨_, _, rfl, rfl⟩, ⟨_, _, rfl, rfl⟩, ⟨_, _, rfl, rfl⟩, ⟨_, _, rfl, rfl⟩, ⟨_, _, rfl, rfl⟩, ⟨_, _, rfl, rfl⟩, ⟨_, _, rfl, rfl⟩, ⟨_, _, rfl, rfl⟩, ⟨_, _, rfl, rfl⟩, trivial⟩)
    (case gp_EFFECTS_0 => k_is)
    (case lp_EFFECTS_0 => k_is)
    (case gp_EFFECTS_1 => k_is)
    (case lp_EFFECTS_1 => k_is)
    (case gp_EFFECTS_2 => k_is)
    (case lp_EFFECTS_2 => k_is)
    (case gp_EFFECTS_3 => k_is)
    (case lp_EFFECTS_3 => k_is)
    (case gp_EFFECTS_4 => k_is)
    (case lp_EFFECTS_4 => k_is)
    (case gp_EFFECTS_5 => k_is)
    (case lp_EFFECTS_5 => k_is)
    (case gp_EFFECTS_6 => k_is)
    (case lp_EFFECTS_6 => k_is)
    (case gp_EFFECTS_7 => k_is)
    (case lp_EFFECTS_7 => k_is)
    (case gp_EFFECTS_8 => k_is)
    (case lp_EFFECTS_8 => k_is)
    (case gp_EFFECTS_9 => k_is)
    (case lp_EFFECTS_9 => k_is)
    (case gp_EFFECTS_10 => k_is)
    (case lp_EFFECTS_10 => k_is)
    (case gp_EFFECTS_11 => k_is)
    (case lp_EFFECTS_11 => k_is)
    (case gp_EFFECTS_12 => k_is)
    (case lp_EFFECTS_12 => k_is)
    (case gp_EFFECTS_13 => k_is)
    (case lp_EFFECTS_13 => k_is)
    (case gp_EFFECTS_14 => k_is)
    (case lp_EFFECTS_14 => k_is)
    (case gp_EFFECTS_15 => k_is)
    (case lp_EFFECTS_15 => k_is)
    (case z_bool => k_is)
    (case z_int => k_is)
    (case z_isinstance => k_is)
    (case z_len => k_is)
    (case z_list => k_is)
    (case z_max => k_is)
    (case z_min => k_is)
    (case z_range => k_is)
    (case z_str => k_is)
    (case z_tuple => k_is)
    (case z_zip => k_is)

