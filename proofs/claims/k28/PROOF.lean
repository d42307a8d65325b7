
import PyProof.Rows.All
import Wide.All
import OpenK.AllK
import Wide.FinOn
import HandS.ForMost
import HandS.Codes
import HandS.IsInst
import HandS.EndBits
import HandS.Walk
import HandS.DeepEq
import HandS.Gcd
import HandS.Wide
import HandS.Defaults
import HandS.OwnEq
import HandS.Dict
import HandS.WordsDict
import HandS.Star
import HandS.Strs
import HandS.RaiseMore
import HandS.More
import HandS.Iter
import HandS.Zip
import HandS.Style
import HandS.Star
import KE.KSuper
import KE.KSuperObj
import KE.KExcSuper
import PySem.Challenge.RW_bothgain_k28_long_loops_of_brains
set_option Elab.async false
set_option linter.all false
set_option maxRecDepth 100000
set_option maxHeartbeats 4000000
set_option pp.maxSteps 400

namespace My
open PySem L2 C8 SX
/-! own base: tests, heaps -/
theorem bo_len : bootBuiltins "len" = some (.builtin "len") := by decide +kernel
theorem bo_isinstance : bootBuiltins "isinstance" = some (.builtin "isinstance") := by decide +kernel
theorem bo_min : bootBuiltins "min" = some (.builtin "min") := by decide +kernel
theorem bo_max : bootBuiltins "max" = some (.builtin "max") := by decide +kernel
theorem bo_abs : bootBuiltins "abs" = some (.builtin "abs") := by decide +kernel
theorem bo_int : bootBuiltins "int" = some (.type "int") := by decide +kernel
theorem bo_str : bootBuiltins "str" = some (.type "str") := by decide +kernel
theorem bo_bool : bootBuiltins "bool" = some (.type "bool") := by decide +kernel
theorem bo_list : bootBuiltins "list" = some (.type "list") := by decide +kernel
theorem bo_ord : bootBuiltins "ord" = some (.builtin "ord") := by decide +kernel
theorem bo_chr : bootBuiltins "chr" = some (.builtin "chr") := by decide +kernel
theorem bo_sum : bootBuiltins "sum" = some (.builtin "sum") := by decide +kernel
theorem bo_all : bootBuiltins "all" = some (.builtin "all") := by decide +kernel
theorem bo_any : bootBuiltins "any" = some (.builtin "any") := by decide +kernel
theorem bo_sorted : bootBuiltins "sorted" = some (.builtin "sorted") := by decide +kernel
theorem bo_dict : bootBuiltins "dict" = some (.type "dict") := by decide +kernel
theorem bo_tuple : bootBuiltins "tuple" = some (.type "tuple") := by decide +kernel
theorem iteD {p A B : Prop} [Decidable p] (h1 : p → A) (h2 : ¬ p → B) : if decide p = true then A else B := by
  by_cases h : p
  · rw [decide_eq_true h]; exact iteT (h1 h)
  · rw [decide_eq_false h]; exact iteF (h2 h)
theorem iteN {p A B : Prop} [Decidable p] (h1 : ¬ p → A) (h2 : p → B) : if (!decide p) = true then A else B := by
  by_cases h : p
  · rw [decide_eq_true h]; exact iteF (h2 h)
  · rw [decide_eq_false h]; exact iteT (h1 h)
theorem iteDT {p A B : Prop} [Decidable p] (h : p) (k : A) : if decide p = true then A else B := iteD (fun _ => k) fun z => absurd h z
theorem iteDF {p A B : Prop} [Decidable p] (h : ¬ p) (k : B) : if decide p = true then A else B := iteD (fun z => absurd z h) fun _ => k
theorem iteNT {p A B : Prop} [Decidable p] (h : ¬ p) (k : A) : if (!decide p) = true then A else B := iteN (fun _ => k) fun z => absurd z h
theorem iteNF {p A B : Prop} [Decidable p] (h : p) (k : B) : if (!decide p) = true then A else B := iteN (fun z => absurd h z) fun _ => k
theorem iteB {b : Bool} {A B : Prop} (h1 : b = true → A) (h2 : b = false → B) : if b = true then A else B := by
  cases b with
  | true => exact iteT (h1 rfl)
  | false => exact iteF (h2 rfl)
/-- in a comprehension without a test -/
theorem yes_then {σ : St} {H : Hp} {F G : Hp → Prop} (h : F H) : tYes σ H (fun b H3 => if b = true then F H3 else G H3) := h
/-- all that was tracked stands, but at W -/
def Keep (W : List Addr) (H H' : Hp) : Prop := ∀ b o, H b = some o → b ∉ W → H' b = some o
theorem Keep.refl (W : List Addr) (H : Hp) : Keep W H H := fun _ _ h _ => h
theorem Keep.trans {W : List Addr} {H H1 H2 : Hp} (a : Keep W H H1) (b : Keep W H1 H2) : Keep W H H2 := fun c o h w => b c o (a c o h w) w
theorem Keep.mono {W W' : List Addr} {H H1 : Hp} (a : Keep W H H1) (h : ∀ b, b ∈ W → b ∈ W') : Keep W' H H1 := fun c o q w => a c o q fun z => w (h c z)
theorem Keep.new {W : List Addr} {H : Hp} {p : Addr} {o : HO} (h : H p = none) : Keep W H (upd H p o) := fun b u q _ => by
  rw [upd_ne (ne_of_none q h)]; exact q
theorem Keep.at_ {W : List Addr} {H : Hp} {p : Addr} {o : HO} (h : p ∈ W) : Keep W H (upd H p o) := fun b u q w => by
  rw [upd_ne (fun z => w (by rw [z]; exact h))]; exact q
theorem Keep.then_new {W : List Addr} {H H1 : Hp} {p : Addr} {o : HO} (a : Keep W H H1) (h : H1 p = none) : Keep W H (upd H1 p o) := a.trans (Keep.new h)
theorem Keep.then_at {W : List Addr} {H H1 : Hp} {p : Addr} {o : HO} (a : Keep W H H1) (h : p ∈ W) : Keep W H (upd H1 p o) := a.trans (Keep.at_ h)
/-- what was new since H is not among the kept -/
theorem Keep.then_own {W : List Addr} {H H1 : Hp} {p : Addr} {o : HO} (a : Keep W H H1) (h : H p = none) : Keep W H (upd H1 p o) := fun b u q w => by
  rw [upd_ne (ne_of_none q h)]; exact a b u q w
theorem Keep.free {H H' : Hp} (e : Keep [] H H') {l : Addr} (h : H' l = none) : H l = none := by
  cases q : H l with
  | none => rfl
  | some o => rw [e l o q (by simp)] at h; cases h
theorem Keep.free1 {H H' : Hp} {p : Addr} {o : HO} (e : Keep [p] H H') (hp : H' p = some o) {l : Addr} (h : H' l = none) : H l = none := by
  cases q : H l with
  | none => rfl
  | some u =>
    by_cases z : l = p
    · subst z; rw [hp] at h; cases h
    · rw [e l u q (by simpa using z)] at h; cases h
theorem Keep.seqL {W : List Addr} {K : PySem.W.Frag} {H H' : Hp} {a : Addr} {xs : List V} (e : Keep W H H') (h : SqL K H a xs) (w : a ∉ W) : SqL K H' a xs := by
  rcases h with (h | ⟨o, h⟩) | h
  · exact .inl (.inl (e _ _ h w))
  · exact .inl (.inr ⟨o, e _ _ h w⟩)
  · exact .inr h
theorem Keep.seqT {W : List Addr} {K : PySem.W.Frag} {H H' : Hp} {a : Addr} {xs : List V} (e : Keep W H H') (h : SqT K H a xs) (w : a ∉ W) : SqT K H' a xs := by
  rcases h with (h | ⟨o, h⟩) | h
  · exact .inl (.inl (e _ _ h w))
  · exact .inl (.inr ⟨o, e _ _ h w⟩)
  · exact .inr h
theorem Keep.same {H H' : Hp} (e : Keep [] H H') : Same H H' := fun b o h => e b o h (by simp)
theorem ints_get {ns : List Int} {i : Nat} {v : V} (h : (ns.map V.int)[i]? = some v) : ∃ z, ns[i]? = some z ∧ v = V.int z := by
  rw [List.getElem?_map] at h
  cases e : ns[i]? with
  | none => rw [e] at h; cases h
  | some z => rw [e] at h; exact ⟨z, rfl, (Option.some.inj h).symm⟩
theorem strs_get {ns : List Str} {i : Nat} {v : V} (h : (ns.map V.str)[i]? = some v) : ∃ z, ns[i]? = some z ∧ v = V.str z := by
  rw [List.getElem?_map] at h
  cases e : ns[i]? with
  | none => rw [e] at h; cases h
  | some z => rw [e] at h; exact ⟨z, rfl, (Option.some.inj h).symm⟩
theorem smallM {n : Nat} (h : n ≤ 1000000) : n ≤ sizeLine := Nat.le_trans h (by decide)
theorem smallL {n : Nat} (h : n ≤ 1000000) : n < sizeLine := Nat.lt_of_le_of_lt h (by decide)
/-- a promise that asks the impossible: any def at all keeps it -/
def spNo : Sp := fun _ _ _ _ => False
/-! the same rules with the written part named (within a comprehension) -/
section
variable {X : Cx} {K : PySem.W.Frag}
theorem pe_fldK {e : Expr} {f : Str} {pos : Pos} {ta : TE} (he : PE X e ta) (hb : attributeBase e f X.env (eval e X.env) = eval e X.env) (hK : X.K = K := by rfl) : PE X (.Attribute e f pos) (tFld K ta f) := hK ▸ pe_fld he hb
theorem ix_listK (hK : X.K = K := by rfl) : IxR X (rIxL K) := hK ▸ ix_list
theorem ix_tupK (hK : X.K = K := by rfl) : IxR X (rIxT K) := hK ▸ ix_tup
theorem sl_listK (hK : X.K = K := by rfl) : SlR X (rSlL K) := hK ▸ sl_list
theorem sl_tupK (hK : X.K = K := by rfl) : SlR X (rSlT K) := hK ▸ sl_tup
theorem call_len_seqK (hK : X.K = K := by rfl) : CallR X (.builtin "len") (fun xs H Q => ∃ p ys, xs = [.ref p] ∧ (SqL K H p ys ∨ SqT K H p ys) ∧ Q (.int ys.length) H) := hK ▸ call_len_seq
theorem call_list_ofK (hK : X.K = K := by rfl) : CallR X (.type "list") (fun xs H Q => ∃ p ys, xs = [.ref p] ∧ (SqL K H p ys ∨ SqT K H p ys) ∧ ∀ l, H l = none → Q (.ref l) (upd H l (.lst ys))) := hK ▸ call_list_of
theorem call_isiK2 (hK : X.K = K := by rfl) : CallR X (.builtin "isinstance") (rIsi K) := hK ▸ call_isi
end
/-- behind the making of an instance -/
theorem keep_made {H H2 : Hp} {x dx : Addr} {o : HO} (hx : H x = none) (hd : H dx = none) (k : Keep [x] (upd (upd H dx (.own x)) x o) H2) : Keep [] H H2 := fun b u e _ =>
  k b u (by rw [upd_ne (ne_of_none e hx), upd_ne (ne_of_none e hd)]; exact e) (by simpa using ne_of_none e hx)
theorem kitSelf {K : PySem.W.Frag} {C : Addr} : PySem.W.kitOne K (.ref C) (.ref C) = some true := by
  unfold PySem.W.kitOne
  simp
/-- a call without arguments -/
theorem pe_c0 {X : Cx} {x : Str} {p pos : Pos} {k j : Nat} {sp : Sp} {dvs : List V} (c : C8.Cal X.prog X.w X.K X.mg X.base k x sp dvs) (hr : Room j X.A) (hk : k ≤ j) (hg : Gl X x) (hdb : (x == ("__debug__" : Str)) = false := by decide) :
    PE X (.Call (.Name x p) [] [] pos) (tCall sp dvs C8.E0 tNil) := by
  obtain ⟨f, fd, ps, ds, F, hm, kp, b, d⟩ := c.ex
  exact pe_call0 F (hr.mono hk) hg hm kp b d C8.pass0 hdb

/-! an own __init__ that begins with super().__init__(..): by its body -/
section
open PySem PySem.W PyProof.Rows L2 C8
theorem one_lookup {x a : Str} {c d : Addr} (h : List.lookup x [(a, d)] = some c) : x = a ∧ c = d := by
  by_cases e : x = a
  · subst e
    simp [List.lookup] at h
    exact ⟨rfl, h.symm⟩
  · have : (x == a) = false := by simpa using e
    simp [List.lookup, this] at h
theorem lookup_nd {α : Type} {x : Str} {v : α} : ∀ {l : List (Str × α)}, (l.map (·.1)).Nodup → (x, v) ∈ l → l.lookup x = some v
  | [], _, h => by cases h
  | (y, u) :: l, nd, h => by
    rw [List.map_cons, List.nodup_cons] at nd
    rcases List.mem_cons.mp h with e | h
    · cases e; simp [List.lookup]
    · have ne : x ≠ y := fun z => nd.1 (z ▸ List.mem_map_of_mem (f := (·.1)) h)
      have : (x == y) = false := by simpa using ne
      rw [List.lookup, this]
      exact lookup_nd nd.2 h
/-- a look at the scope: no cell of its own, nothing free but the class -/
structure SScope (N P : List Str) (sc : Scope) : Prop where
  kind : sc.kind = .function
  co : sc.isCoroutine = false
  gen : sc.isGenerator = false
  nd : N.Nodup
  pre : N.take P.length = P
  par : ∀ x ∈ P, sc.names.lookup x = some .local
  nocell : ∀ y ∈ sc.names, y.2 ≠ .cell
  free : ∀ y ∈ sc.names, y.2 = .free → y.1 = "__class__"
def ssC (N P : List Str) (sc : Scope) : Bool :=
  decide (sc.kind = .function) && !sc.isCoroutine && !sc.isGenerator && decide N.Nodup && decide (N.take P.length = P) && P.all (fun x => decide (sc.names.lookup x = some .local)) && sc.names.all (fun y => !decide (y.2 = .cell)) && sc.names.all (fun y => !decide (y.2 = .free) || decide (y.1 = "__class__"))
theorem sScope_by {N P : List Str} {sc : Scope} (h : ssC N P sc = true) : SScope N P sc := by
  unfold ssC at h
  simp only [Bool.and_eq_true, Bool.not_eq_true', decide_eq_true_eq, List.all_eq_true, decide_eq_false_iff_not, Bool.or_eq_true] at h
  obtain ⟨⟨⟨⟨⟨⟨⟨h1, h2⟩, h3⟩, h4⟩, h5⟩, h6⟩, h7⟩, h8⟩ := h
  exact ⟨h1, h2, h3, h4, h5, fun x hx => h6 x hx, fun y hy => h7 y hy, fun y hy hf => (h8 y hy).elim (fun z => absurd hf z) id⟩
def cxS (P : Program) (w : World) (K : PySem.W.Frag) (mg : Str → Option Value) (base : Heap) (N : List Str) (qual : Str) (scope : Scope) (f : Addr) (cd : Value) (cc : Addr) (A : Around) (outer : List Env) (s : Shared) (H : Hp) : Cx where
  prog := P
  w := w
  K := K
  mg := mg
  base := base
  A := A.deeper (ksEnv qual scope s.heap.objs.size f cd cc)
  N := N
  s_0 := s
  H_0 := H
  env := ksEnv qual scope s.heap.objs.size f cd cc
  outer := outer
  stack := ksEnv qual scope s.heap.objs.size f cd cc :: outer
  ex := []
  calm := true
  fn := fun _ => false
  pn := []
  xe := fun _ _ => False
theorem inv_startS {P : Program} {w : World} {K : PySem.W.Frag} {mg : Str → Option Value} {base : Heap} {N ps : List Str} {qual : Str} {scope : Scope} {f : Addr} {cd : Value} {cc : Addr} {oc : Obj} {cv : Option Value} {A : Around} {outer : List Env} {s : Shared} {h1 : Heap} {t : Nat} {H : Hp} {us : List Value} {vs : List V}
    (S : SScope N ps scope) (hd : A.handled = none) (e0 : Env0 P w K mg base A outer s H) (hl : vs.length = ps.length) (r : Vals vs us) (hcc : K.lookup cc = some oc) (hoc : oc.data = .cell cv)
    (hns : h1.Ns s.heap.objs.size fun x => (ps.zip us).reverse.lookup x) (hk : ∀ b o, s.heap.get? b = some o → h1.get? b = some o) :
    Inv (cxS P w K mg base N qual scope f cd cc A outer s H) [] (L2.start N vs) H { s with heap := h1, toks := t } := by
  have hpl : ps.length ≤ N.length := by have := congrArg List.length S.pre; rw [List.length_take] at this; omega
  have hcb := e0.mod.kin _ _ hcc
  have hcs := (e0.bs _ _ hcb).1
  have hlt : cc < s.heap.objs.size := Heap.lt_size hcs
  have noA : ∀ b : Addr, b ∉ (cxS P w K mg base N qual scope f cd cc A outer s H).ex := fun b z => absurd (show b ∈ ([] : List Addr) from z) (by simp)
  have cl : ∀ {y : Str} {c : Addr}, (cxS P w K mg base N qual scope f cd cc A outer s H).env.cells.lookup y = some c → y = "__class__" ∧ c = cc := fun h => one_lookup h
  refine ⟨⟨e0.mod, S.kind, rfl, rfl, Nat.le_refl _, fun y z c h1 h2 => (cl h1).1.trans (cl h2).1.symm, fun y hy => ?_, (fun y c h _ => by cases h), fun _ => hd, Around.frames_deeper e0.frames, .inr ⟨rfl, rfl⟩, fun b z => absurd z (noA b), e0.bs, e0.bsz, fun b _ _ => noA b, fun b z => absurd z (noA b), e0.funs, e0.frf⟩,
    rfl, e0.bare, Un.kept hk, ⟨_, hns, fun i y v g1 g2 g3 => ?_⟩, fun y c h => ?_, e0.hok.fresh (Nat.le_refl _), fun y c h => ?_, fun p hp => absurd (show p ∈ ([] : List (Addr × Obj)) from hp) (by simp), e0.hok.kept hk, ?_⟩
  · have hy : scope.names.lookup y = some .cell ∨ scope.names.lookup y = some .free := hy
    rcases hy with hy | hy
    · exact absurd rfl (S.nocell _ (PySem.mem_of_lookup hy))
    · have e : y = "__class__" := S.free _ (PySem.mem_of_lookup hy) rfl
      subst e
      exact ⟨cc, by show List.lookup _ [(("__class__" : Str), cc)] = _; simp [List.lookup]⟩
  · have hi : i < vs.length := by
      unfold L2.start at g2
      by_cases hi : i < vs.length
      · exact hi
      · rw [List.getElem?_append_right (by simpa using hi)] at g2
        rw [List.getElem?_replicate] at g2
        split at g2 <;> cases g2
    have ha : vs[i]? = some v := by
      unfold L2.start at g2
      rw [List.getElem?_append_left (by simpa using hi), List.getElem?_map] at g2
      cases e : vs[i]? with
      | none => rw [e] at g2; cases g2
      | some a => rw [e] at g2; cases g2; rfl
    obtain ⟨u, hu, rv⟩ := r.get ha
    have hp : ps[i]? = some y := by
      rw [← S.pre, List.getElem?_take_of_lt (by omega)]; exact g1
    have ndP : ps.Nodup := by rw [← S.pre]; exact S.nd.sublist (List.take_sublist _ _)
    have ul : us.length = ps.length := by rw [← r.length]; exact hl
    have hz : (ps.zip us)[i]? = some (y, u) := by rw [List.getElem?_zip_eq_some]; exact ⟨hp, hu⟩
    refine ⟨u, rv, .inl ⟨S.par y (List.mem_of_getElem? hp), lookup_nd ?_ (List.mem_reverse.mpr (List.mem_of_getElem? hz))⟩⟩
    rw [List.map_reverse]
    refine (List.Perm.nodup_iff (List.reverse_perm _)).mpr ?_
    rw [List.map_fst_zip (by omega)]
    exact ndP
  · obtain ⟨_, rfl⟩ := cl h
    exact ⟨cv, oc, hk _ _ hcs, hoc⟩
  · obtain ⟨_, rfl⟩ := cl h
    exact (e0.bs _ _ hcb).2
  · unfold L2.start
    show _ = N.length
    rw [List.length_append, List.length_map, List.length_replicate]
    omega
end
section
open PySem PySem.W PyProof.Rows L2 C8 PySem.Calls
/-- such a def in the written part: it closes over its class at D alone; fI = its address -/
structure FunS (P : Program) (K : PySem.W.Frag) (qual : Str) (st : Stmt) (fI : Addr) (fd : FuncData) (D : Addr) : Prop where
  ex : ∃ (oc : Value) (od : Option Addr) (kV doc pm : Value) (an : Option Addr) (cda : Addr) (ct : Value) (osl : Array (Option Value)) (cc : Addr) (cl : Value) (cld : Option Addr) (csl : Array (Option Value)) (ccl : Value) (cdd : Option Addr) (vs : Array Value) (ccs : Array (Option Value)) (file : Str) (tf : Tok),
    fd = fnX "__init__" qual (fnArgs st) (fnBody st) (fnScope st) [("__class__", cc)] .none kV doc pm an (.ref cda) ct ∧
    K.lookup fI = some ⟨oc, od, .func fd, osl⟩ ∧ codeIn K (.ref cda) qual = true ∧
    K.lookup cc = some ⟨cl, cld, .cell (some (.ref D)), csl⟩ ∧ K.lookup cda = some ⟨ccl, cdd, .fields vs, ccs⟩ ∧ vs[2]? = some (.str file tf) ∧ ((P.main.file : Str) == file) = true
theorem FunS.binds {P : Program} {K : PySem.W.Frag} {qual : Str} {st : Stmt} {fI D : Addr} {fd : FuncData} (F : FunS P K qual st fI fd D) {ps : List Str}
    (h : ∀ (kV doc pm : Value) (an : Option Addr) (cdv ct : Value) (cc : Addr) (us : List Value), us.length = ps.length → bindArgs (fnX "__init__" qual (fnArgs st) (fnBody st) (fnScope st) [("__class__", cc)] .none kV doc pm an cdv ct) ⟨us, []⟩ = pure (ps.zip us)) : L2.Binds K fd ps [] := by
  obtain ⟨oc, od, kV, doc, pm, an, cda, ct, osl, cc, _, _, _, _, _, _, _, _, _, rfl, _⟩ := F.ex
  exact .all (h kV doc pm an _ ct cc)
/-- what super() asks of the class at D, and of the next __init__ at f0 -/
structure SupOk (P : Program) (K : PySem.W.Frag) (mg : Str → Option Value) (D f0 : Addr) : Prop where
  cls : ∃ cd, clsIn K D = some cd
  along : ks_superIn K D D "__init__" = some (some (.ref f0))
  opq : nsIn K cStatics "thirdparty.any" = some none
  noS : mg "super" = none
  mro : mroIn K D (.ref D) = some true
  top : (P.main.scope.names.lookup ("super" : Str)).isSome = false
  tf : typeIn K (.ref f0) = some (.type "function")
  fi : fnIn K f0 = true
theorem sup_cls {K : PySem.W.Frag} {C D : Addr} {n : Str} {r : Option Value} (h : ks_superIn K C D n = some r) : ∃ cd, clsIn K C = some cd := by
  unfold ks_superIn at h
  cases e : clsIn K C with
  | none => rw [e] at h; cases h
  | some cd => exact ⟨cd, rfl⟩
theorem fn_super {P : Program} {w : World} {K : PySem.W.Frag} {mg : Str → Option Value} {base : Heap} {qual : Str} {st : Stmt} {f f0 D : Addr} {fd fd0 : FuncData} {N ps ps0 : List Str} {k k0 : Nat} {sp sp0 : Sp} {ds0 : List Value} {dvs0 : List V} {e : Expr} {es : List Expr} {rest : List Stmt} {p0 p1 p2 p3 p4 : Pos} {ar : Arg} {ar' : List Str} {pl : Env → Sem Bool}
    (F : FunS P K qual st f fd D) (S : SScope N ps (fnScope st)) (len : ∀ vs H Q E, sp vs H Q E → vs.length = ps.length) (U : SupOk P K mg D f0) (F0 : FnOk P w K mg base C8.CX0 k0 f0 fd0 ps0 sp0) (b0 : Binds K fd0 ps0 ds0) (d0 : Vals dvs0 ds0) (hk : k0 ≤ k)
    (hst : fnBody st = .Expr (.Call (.Attribute (.Call (.Name "super" p0) [] [] p1) "__init__" p2) (e :: es) [] p3) p4 :: rest)
    (har : ((fnArgs st).posonlyargs ++ (fnArgs st).args).head? = some ar) (hps : ps = ar.arg :: ar')
    (hks : (fnScope st).names.lookup ("super" : Str) = some .globalImplicit) (hkc : (fnScope st).names.lookup ("__class__" : Str) = some .free)
    (hev : ∀ env : Env, eval (.Call (.Attribute (.Call (.Name "super" p0) [] [] p1) "__init__" p2) (e :: es) [] p3) env = (do
      let ov ← attributeBase (.Call (.Name "super" p0) [] [] p1) "__init__" env (eval (.Call (.Name "super" p0) [] [] p1) env)
      standAt p2.atName
      let (f, first) ← holding [ov] (getMethod ov "__init__" (pl env))
      callWith p3 f first (backTo p3 (starEach (e :: es) env)) []))
    (hse : ∀ env : Env, starEach (e :: es) env = (false, eval e env) :: starEach es env) (hpl : ∀ env : Env, (backTo p3 (starEach es env)).any (·.1) = false)
    (hbody : ∀ (cdv : Value) (cc : Addr) (A : Around) (outer : List Env) (s : Shared) (H : Hp) (vs : List V) (Q : VK) (E : XK), Room k (A.deeper (ksEnv qual (fnScope st) s.heap.objs.size f cdv cc)) → sp vs H Q E →
      ∃ (t : TA) (tr : TS) (x dx : Addr) (fs : List (Str × V)) (ws : List V), vs = .ref x :: ws ∧ H x = some (.ins D dx fs) ∧ PA (cxS P w K mg base N qual (fnScope st) f cdv cc A outer s H) (e :: es) t ∧ PSs (cxS P w K mg base N qual (fnScope st) f cdv cc A outer s H) rest tr ∧
        ∀ q, H q = none → t (L2.start N vs) (upd H q (.met f0 x)) fun us H1 => H1 q = some (.met f0 x) ∧ sp0 ((.ref x :: us) ++ dvs0) H1 (fun _ H2 => tr { nx := fun _ H' => Q .non H', rt := Q } (L2.start N vs) H2) C8.E0) :
    FnOk P w K mg base C8.CX0 (k + 1) f fd ps sp := by
  refine ⟨len, fun A outer s H args us vs Q E hr e0 hb r hsp => ?_⟩
  obtain ⟨oc, od, kV, doc, pm, an, cda, ct, osl, cc, cl, cld, csl, ccl, cdd, cvs, ccs, file, tf, rfl, ho, hcd, hcc, hcda, hvs, hfile⟩ := F.ex
  have hl := len _ _ _ _ hsp
  have KX : K.In s.heap := e0.mod.kin.keeps fun b o e => (e0.bs b o e).1
  have lim : s.heap.NoLimit := e0.mod.nolimit.keeps fun b o e => (e0.bs b o e).1
  obtain ⟨t, tr, x, dx, fs, ws, rfl, hx, hA, hS, hrun⟩ := hbody (.ref cda) cc A outer s H vs Q E (hr.deeper _) hsp
  refine ks_codeAny_call_defAt hr.depth (KX _ _ ho) rfl lim (codeRec_of KX hcd) rfl hb S.nocell (fun y hy => S.par _ (List.of_mem_zip hy).1) (fun h1 hns kk => ?_) S.co S.gen S.kind
  have X1 : K.In h1 := KX.keeps kk
  have I : Inv (cxS P w K mg base N qual (fnScope st) f (.ref cda) cc A outer s H) [] (L2.start N (.ref x :: ws)) H { s with heap := h1, toks := s.toks + (ps.zip us).length } := inv_startS S hr.hd e0 hl r hcc rfl hns kk
  show PySem.wpAt _ (A.deeper (ksEnv qual (fnScope st) s.heap.objs.size f (.ref cda) cc)) (.func (fnBody st) (ksEnv qual (fnScope st) s.heap.objs.size f (.ref cda) cc)) (execs (fnBody st) (ksEnv qual (fnScope st) s.heap.objs.size f (.ref cda) cc)) _ _ _
  have hxo : h1.get? x = some (instObj D dx) := kk _ _ (e0.hok x _ hx).2.2.2.1
  obtain ⟨cd, hcls⟩ := U.cls
  obtain ⟨oD, hD1, hD2⟩ : ∃ oD, h1.get? D = some oD ∧ oD.data = .cls cd := by
    have hc := hcls
    unfold clsIn at hc
    split at hc
    · rename_i c d cd' sl ho'
      cases hc
      exact ⟨_, X1 _ _ ho', rfl⟩
    · cases hc
  have hxD : x ≠ D := fun z => by
    rw [z, hD1] at hxo
    rw [Option.some.inj hxo] at hD2
    cases hD2
  have hal := U.along
  unfold ks_superIn at hal
  rw [hcls] at hal
  obtain ⟨of, hof, hofc⟩ : ∃ of, h1.get? f0 = some of ∧ of.cls = .type "function" := by
    have ht' : (K.lookup f0).map (·.cls) = some (.type "function") := U.tf
    cases z : K.lookup f0 with
    | none => rw [z] at ht'; cases ht'
    | some of => rw [z] at ht'; exact ⟨of, X1 _ _ z, Option.some.inj ht'⟩
  obtain ⟨mb, hmb1, hmb2⟩ := e0.mod.blt
  have hg1 := (e0.mod.glob.keeps fun b o e => (e0.bs b o e).1).keeps kk
  have hb1 := (hmb1.keeps fun b o e => (e0.bs b o e).1).keeps kk
  have hsu : mb "super" = some (.type "super") := (hmb2 _ (by decide)).trans (by decide +kernel)
  have hself : (ps.zip us).reverse.lookup ar.arg = some (.ref x) := by
    have ndP : ps.Nodup := by rw [← S.pre]; exact S.nd.sublist (List.take_sublist _ _)
    have ul : us.length = ps.length := by rw [← r.length]; exact hl
    refine lookup_nd ?_ (List.mem_reverse.mpr ?_)
    · rw [List.map_reverse]
      refine (List.Perm.nodup_iff (List.reverse_perm _)).mpr ?_
      rw [List.map_fst_zip (by omega)]
      exact ndP
    · cases r with
      | cons r0 _ =>
        cases r0
        rw [hps]
        exact List.mem_cons_self ..
  rw [hst]
  refine ks_wpAt_execs_cons (ks_wpAt_Expr_any (ks_wpAt_MethodCall ?_ (hev _)) (by simp [interactive, S.kind]))
  rw [← hst]
  refine ks_wpAt_super_base (f := f) (cc := cda) (file := file) (tf := tf) (vs := cvs) (ar := ar) hks hkc (by decide) rfl (X1 _ _ ho) rfl har rfl (X1 _ _ hcda) rfl hvs hfile U.top ?_
  refine ks_loadName_global S.kind hks (loadGlobal_builtin hg1 U.noS hb1 hsu ⟨rfl, ?_⟩)
  refine wpAny_loadName_free S.kind hkc (c := cc) (by show List.lookup _ [(("__class__" : Str), cc)] = _; simp [List.lookup]) ⟨_, X1 _ _ hcc, rfl⟩ ?_
  refine wpAny_loadName_local S.kind (S.par _ (by rw [hps]; exact List.mem_cons_self ..)) hns hself ?_
  refine ks_wpAny_isType_cls hD1 hD2 ⟨rfl, ?_⟩
  refine ks_wpAny_call_super hD1 hD2 hxo rfl (fun c e => by cases e) (looks_mroIn X1 U.mro) (fun h2 e2 g2 => ?_)
  have X2 : K.In h2 := X1.keeps g2
  have I2 : Inv (cxS P w K mg base N qual (fnScope st) f (.ref cda) cc A outer s H) [] (L2.start N (.ref x :: ws)) H { s with heap := h2, toks := s.toks + (ps.zip us).length } := I.kept (t' := s.toks + (ps.zip us).length) g2
  refine ks_wpAny_getMethod_super e2 (looks_opaque X2 U.opq) (l₀ := cd.mro) (fun A Q E s k q => wpAny_bind ((looks_clsIn X2 hcls) A _ E s k (wpAny_pure q))) rfl X2 hal (g2 _ _ hof) hofc hxD (by decide) ?_
  have hq0 : H h2.objs.size = none := I2.hok.fresh (Nat.le_refl _)
  have I3 := I2.laid (t' := s.toks + (ps.zip us).length + 1) (a := h2.objs.size) (o := .met f0 x) (fun b u z => Heap.get?_push_of_some _ z) (Nat.le_refl _)
    (show (h2.push (methodObj (.ref f0) (.ref x))).get? h2.objs.size = some (methodObj (.ref f0) (.ref x)) from Heap.get?_push_size h2 rfl)
  have hq1 := hrun _ hq0
  generalize hq : h2.objs.size = q at *
  refine wpAny_mono (E := fun _ _ => False) (callWith_of (P := MethP K q f0 (.ref x)) (by rw [hse]; show ((false || (backTo p3 (starEach es _)).any (·.1)) || false) = false; rw [hpl]; rfl) (keeps_M U.fi) ?_) (fun _ _ z => z) (fun _ _ z => z.elim)
  rw [hse]
  have hE : ∀ {env : Env} {M : Model} {A : Around} {R : List Value → Shared → Prop} {E : Value → Shared → Prop} {s : Shared}, wpAny M A (spliced (backTo p3 (starEach (e :: es) env))) R E s → wpAny M A (spliced (backTo p3 ((false, eval e env) :: starEach es env))) R E s := fun h => by rw [← hse]; exact h
  refine evalArgs_plain (hE ?_)
  refine thn (hA.run p3 [] _ _ _ _ I3 hq1) fun us2 s4 ⟨vs2, H4, I4, r4, hq4, hsp4⟩ => ?_
  refine ⟨met_P I4 hq4, ?_⟩
  show wpAny _ _ (call (.ref q) us2) _ _ _
  have r2 : Vals ((.ref x :: vs2) ++ dvs0) ((.ref x :: us2) ++ ds0) := Vals.append (.cons rfl r4) d0
  have hl2 : ((Value.ref x :: us2) ++ ds0).length = ps0.length := by rw [← r2.length]; exact F0.len _ _ _ _ hsp4
  refine wpAny_call (method_call (met_P I4 hq4).1 (codeAny_mono (F0.run _ _ s4 H4 ⟨.ref x :: us2, []⟩ ((.ref x :: us2) ++ ds0) ((.ref x :: vs2) ++ dvs0) _ C8.E0 ((hr.deeper _).mono hk) I4.env0 (b0 s4 (.ref x :: us2) I4.kIn hl2) r2 hsp4) (fun rr s5 hq5 => ?_)))
  cases rr with
  | error e => exact hq5.elim
  | ok fl =>
    cases fl with
    | next => exact False.elim hq5
    | brk => exact False.elim hq5
    | cont => exact False.elim hq5
    | ret u =>
      obtain ⟨v5, H5, I5, rv5, htr⟩ := I4.after hq5
      refine wpAt_of_wpAny (wpAny_mono (hS.run [] s5 _ H5 _ I5 htr) (fun fl s6 hs => ?_) (fun _ _ z => z.elim))
      have fin : ∀ {σ' : L2.St} {H' : Hp} {v : V} {u : Value}, Inv (cxS P w K mg base N qual (fnScope st) f (.ref cda) cc A outer s H) [] σ' H' s6 → RelV v u → Q v H' → CE outer P w H s Q u s6 :=
        fun {σ' H' v u} J rv q => ⟨v, H', J.os, J.bare, J.base, J.hok, rv, q⟩
      cases fl with
      | ret u =>
        obtain ⟨v, σ', H', J, rv, q⟩ := hs
        exact fin J rv q
      | next =>
        obtain ⟨σ', H', J, q⟩ := hs
        exact fin (v := V.non) (u := Value.none) J rfl q
      | brk =>
        obtain ⟨_, _, _, q⟩ := hs
        exact False.elim q
      | cont =>
        obtain ⟨_, _, _, q⟩ := hs
        exact False.elim q
end

/-! the text by places -/
def top (i : Nat) : Stmt := PySem.Challenge.pw_bothgain_k28_long_loops_of_brains.main.body.getD i (.Pass ⟨0, 0, 0, 0⟩)
abbrev s_Tape___init : Stmt := L2.inClass (top 7) 0
theorem sc_Tape___init : FnScope ["self", "results"] ["self", "results"] (fnScope s_Tape___init) := fnScope_by (by decide +kernel)
abbrev s_Tape_take : Stmt := L2.inClass (top 7) 1
theorem sc_Tape_take : FnScope ["self", "count", "result"] ["self", "count"] (fnScope s_Tape_take) := fnScope_by (by decide +kernel)
abbrev s_Brain___init : Stmt := L2.inClass (top 14) 0
theorem sc_Brain___init : FnScope ["self", "units", "cells", "block", "answer"] ["self", "units", "cells", "block", "answer"] (fnScope s_Brain___init) := fnScope_by (by decide +kernel)
abbrev s_Brain_start : Stmt := L2.inClass (top 14) 2
theorem sc_Brain_start : FnScope ["self", "row"] ["self"] (fnScope s_Brain_start) := fnScope_by (by decide +kernel)
abbrev s_Mind___init : Stmt := L2.inClass (top 21) 0
theorem sc_Mind___init : FnScope ["self", "units", "cells", "code"] ["self", "units", "cells", "code"] (fnScope s_Mind___init) := fnScope_by (by decide +kernel)
abbrev s_Thinker___init : Stmt := L2.inClass (top 11) 0
theorem sc_Thinker___init : FnScope ["self", "brain", "cells", "seen", "tape", "row", "value"] ["self", "brain", "cells", "seen", "tape"] (fnScope s_Thinker___init) := fnScope_by (by decide +kernel)
abbrev s_Thinker_value : Stmt := L2.inClass (top 11) 1
theorem sc_Thinker_value : FnScope ["self", "expression"] ["self", "expression"] (fnScope s_Thinker_value) := fnScope_by (by decide +kernel)
abbrev s_Thinker_unit : Stmt := L2.inClass (top 11) 2
theorem sc_Thinker_unit : FnScope ["self"] ["self"] (fnScope s_Thinker_unit) := fnScope_by (by decide +kernel)
abbrev s_Thinker_run : Stmt := L2.inClass (top 11) 3
theorem sc_Thinker_run : FnScope ["self", "block", "statement"] ["self", "block"] (fnScope s_Thinker_run) := fnScope_by (by decide +kernel)
abbrev s_Thinker_step : Stmt := L2.inClass (top 11) 4
theorem sc_Thinker_step : FnScope ["self", "statement", "kind", "value"] ["self", "statement"] (fnScope s_Thinker_step) := fnScope_by (by decide +kernel)
abbrev s_Thinker_loop : Stmt := L2.inClass (top 11) 5
theorem sc_Thinker_loop : FnScope ["self", "test", "block"] ["self", "test", "block"] (fnScope s_Thinker_loop) := fnScope_by (by decide +kernel)
abbrev s_view_numbers : Stmt := top 10
theorem sc_view_numbers : FnScope ["view", "numbers", "event"] ["view"] (fnScope s_view_numbers) := fnScope_by (by decide +kernel)
abbrev s_think : Stmt := top 12
theorem sc_think : FnScope ["brain", "cells", "view", "count", "tape", "thinker", "answer", "row"] ["brain", "cells", "view", "count", "tape"] (fnScope s_think) := fnScope_by (by decide +kernel)
abbrev s_combine : Stmt := top 4
theorem sc_combine : FnScope ["sign", "left", "right"] ["sign", "left", "right"] (fnScope s_combine) := fnScope_by (by decide +kernel)
abbrev s_value_of : Stmt := top 5
theorem sc_value_of : FnScope ["expression", "table", "on", "seen", "kind", "at", "chosen", "left", "right"] ["expression", "table", "on", "seen"] (fnScope s_value_of) := fnScope_by (by decide +kernel)
abbrev s_expression_code : Stmt := top 16
theorem sc_expression_code : FnScope ["expression", "slots", "on", "kind", "chosen", "left", "right"] ["expression", "slots", "on"] (fnScope s_expression_code) := fnScope_by (by decide +kernel)
abbrev s_branch_code : Stmt := top 17
theorem sc_branch_code : FnScope ["test", "then", "other"] ["test", "then", "other"] (fnScope s_branch_code) := fnScope_by (by decide +kernel)
abbrev s_thoughts_code : Stmt := top 18
theorem sc_thoughts_code : FnScope ["block", "slots", "code", "statement", "kind", "test", "inner"] ["block", "slots"] (fnScope s_thoughts_code) := fnScope_by (by decide +kernel)
abbrev s_brain_code : Stmt := top 19
theorem sc_brain_code : FnScope ["block", "answer", "slots"] ["block", "answer", "slots"] (fnScope s_brain_code) := fnScope_by (by decide +kernel)
abbrev s_names_of : Stmt := top 22
theorem sc_names_of : FnScope ["rows", "row"] ["rows"] (fnScope s_names_of) := fnScope_by (by decide +kernel)
abbrev s_mind_of : Stmt := top 23
theorem sc_mind_of : FnScope ["brain", "code"] ["brain"] (fnScope s_mind_of) := fnScope_by (by decide +kernel)
abbrev s_Frame___init : Stmt := L2.inClass (top 25) 0
theorem sc_Frame___init : FnScope ["self", "code", "table", "tape"] ["self", "code", "table", "tape"] (fnScope s_Frame___init) := fnScope_by (by decide +kernel)
abbrev s_Frame_advance : Stmt := L2.inClass (top 25) 1
theorem sc_Frame_advance : FnScope ["self", "name", "argument", "right", "left"] ["self"] (fnScope s_Frame_advance) := fnScope_by (by decide +kernel)
abbrev s_Thinking___init : Stmt := L2.inClass (top 26) 0
theorem sc_Thinking___init : SScope ["self", "mind", "cells", "view", "tape"] ["self", "mind", "cells", "view", "tape"] (fnScope s_Thinking___init) := sScope_by (by decide +kernel)
abbrev s_Thinking_special : Stmt := L2.inClass (top 26) 1
theorem sc_Thinking_special : FnScope ["self", "name", "argument", "count", "at"] ["self", "name", "argument"] (fnScope s_Thinking_special) := fnScope_by (by decide +kernel)
abbrev s_think_by_code : Stmt := top 27
theorem sc_think_by_code : FnScope ["mind", "cells", "view", "count", "tape", "frame", "answer"] ["mind", "cells", "view", "count", "tape"] (fnScope s_think_by_code) := fnScope_by (by decide +kernel)
abbrev s_law_pool : Stmt := top 29
theorem sc_law_pool : FnScope ["script", "budget"] ["script", "budget"] (fnScope s_law_pool) := fnScope_by (by decide +kernel)
abbrev s_law_draw : Stmt := top 30
theorem sc_law_draw : FnScope ["pool", "size", "cell", "value"] ["pool", "size"] (fnScope s_law_draw) := fnScope_by (by decide +kernel)
abbrev s_law_same : Stmt := top 31
theorem sc_law_same : FnScope ["actual", "due", "k"] ["actual", "due"] (fnScope s_law_same) := fnScope_by (by decide +kernel)
abbrev s_law_both : Stmt := top 32
theorem sc_law_both : FnScope ["brain", "cells", "due", "view", "told", "coded"] ["brain", "cells", "due"] (fnScope s_law_both) := fnScope_by (by decide +kernel)
abbrev s_law : Stmt := top 33
theorem sc_law : FnScope ["script", "pool", "large", "number", "less", "loop", "more", "units", "brain", "due"] ["script"] (fnScope s_law) := fnScope_by (by decide +kernel)
/-- what the walk asks of the module -/
structure Txt (K : PySem.W.Frag) (mg : Str → Option Value) (C_Tape : Addr) (C_Thinker : Addr) (C_Brain : Addr) (C_Mind : Addr) (C_Frame : Addr) (C_Thinking : Addr) (T_EVENTS : Addr) (T_SIGNS : Addr) : Prop where
  n_bool : mg "bool" = none
  n_int : mg "int" = none
  n_isinstance : mg "isinstance" = none
  n_len : mg "len" = none
  n_list : mg "list" = none
  n_max : mg "max" = none
  n_min : mg "min" = none
  n_range : mg "range" = none
  n_str : mg "str" = none
  n_tuple : mg "tuple" = none
  n_zip : mg "zip" = none
  cl_Tape : Cls K C_Tape
  m_Tape : mg "Tape" = some (.ref C_Tape)
  i_Tape : InsC K C_Tape
  a_Tape_results : NoAttr K C_Tape "results"
  a_Tape_taken : NoAttr K C_Tape "taken"
  cl_Thinker : Cls K C_Thinker
  m_Thinker : mg "Thinker" = some (.ref C_Thinker)
  i_Thinker : InsC K C_Thinker
  a_Thinker_table : NoAttr K C_Thinker "table"
  a_Thinker_left : NoAttr K C_Thinker "left"
  a_Thinker_seen : NoAttr K C_Thinker "seen"
  a_Thinker_tape : NoAttr K C_Thinker "tape"
  cl_Brain : Cls K C_Brain
  m_Brain : mg "Brain" = some (.ref C_Brain)
  i_Brain : InsC K C_Brain
  a_Brain_units : NoAttr K C_Brain "units"
  a_Brain_cells : NoAttr K C_Brain "cells"
  a_Brain_block : NoAttr K C_Brain "block"
  a_Brain_answer : NoAttr K C_Brain "answer"
  cl_Mind : Cls K C_Mind
  m_Mind : mg "Mind" = some (.ref C_Mind)
  i_Mind : InsC K C_Mind
  a_Mind_units : NoAttr K C_Mind "units"
  a_Mind_cells : NoAttr K C_Mind "cells"
  a_Mind_code : NoAttr K C_Mind "code"
  cl_Frame : Cls K C_Frame
  m_Frame : mg "Frame" = some (.ref C_Frame)
  i_Frame : InsC K C_Frame
  a_Frame_code : NoAttr K C_Frame "code"
  a_Frame_table : NoAttr K C_Frame "table"
  a_Frame_tape : NoAttr K C_Frame "tape"
  a_Frame_at : NoAttr K C_Frame "at"
  a_Frame_stack : NoAttr K C_Frame "stack"
  a_Frame_steps : NoAttr K C_Frame "steps"
  cl_Thinking : Cls K C_Thinking
  m_Thinking : mg "Thinking" = some (.ref C_Thinking)
  i_Thinking : InsC K C_Thinking
  a_Thinking_code : NoAttr K C_Thinking "code"
  a_Thinking_table : NoAttr K C_Thinking "table"
  a_Thinking_tape : NoAttr K C_Thinking "tape"
  a_Thinking_at : NoAttr K C_Thinking "at"
  a_Thinking_stack : NoAttr K C_Thinking "stack"
  a_Thinking_steps : NoAttr K C_Thinking "steps"
  a_Thinking_left : NoAttr K C_Thinking "left"
  a_Thinking_seen : NoAttr K C_Thinking "seen"
  a_Thinking_silent : NoAttr K C_Thinking "silent"
  a_Thinking_done : NoAttr K C_Thinking "done"
  v_GREATEST : ∃ u, mg "GREATEST" = some u ∧ RelV (.int 65535) u
  v_EVENTS : ∃ u, mg "EVENTS" = some u ∧ RelV (.ref T_EVENTS) u
  q_EVENTS : ∀ H : Hp, SqT K H T_EVENTS ((["round", "told", "move", "did"] : List Str).map V.str)
  d_EVENTS : ∃ o, K.lookup T_EVENTS = some o ∧ o.cls = .type "tuple" ∧ o.dict = none
  v_SIGNS : ∃ u, mg "SIGNS" = some u ∧ RelV (.ref T_SIGNS) u
  q_SIGNS : ∀ H : Hp, SqT K H T_SIGNS ((["+", "-", "*", "/", "mod", "<", "="] : List Str).map V.str)
  d_SIGNS : ∃ o, K.lookup T_SIGNS = some o ∧ o.cls = .type "tuple" ∧ o.dict = none
  ok : True
/-! ratios: an own object of two ints -/
theorem kND : ¬ (("num" : Str) = "den") := by decide +kernel
theorem kDN : ¬ (("den" : Str) = "num") := by decide +kernel
def rf (n d : Int) : List (Str × V) := putF "den" (.int d) (putF "num" (.int n) [])
theorem rf_num (n d : Int) : (rf n d).lookup ("num" : Str) = some (.int n) := by
  unfold rf
  rw [lookup_putF, if_neg kND, lookup_putF, if_pos rfl]
theorem rf_den (n d : Int) : (rf n d).lookup ("den" : Str) = some (.int d) := by
  unfold rf
  rw [lookup_putF, if_pos rfl]
theorem rf_no (n d : Int) {m : Str} (h1 : ¬ m = "num") (h2 : ¬ m = "den") : (rf n d).lookup m = none := by
  unfold rf
  rw [lookup_putF, if_neg h2, lookup_putF, if_neg h1]; rfl
/-- a Ratio stands at p -/
def RatAt (C : Addr) (H : Hp) (p : Addr) (n d : Int) : Prop := ∃ dx, H p = some (.ins C dx (rf n d))
theorem RatAt.keep {C p : Addr} {H H' : Hp} {W : List Addr} {n d : Int} (h : RatAt C H p n d) (k : Keep W H H') (w : p ∉ W) : RatAt C H' p n d := by
  obtain ⟨dx, h⟩ := h
  exact ⟨dx, k _ _ h w⟩
theorem RatAt.keep0 {C p : Addr} {H H' : Hp} {n d : Int} (h : RatAt C H p n d) (k : Keep [] H H') : RatAt C H' p n d := h.keep k (by simp)
/-- the sign of the divisor stands with the common part -/
def sg (n d : Int) : Int := if d < 0 then -((Nat.gcd n.natAbs d.natAbs : Nat) : Int) else ((Nat.gcd n.natAbs d.natAbs : Nat) : Int)
def redN (n d : Int) : Int := n.fdiv (sg n d)
def redD (n d : Int) : Int := d.fdiv (sg n d)
theorem gcd_pos_of {n d : Int} (h : d ≠ 0) : 0 < Nat.gcd n.natAbs d.natAbs := Nat.gcd_pos_of_pos_right _ (by omega)
theorem sg_ne {n d : Int} (h : d ≠ 0) : sg n d ≠ 0 := by
  have := gcd_pos_of (n := n) h
  unfold sg
  split <;> omega
theorem sg_dvd_n (n d : Int) : sg n d ∣ n := by
  have h : ((Nat.gcd n.natAbs d.natAbs : Nat) : Int) ∣ n := Int.ofNat_dvd_left.mpr (Nat.gcd_dvd_left _ _)
  unfold sg
  split
  · exact Int.neg_dvd.mpr h
  · exact h
theorem sg_dvd_d (n d : Int) : sg n d ∣ d := by
  have h : ((Nat.gcd n.natAbs d.natAbs : Nat) : Int) ∣ d := Int.ofNat_dvd_left.mpr (Nat.gcd_dvd_right _ _)
  unfold sg
  split
  · exact Int.neg_dvd.mpr h
  · exact h
theorem fdiv_of_mul {m c s : Int} (hs : s ≠ 0) (h : m = s * c) : m.fdiv s = c := by
  subst h; exact Int.mul_fdiv_cancel_left c hs
theorem red_n {n d : Int} (h : d ≠ 0) : redN n d * sg n d = n := by
  obtain ⟨c, hc⟩ := sg_dvd_n n d
  unfold redN
  rw [fdiv_of_mul (sg_ne h) hc, Int.mul_comm]; exact hc.symm
theorem red_d {n d : Int} (h : d ≠ 0) : redD n d * sg n d = d := by
  obtain ⟨c, hc⟩ := sg_dvd_d n d
  unfold redD
  rw [fdiv_of_mul (sg_ne h) hc, Int.mul_comm]; exact hc.symm
theorem redD_pos {n d : Int} (h : d ≠ 0) : 0 < redD n d := by
  have e := red_d (n := n) h
  have g := gcd_pos_of (n := n) h
  have hne : redD n d ≠ 0 := fun z => by rw [z, Int.zero_mul] at e; exact h e.symm
  rcases Int.lt_or_gt_of_ne hne with hl | hl
  · exfalso
    unfold sg at e
    split at e
    · rename_i hd
      have : 0 ≤ redD n d * -((Nat.gcd n.natAbs d.natAbs : Nat) : Int) := Int.mul_nonneg_of_nonpos_of_nonpos (by omega) (by omega)
      omega
    · rename_i hd
      have : redD n d * ((Nat.gcd n.natAbs d.natAbs : Nat) : Int) < 0 := Int.mul_neg_of_neg_of_pos hl (by omega)
      omega
  · exact hl
/-- the same ratio -/
theorem red_cross {n d : Int} (h : d ≠ 0) : redN n d * d = n * redD n d := by
  have e1 := red_n (n := n) h
  have e2 := red_d (n := n) h
  calc redN n d * d = redN n d * (redD n d * sg n d) := by rw [e2]
    _ = redN n d * sg n d * redD n d := by rw [Int.mul_comm (redD n d), Int.mul_assoc]
    _ = n * redD n d := by rw [e1]
theorem red_gcd {n d : Int} (h : d ≠ 0) : Nat.gcd (redN n d).natAbs (redD n d).natAbs = 1 := by
  have e1 : (redN n d).natAbs * (sg n d).natAbs = n.natAbs := by rw [← Int.natAbs_mul, red_n h]
  have e2 : (redD n d).natAbs * (sg n d).natAbs = d.natAbs := by rw [← Int.natAbs_mul, red_d h]
  have e3 : (sg n d).natAbs = Nat.gcd n.natAbs d.natAbs := by unfold sg; split <;> omega
  have e4 := Nat.gcd_mul_right (redN n d).natAbs (sg n d).natAbs (redD n d).natAbs
  rw [e1, e2, e3] at e4
  have g := gcd_pos_of (n := n) h
  exact Nat.eq_of_mul_eq_mul_right g (by omega)
theorem red_abs_n {n d : Int} (h : d ≠ 0) : (redN n d).natAbs ≤ n.natAbs := by
  have e1 : (redN n d).natAbs * (sg n d).natAbs = n.natAbs := by rw [← Int.natAbs_mul, red_n h]
  have : 0 < (sg n d).natAbs := by have := sg_ne (n := n) h; omega
  rw [← e1]
  exact Nat.le_mul_of_pos_right _ this
theorem red_dvd {n d : Int} (h : d ≠ 0) : redD n d ∣ d := ⟨sg n d, (red_d h).symm⟩
/-- what the rules ask of numbers below a power of two -/
theorem log2_lt9 {i : Int} {b : Nat} (h : i.natAbs < 2 ^ b) (h0 : 0 < b) : i.natAbs.log2 < b := PySem.Flt.log2_lt_of h0 h
section
variable {X : Cx}
def CDivG (_ j : Int) : Prop := j ≠ 0 ∧ j.natAbs.log2 < 9000
theorem op_fdivG : OpR X (binaryOp .FloorDiv) (rI CDivG fun i j => .int (i.fdiv j)) := opI fun i j _ _ _ _ _ hc q =>
  PyProof.Rows.floordiv_int hc.1 q (.inl (PyProof.noPylong_of_log2 hc.2))
def CPowB (i j : Int) : Prop := 2 ≤ i.natAbs ∧ 1 ≤ j ∧ (Builtin.Int.intBits i : Int) * j ≤ 100000000
theorem op_mulO : OpR X (binaryOp .Mult) (rI IntMulOk fun i j => .int (i * j)) := opI fun _ _ _ _ _ _ _ hc q => PyProof.Rows.mul_int q hc
end
def sp_rat (C : Addr) : Sp := fun vs H Q _ => ∃ (x dx : Addr) (n d : Int), vs = [.ref x, .int n, .int d] ∧ d ≠ 0 ∧ d.natAbs < 2 ^ 8000 ∧ H x = some (.ins C dx []) ∧
  ∀ H', Keep [x] H H' → H' x = some (.ins C dx (rf (redN n d) (redD n d))) → Q .non H'

/-! the law's draws -/
def Pool (H : Hp) (p q : Addr) (ns : List Int) : Prop := ∃ (i1 i2 i3 i4 i5 : Int), H p = some (.lst [.ref q, .int i1, .int i2, .int i3, .int i4, .int i5]) ∧ H q = some (.lst (ns.map V.int)) ∧ q ≠ p ∧ 0 ≤ i1
theorem Pool.some {H : Hp} {p q : Addr} {ns : List Int} (h : Pool H p q ns) : ∃ o, H p = Option.some o := by
  obtain ⟨i1, i2, i3, i4, i5, h, _⟩ := h
  exact ⟨_, h⟩
theorem Pool.some2 {H : Hp} {p q : Addr} {ns : List Int} (h : Pool H p q ns) : ∃ o, H q = Option.some o := by
  obtain ⟨i1, i2, i3, i4, i5, _, h, _⟩ := h
  exact ⟨_, h⟩
theorem Pool.keep {H H' : Hp} {p q : Addr} {ns : List Int} {W : List Addr} (h : Pool H p q ns) (k : Keep W H H') (w : ∀ b, b ∈ W → H b = none) : Pool H' p q ns := by
  obtain ⟨i1, i2, i3, i4, i5, h1, h2, h3, h4⟩ := h
  have no : ∀ b o, H b = Option.some o → b ∉ W := fun b o e z => by rw [w b z] at e; cases e
  exact ⟨i1, i2, i3, i4, i5, k _ _ h1 (no _ _ h1), k _ _ h2 (no _ _ h2), h3, h4⟩
theorem Pool.keep0 {H H' : Hp} {p q : Addr} {ns : List Int} (h : Pool H p q ns) (k : Keep [] H H') : Pool H' p q ns := h.keep k fun _ z => by cases z
theorem Pool.new {H : Hp} {p q a : Addr} {ns : List Int} {o : HO} (h : Pool H p q ns) (n : H a = none) : Pool (upd H a o) p q ns := h.keep0 (Keep.new n)
theorem Pool.own {H : Hp} {p q a : Addr} {ns : List Int} {o : HO} (h : Pool H p q ns) (h1 : a ≠ p) (h2 : a ≠ q) : Pool (upd H a o) p q ns := by
  obtain ⟨i1, i2, i3, i4, i5, g1, g2, g3, g4⟩ := h
  exact ⟨i1, i2, i3, i4, i5, by rw [upd_ne h1.symm]; exact g1, by rw [upd_ne h2.symm]; exact g2, g3, g4⟩
theorem Pool.free {H H' : Hp} {p q l : Addr} {ns : List Int} (P : Pool H' p q ns) (e : Keep [p] H H') (h : H' l = none) : H l = none := by
  obtain ⟨o, ho⟩ := P.some
  exact e.free1 ho h
theorem Pool.nep {H : Hp} {p q l : Addr} {ns : List Int} (P : Pool H p q ns) (h : H l = none) : l ≠ p := by
  obtain ⟨o, ho⟩ := P.some
  exact (ne_of_none ho h).symm
theorem Pool.neq {H : Hp} {p q l : Addr} {ns : List Int} (P : Pool H p q ns) (h : H l = none) : l ≠ q := by
  obtain ⟨o, ho⟩ := P.some2
  exact (ne_of_none ho h).symm
def sp_law_pool (K : PySem.W.Frag) : Sp := fun vs H Q _ => ∃ (a : Addr) (ns : List Int) (b : Int), vs = [.ref a, .int b] ∧ SqL K H a (ns.map V.int) ∧
  ∀ p q H', H p = none → Pool H' p q ns → Keep [] H H' → Q (.ref p) H'
def sp_law_draw : Sp := fun vs H Q _ => ∃ (p q : Addr) (ns : List Int) (size : Int), vs = [.ref p, .int size] ∧ 0 < size ∧ size < 2 ^ 60 ∧ Pool H p q ns ∧
  ∀ r H', 0 ≤ r → r < size → Pool H' p q ns → Keep [p] H H' → Q (.int r) H'
section
variable {P : Program} {w : World} {K : PySem.W.Frag} {mg : Str → Option Value} {base : Heap} {C_Tape : Addr} {C_Thinker : Addr} {C_Brain : Addr} {C_Mind : Addr} {C_Frame : Addr} {C_Thinking : Addr} {T_EVENTS : Addr} {T_SIGNS : Addr}
theorem ok_law_pool {f : Addr} {fd : FuncData} (D : C8.Def K mg "_law_pool" s_law_pool f fd) (b : Binds K fd ["script", "budget"] []) (T : Txt K mg C_Tape C_Thinker C_Brain C_Mind C_Frame C_Thinking T_EVENTS T_SIGNS) : C8.Cal P w K mg base 1 "_law_pool" (sp_law_pool K) [] := by
  refine cal0 D b .nil sc_law_pool (fun vs H Q E h => ?_) (fun cdv A outer s H vs Q E hr h => ?_)
  · obtain ⟨a, ns, b, rfl, _⟩ := h
    rfl
  · obtain ⟨a, ns, b, rfl, hS, k⟩ := h
    refine ⟨_, (pss_one (ps_ret (pe_lst (pa_cons (pe_callTy call_list_of (by rfl) T.n_list bo_list (pa_cons (pv 0) pa_nil)) (pa_cons pe_int (pa_cons pe_int (pa_cons pe_int (pa_cons pe_int (pa_cons (pv 1) pa_nil))))))))), ?_⟩
    refine ⟨_, rfl, _, _, rfl, .inl hS, fun l hl => ⟨_, rfl, (by show 6 ≤ sizeLine; decide), fun p hp => ?_⟩⟩
    have hlp : l ≠ p := ne_of_none (H := upd H l (.lst (ns.map V.int))) upd_same hp
    have hp0 : H p = none := (Keep.new (W := []) hl).free hp
    refine k p l _ hp0 ⟨_, _, _, _, _, upd_same, (by rw [upd_ne hlp]; exact upd_same), hlp, Int.le_refl 0⟩ ((Keep.new hl).then_new hp)
theorem ok_law_draw {f : Addr} {fd : FuncData} (D : C8.Def K mg "_law_draw" s_law_draw f fd) (b : Binds K fd ["pool", "size"] []) (T : Txt K mg C_Tape C_Thinker C_Brain C_Mind C_Frame C_Thinking T_EVENTS T_SIGNS) : C8.Cal P w K mg base 1 "_law_draw" sp_law_draw [] := by
  refine cal0 D b .nil sc_law_draw (fun vs H Q E h => ?_) (fun cdv A outer s H vs Q E hr h => ?_)
  · obtain ⟨p, q, ns, size, rfl, _⟩ := h
    rfl
  · obtain ⟨p, q, ns, size, rfl, hs0, hs1, ⟨i1, i2, i3, i4, i5, h1, h2, hqp, hi1⟩, k⟩ := h
    have hbig : (2147483647 : Int) > 0 := by decide
    have cdg : ∀ {i : Int}, CDivG i size := ⟨by omega, Nat.lt_trans (log2_lt9 (b := 60) (by omega) (by decide)) (by decide)⟩
    refine ⟨_, (pss_cut (ps_if (PW.pt (pw_and (pt_cmpR op_le (pe_ix ix_list (pv 0) pe_int (fun _ _ => rfl)) pe_int (nomark _)) (pw_and (pt_cmpR op_le (pe_ix ix_list (pv 0) pe_int (fun _ _ => rfl)) pe_int (nomark _)) (pw_and1 (pt_cmpR op_lt (pe_ix ix_list (pv 0) pe_int (fun _ _ => rfl)) (pe_callB call_len_seq (by rfl) T.n_len bo_len (pa_cons (pe_ix ix_list (pv 0) pe_int (fun _ _ => rfl)) pa_nil)) (nomark _))))))
  (pss_cons (ps_set (i := 2) sc_law_draw.nd rfl (by first | exact Or.inl rfl | exact Or.inr rfl) (pe_ix ix_list (pe_ix ix_list (pv 0) pe_int (fun _ _ => rfl)) (pe_ix ix_list (pv 0) pe_int (fun _ _ => rfl)) (fun _ _ => rfl)))
  (pss_cons (ps_asg (pe_op op_add (pe_ix ix_list (pv 0) pe_int (fun _ _ => rfl)) pe_int) (pg_sub (pv 0) pe_int set_list))
  (pss_cons (ps_asg (pe_op op_mod (pe_callTy call_int1 (by rfl) T.n_int bo_int (pa_cons (pe_op op_add (pe_op op_mul (pe_ix ix_list (pv 0) pe_int (fun _ _ => rfl)) pe_int) (pv 2)) pa_nil)) pe_int) (pg_sub (pv 0) pe_int set_list))
  (pss_cons (ps_asg pe_int (pg_sub (pv 0) pe_int set_list))
  (pss_one (ps_if (pt_cmpR op_ge (pv 2) (pe_op op_pow pe_int pe_int) (nomark _))
    (pss_one (ps_asg (pv 2) (pg_sub (pv 0) pe_int set_list)))
    pss_nil))))))
  pss_nil)
(pss_cons (ps_if (pt_cmpR op_gt (pe_ix ix_list (pv 0) pe_int (fun _ _ => rfl)) pe_int (nomark _))
  (pss_cons (ps_set (i := 3) sc_law_draw.nd rfl (by first | exact Or.inl rfl | exact Or.inr rfl) (pe_op op_mod (pe_callTy call_int1 (by rfl) T.n_int bo_int (pa_cons (pe_ix ix_list (pv 0) pe_int (fun _ _ => rfl)) pa_nil)) (pv 1)))
  (pss_cons (ps_asg (pe_op op_fdivG (pe_ix ix_list (pv 0) pe_int (fun _ _ => rfl)) (pv 1)) (pg_sub (pv 0) pe_int set_list))
  (pss_cons (ps_asg pe_int (pg_sub (pv 0) pe_int set_list))
  (pss_one (ps_ret (pv 3))))))
  pss_nil)
(pss_cons (ps_asg (pe_op op_sub (pe_ix ix_list (pv 0) pe_int (fun _ _ => rfl)) pe_int) (pg_sub (pv 0) pe_int set_list))
(pss_cons (ps_asg (pe_op op_mod (pe_callTy call_int1 (by rfl) T.n_int bo_int (pa_cons (pe_op op_add (pe_op op_mul (pe_ix ix_list (pv 0) pe_int (fun _ _ => rfl)) pe_int) pe_int) pa_nil)) pe_int) (pg_sub (pv 0) pe_int set_list))
(pss_one (ps_ret (pe_op op_mod (pe_op op_mod (pe_callTy call_int1 (by rfl) T.n_int bo_int (pa_cons (pe_op op_add (pe_op op_mul (pe_ix ix_list (pv 0) pe_int (fun _ _ => rfl)) pe_int) pe_int) pa_nil)) pe_int) (pv 1)))))))), ?_⟩
    -- the state between the statements
    refine ⟨fun σ H' => ∃ (c : Option V) (j1 j2 j3 j4 j5 : Int), σ = [some (.ref p), some (.int size), c, none] ∧ H' p = some (.lst [.ref q, .int j1, .int j2, .int j3, .int j4, .int j5]) ∧ Keep [p] H H' ∧ 0 ≤ j1, ?_, ?_⟩
    · have stay : ∃ (c : Option V) (j1 j2 j3 j4 j5 : Int), ([some (.ref p), some (.int size), none, none] : List (Option V)) = [some (.ref p), some (.int size), c, none] ∧ H p = some (.lst [.ref q, .int j1, .int j2, .int j3, .int j4, .int j5]) ∧ Keep [p] H H ∧ 0 ≤ j1 :=
        ⟨_, i1, i2, i3, i4, i5, rfl, h1, Keep.refl _ _, hi1⟩
      refine ⟨_, rfl, _, _, _, _, rfl, rfl, SqL.of h1, rfl, _, _, rfl, rfl, _, rfl, iteD (fun _ => ?_) (fun _ => stay)⟩
      refine ⟨_, rfl, _, _, _, _, rfl, rfl, SqL.of h1, rfl, _, _, rfl, rfl, _, rfl, iteD (fun _ => ?_) (fun _ => stay)⟩
      refine ⟨_, rfl, _, _, _, _, rfl, rfl, SqL.of h1, rfl, _, rfl, _, _, _, _, rfl, rfl, SqL.of h1, rfl, _, _, rfl, .inl (SqL.of h2), _, _, rfl, rfl, _, rfl, iteD (fun hlt => ?_) (fun _ => stay)⟩
      obtain ⟨j, rfl⟩ : ∃ j : Nat, i1 = (j : Int) := ⟨i1.toNat, by omega⟩
      rw [List.length_map] at hlt
      have hj : j < ns.length := by omega
      have hc : (ns.map V.int)[j]? = some (.int ns[j]) := by rw [List.getElem?_map, List.getElem?_eq_getElem hj]; rfl
      refine ⟨_, rfl, _, _, _, _, rfl, rfl, SqL.of h1, rfl, _, rfl, _, _, _, _, rfl, rfl, SqL.of h1, rfl, _, _, _, _, rfl, rfl, SqL.of h2, atI_nat hc, ?_⟩
      refine ⟨_, rfl, _, _, _, _, rfl, rfl, SqL.of h1, rfl, _, _, rfl, rfl, _, rfl, _, _, _, _, rfl, rfl, h1, rfl, ?_⟩
      refine ⟨_, rfl, _, _, _, _, rfl, rfl, SqL.of upd_same, rfl, _, _, rfl, rfl, .inr ⟨by decide, by decide⟩, _, rfl, _, _, rfl, rfl, .inl ⟨_, rfl, _, _, rfl, rfl, hbig, _, rfl, _, _, _, _, rfl, rfl, upd_same, rfl, ?_⟩⟩
      refine ⟨_, rfl, _, _, _, _, rfl, rfl, upd_same, rfl, ?_⟩
      have kk : Keep [p] H (upd (upd (upd H p (.lst (List.set [.ref q, .int (j : Int), .int i2, .int i3, .int i4, .int i5] 1 (.int ((j : Int) + 1))))) p
        (.lst (List.set (List.set [.ref q, .int (j : Int), .int i2, .int i3, .int i4, .int i5] 1 (.int ((j : Int) + 1))) 3 (.int ((i3 * 31 + ns[j]) % 2147483647))))) p
        (.lst (List.set (List.set (List.set [.ref q, .int (j : Int), .int i2, .int i3, .int i4, .int i5] 1 (.int ((j : Int) + 1))) 3 (.int ((i3 * 31 + ns[j]) % 2147483647))) 4 (.int 7)))) :=
        ((Keep.at_ (List.mem_singleton.mpr rfl)).then_at (List.mem_singleton.mpr rfl)).then_at (List.mem_singleton.mpr rfl)
      refine ⟨_, rfl, _, _, rfl, rfl, ⟨by decide, by decide, by decide⟩, _, _, rfl, rfl, _, rfl, iteD (fun _ => ?_) (fun _ => ?_)⟩
      · refine ⟨_, rfl, _, rfl, _, _, _, _, rfl, rfl, upd_same, rfl, ?_⟩
        exact ⟨_, _, _, _, _, _, rfl, upd_same, kk.then_at (List.mem_singleton.mpr rfl), by omega⟩
      · exact ⟨_, _, _, _, _, _, rfl, upd_same, kk, by omega⟩
    · rintro σ' H' ⟨c, j1, j2, j3, j4, j5, rfl, g1, kk, hj1⟩
      have g2 : H' q = some (.lst (ns.map V.int)) := kk q _ h2 (by simpa using hqp)
      refine ⟨_, rfl, _, _, _, _, rfl, rfl, SqL.of g1, rfl, _, _, rfl, rfl, _, rfl, iteD (fun _ => ?_) (fun _ => ?_)⟩
      · refine ⟨_, rfl, _, _, _, _, rfl, rfl, SqL.of g1, rfl, .inl ⟨_, rfl, _, rfl, _, _, rfl, rfl, hs0, ?_⟩⟩
        refine ⟨_, rfl, _, _, _, _, rfl, rfl, SqL.of g1, rfl, _, rfl, _, _, rfl, rfl, cdg, _, rfl, _, _, _, _, rfl, rfl, g1, rfl, ?_⟩
        refine ⟨_, rfl, _, _, _, _, rfl, rfl, upd_same, rfl, ?_⟩
        refine ⟨_, rfl, ?_⟩
        refine k _ _ (Int.emod_nonneg _ (by omega)) (Int.emod_lt_of_pos _ hs0) ⟨_, _, _, _, _, upd_same, ?_, hqp, hj1⟩ ((kk.then_at (List.mem_singleton.mpr rfl)).then_at (List.mem_singleton.mpr rfl))
        rw [upd_ne hqp, upd_ne hqp]; exact g2
      · refine ⟨_, rfl, _, _, _, _, rfl, rfl, SqL.of g1, rfl, _, _, rfl, rfl, _, rfl, _, _, _, _, rfl, rfl, g1, rfl, ?_⟩
        refine ⟨_, rfl, _, _, _, _, rfl, rfl, SqL.of upd_same, rfl, _, _, rfl, rfl, .inr ⟨by decide, by decide⟩, _, _, rfl, rfl, .inl ⟨_, rfl, _, _, rfl, rfl, hbig, _, rfl, _, _, _, _, rfl, rfl, upd_same, rfl, ?_⟩⟩
        refine ⟨_, rfl, _, _, _, _, rfl, rfl, SqL.of upd_same, rfl, _, _, rfl, rfl, .inr ⟨by decide, by decide⟩, _, _, rfl, rfl, .inl ⟨_, rfl, _, _, rfl, rfl, hbig, _, rfl, _, _, rfl, rfl, hs0, ?_⟩⟩
        refine k _ _ (Int.emod_nonneg _ (by omega)) (Int.emod_lt_of_pos _ hs0) ⟨_, _, _, _, _, upd_same, ?_, hqp, hj1⟩ ((kk.then_at (List.mem_singleton.mpr rfl)).then_at (List.mem_singleton.mpr rfl))
        rw [upd_ne hqp, upd_ne hqp]; exact g2
end

/-- tuples stand -/
def TK (H H' : Hp) : Prop := ∀ b xs, H b = some (.tup xs) → H' b = some (.tup xs)
theorem TK.refl (H : Hp) : TK H H := fun _ _ h => h
theorem TK.trans {H H1 H2 : Hp} (a : TK H H1) (b : TK H1 H2) : TK H H2 := fun c xs h => b c xs (a c xs h)
theorem TK.new {H : Hp} {p : Addr} {o : HO} (h : H p = none) : TK H (upd H p o) := fun b xs q => by rw [upd_ne (ne_of_none q h)]; exact q
theorem TK.lst {H : Hp} {p : Addr} {o : HO} {ys : List V} (h : H p = some (.lst ys)) : TK H (upd H p o) := fun b xs q => by
  rw [upd_ne (ne_of q h (by intro z; cases z))]; exact q
theorem Keep.tk {H H' : Hp} (k : Keep [] H H') : TK H H' := fun b xs q => k b _ q (by simp)
theorem Keep.tk1 {H H' : Hp} {p : Addr} {ys : List V} (k : Keep [p] H H') (h : H p = some (.lst ys)) : TK H H' := fun b xs q => k b _ q (by
  have := ne_of q h (by intro z; cases z)
  simpa using this)

/-! tuples that stand, in the walk's heap or in the module's -/
def KT (K : PySem.W.Frag) (a : Addr) (xs : List V) : Prop := ∃ (o : Obj) (its : Array Value) (n : Nat), K.lookup a = some o ∧ o.cls = .type "tuple" ∧ o.data = .seq its n ∧ its.size ≤ sizeLine ∧ Vals xs its.toList
def At (K : PySem.W.Frag) (H : Hp) (a : Addr) (xs : List V) : Prop := H a = some (.tup xs) ∨ KT K a xs
theorem At.sq {K : PySem.W.Frag} {H : Hp} {a : Addr} {xs : List V} (h : At K H a xs) : SqT K H a xs := by
  rcases h with h | h
  · exact SqT.of h
  · exact .inr h
theorem At.ty {K : PySem.W.Frag} {H : Hp} {a : Addr} {xs : List V} (h : At K H a xs) : TyX K H (.ref a) (.type "tuple") := by
  rcases h with h | ⟨o, its, n, h, c, _⟩
  · exact .base (.tup h)
  · exact .kTuple h c
theorem At.tk {K : PySem.W.Frag} {H H' : Hp} {a : Addr} {xs : List V} (k : TK H H') (h : At K H a xs) : At K H' a xs := by
  rcases h with h | h
  · exact .inl (k _ _ h)
  · exact .inr h
/-! the law's look whether two values are the same: only the answer True is told -/
def SameV (K : PySem.W.Frag) : Nat → Hp → V → V → Prop
  | 0, _, _, _ => False
  | n + 1, H, a, d => (a = d ∧ ((∃ x, d = .str x) ∨ (∃ i, d = .int i) ∨ (∃ b, d = .bl b) ∨ d = .non)) ∨
    ∃ p q xs ys, a = .ref p ∧ d = .ref q ∧ ((H p = some (.lst xs) ∧ H q = some (.lst ys)) ∨ (At K H p xs ∧ At K H q ys)) ∧ xs.length = ys.length ∧ xs.length ≤ sizeLine ∧
      ∀ (i : Nat) x y, xs[i]? = some x → ys[i]? = some y → SameV K n H x y
def sp_law_same (K : PySem.W.Frag) (n : Nat) : Sp := fun vs H Q _ => ∃ a d, vs = [a, d] ∧ SameV K n H a d ∧ Q (.bl true) H
theorem sameV_atom {K : PySem.W.Frag} {n : Nat} {H : Hp} {d : V} (h : (∃ x, d = .str x) ∨ (∃ i, d = .int i) ∨ (∃ b, d = .bl b) ∨ d = .non) : SameV K (n + 1) H d d := .inl ⟨rfl, h⟩
section
variable {K : PySem.W.Frag}
theorem kLT : PySem.W.kitOne K (.type "list") (.type "tuple") = some false := kit_ty (by decide +kernel)
theorem kLL : PySem.W.kitOne K (.type "list") (.type "list") = some true := kit_ty (by decide +kernel)
theorem kTT : PySem.W.kitOne K (.type "tuple") (.type "tuple") = some true := kit_ty (by decide +kernel)
theorem kTL : PySem.W.kitOne K (.type "tuple") (.type "list") = some false := kit_ty (by decide +kernel)
theorem kST : PySem.W.kitOne K (.type "str") (.type "tuple") = some false := kit_ty (by decide +kernel)
theorem kSL : PySem.W.kitOne K (.type "str") (.type "list") = some false := kit_ty (by decide +kernel)
theorem kSB : PySem.W.kitOne K (.type "str") (.type "bool") = some false := kit_ty (by decide +kernel)
theorem kSI : PySem.W.kitOne K (.type "str") (.type "int") = some false := kit_ty (by decide +kernel)
theorem kSS : PySem.W.kitOne K (.type "str") (.type "str") = some true := kit_ty (by decide +kernel)
theorem kIT : PySem.W.kitOne K (.type "int") (.type "tuple") = some false := kit_ty (by decide +kernel)
theorem kIL : PySem.W.kitOne K (.type "int") (.type "list") = some false := kit_ty (by decide +kernel)
theorem kIB : PySem.W.kitOne K (.type "int") (.type "bool") = some false := kit_ty (by decide +kernel)
theorem kII : PySem.W.kitOne K (.type "int") (.type "int") = some true := kit_ty (by decide +kernel)
theorem kBT : PySem.W.kitOne K (.type "bool") (.type "tuple") = some false := kit_ty (by decide +kernel)
theorem kBL : PySem.W.kitOne K (.type "bool") (.type "list") = some false := kit_ty (by decide +kernel)
theorem kBB : PySem.W.kitOne K (.type "bool") (.type "bool") = some true := kit_ty (by decide +kernel)
theorem kBI : PySem.W.kitOne K (.type "bool") (.type "int") = some true := kit_ty (by decide +kernel)
theorem kNT : PySem.W.kitOne K (.type "NoneType") (.type "tuple") = some false := kit_ty (by decide +kernel)
theorem kNL : PySem.W.kitOne K (.type "NoneType") (.type "list") = some false := kit_ty (by decide +kernel)
theorem kNB : PySem.W.kitOne K (.type "NoneType") (.type "bool") = some false := kit_ty (by decide +kernel)
theorem kNI : PySem.W.kitOne K (.type "NoneType") (.type "int") = some false := kit_ty (by decide +kernel)
end

section
variable {P : Program} {w : World} {K : PySem.W.Frag} {mg : Str → Option Value} {base : Heap} {C_Tape : Addr} {C_Thinker : Addr} {C_Brain : Addr} {C_Mind : Addr} {C_Frame : Addr} {C_Thinking : Addr} {T_EVENTS : Addr} {T_SIGNS : Addr}
theorem ok_law_same0 {f : Addr} {fd : FuncData} (D : C8.Def K mg "_law_same" s_law_same f fd) (b : Binds K fd ["actual", "due"] []) : C8.Cal P w K mg base 0 "_law_same" (sp_law_same K 0) [] :=
  ⟨f, fd, ["actual", "due"], [], ⟨fun vs H Q E h => (by obtain ⟨a, d, rfl, _⟩ := h; rfl), fun A outer s H args us vs Q E _ _ _ _ h => (by obtain ⟨a, d, _, z, _⟩ := h; exact z.elim)⟩, D.mgf, D.kp, b, .nil⟩
theorem ok_law_same {f : Addr} {fd : FuncData} (D : C8.Def K mg "_law_same" s_law_same f fd) (b : Binds K fd ["actual", "due"] []) (T : Txt K mg C_Tape C_Thinker C_Brain C_Mind C_Frame C_Thinking T_EVENTS T_SIGNS) {n k : Nat} (c_law_same : C8.Cal P w K mg base k "_law_same" (sp_law_same K n) []) :
    C8.Cal P w K mg base (k + 1) "_law_same" (sp_law_same K (n + 1)) [] := by
  refine cal0 D b .nil sc_law_same (fun vs H Q E h => ?_) (fun cdv A outer s H vs Q E hr h => ?_)
  · obtain ⟨a, d, rfl, _⟩ := h
    rfl
  · obtain ⟨a, d, rfl, hs, k⟩ := h
    have hu := hu_of hr
    refine ⟨_, (pss_cons (ps_if (PW.pt (pw_or (pt_val (pe_callB call_isi (by rfl) T.n_isinstance bo_isinstance (pa_cons (pv 1) (pa_cons (pe_bltn (v := .ty "tuple") (by rfl) T.n_tuple bo_tuple rfl) pa_nil)))) (pw_or1 (pt_val (pe_callB call_isi (by rfl) T.n_isinstance bo_isinstance (pa_cons (pv 1) (pa_cons (pe_bltn (v := .ty "list") (by rfl) T.n_list bo_list rfl) pa_nil)))))))
  (pss_cons (ps_if (PW.pt (pw_or (pt_cmpR op_ne (pe_callB call_isi (by rfl) T.n_isinstance bo_isinstance (pa_cons (pv 1) (pa_cons (pe_bltn (v := .ty "tuple") (by rfl) T.n_tuple bo_tuple rfl) pa_nil))) (pe_callB call_isi (by rfl) T.n_isinstance bo_isinstance (pa_cons (pv 0) (pa_cons (pe_bltn (v := .ty "tuple") (by rfl) T.n_tuple bo_tuple rfl) pa_nil))) (nomark _)) (pw_or1 (pt_cmpR op_ne (pe_callB call_isi (by rfl) T.n_isinstance bo_isinstance (pa_cons (pv 1) (pa_cons (pe_bltn (v := .ty "list") (by rfl) T.n_list bo_list rfl) pa_nil))) (pe_callB call_isi (by rfl) T.n_isinstance bo_isinstance (pa_cons (pv 0) (pa_cons (pe_bltn (v := .ty "list") (by rfl) T.n_list bo_list rfl) pa_nil))) (nomark _)))))
    (pss_one (ps_ret pe_bl))
    pss_nil)
  (pss_cons (ps_if (pt_cmpR op_ne (pe_callB call_len_seq (by rfl) T.n_len bo_len (pa_cons (pv 0) pa_nil)) (pe_callB call_len_seq (by rfl) T.n_len bo_len (pa_cons (pv 1) pa_nil)) (nomark _))
    (pss_one (ps_ret pe_bl))
    pss_nil)
  (pss_cons (ps_for PassesOwn.never rfl (pi_range1 (by rfl) T.n_range (pa_cons (pe_callB call_len_seq (by rfl) T.n_len bo_len (pa_cons (pv 1) pa_nil)) pa_nil)) (pg_name (i := 2) sc_law_same.nd rfl (by first | exact Or.inl rfl | exact Or.inr rfl))
    (pss_one (ps_if (pt_not (pt_val (pe_c c_law_same hr (by first | exact Nat.le_refl _ | decide | omega) rfl (pa_cons (pe_ix ix_seq (pv 0) (pv 2) (fun _ _ => rfl)) (pa_cons (pe_ix ix_seq (pv 1) (pv 2) (fun _ _ => rfl)) pa_nil)))))
      (pss_one (ps_ret pe_bl))
      pss_nil)))
  (pss_one (ps_ret pe_bl)))))
  pss_nil)
(pss_cons (ps_if (PW.pt (pw_or (pt_cmpR op_isN (pv 1) pe_non (nomark _)) (pw_or1 (pt_val (pe_callB call_isi (by rfl) T.n_isinstance bo_isinstance (pa_cons (pv 1) (pa_cons (pe_bltn (v := .ty "bool") (by rfl) T.n_bool bo_bool rfl) pa_nil)))))))
  (pss_one (ps_ret (pe_and (pe_cmpR op_eq (pe_cmpR op_isN (pv 0) pe_non (nomark _)) (pe_cmpR op_isN (pv 1) pe_non (nomark _)) (nomark _)) (pe_and (pe_or (pe_cmpR op_isN (pv 1) pe_non (nomark _)) (pe_one (pe_callB call_isi (by rfl) T.n_isinstance bo_isinstance (pa_cons (pv 0) (pa_cons (pe_bltn (v := .ty "bool") (by rfl) T.n_bool bo_bool rfl) pa_nil))))) (pe_one (pe_cmpR op_eq (pv 0) (pv 1) (nomark _)))))))
  pss_nil)
(pss_cons (ps_if (pt_val (pe_callB call_isi (by rfl) T.n_isinstance bo_isinstance (pa_cons (pv 1) (pa_cons (pe_bltn (v := .ty "int") (by rfl) T.n_int bo_int rfl) pa_nil))))
  (pss_one (ps_ret (pe_and (pe_callB call_isi (by rfl) T.n_isinstance bo_isinstance (pa_cons (pv 0) (pa_cons (pe_bltn (v := .ty "int") (by rfl) T.n_int bo_int rfl) pa_nil))) (pe_and (pe_not (pe_callB call_isi (by rfl) T.n_isinstance bo_isinstance (pa_cons (pv 0) (pa_cons (pe_bltn (v := .ty "bool") (by rfl) T.n_bool bo_bool rfl) pa_nil)))) (pe_one (pe_cmpR op_eq (pv 0) (pv 1) (nomark _)))))))
  pss_nil)
(pss_one (ps_ret (pe_and (pe_callB call_isi (by rfl) T.n_isinstance bo_isinstance (pa_cons (pv 0) (pa_cons (pe_bltn (v := .ty "str") (by rfl) T.n_str bo_str rfl) pa_nil))) (pe_one (pe_cmpR op_eq (pv 0) (pv 1) (nomark _))))))))), ?_⟩
    -- the part behind the lengths, for lists and for tuples
    rcases hs with ⟨rfl, ⟨x, rfl⟩ | ⟨x, rfl⟩ | ⟨x, rfl⟩ | rfl⟩ | ⟨p, q, xs, ys, rfl, rfl, hh, hl, hz, hall⟩
    · refine ⟨_, rfl, _, _, _, _, _, rfl, .ty _, .base (.str x), kST, _, rfl, iteF ⟨_, rfl, _, _, _, _, _, rfl, .ty _, .base (.str x), kSL, _, rfl, iteF ?_⟩⟩
      refine ⟨_, rfl, rfl, _, rfl, iteDF (by simp) ⟨_, rfl, _, _, _, _, _, rfl, .ty _, .base (.str x), kSB, _, rfl, iteF ?_⟩⟩
      refine ⟨_, rfl, _, _, _, _, _, rfl, .ty _, .base (.str x), kSI, _, rfl, iteF ?_⟩
      refine ⟨_, rfl, _, _, _, _, _, rfl, .ty _, .base (.str x), kSS, _, rfl, iteT ⟨_, rfl, _, rfl, rfl, ?_⟩⟩
      rw [decide_eq_true rfl]; exact k
    · refine ⟨_, rfl, _, _, _, _, _, rfl, .ty _, .base (.int x), kIT, _, rfl, iteF ⟨_, rfl, _, _, _, _, _, rfl, .ty _, .base (.int x), kIL, _, rfl, iteF ?_⟩⟩
      refine ⟨_, rfl, rfl, _, rfl, iteDF (by simp) ⟨_, rfl, _, _, _, _, _, rfl, .ty _, .base (.int x), kIB, _, rfl, iteF ?_⟩⟩
      refine ⟨_, rfl, _, _, _, _, _, rfl, .ty _, .base (.int x), kII, _, rfl, iteT ?_⟩
      refine ⟨_, rfl, _, _, _, _, _, rfl, .ty _, .base (.int x), kII, _, rfl, iteT ⟨_, rfl, _, _, _, _, _, rfl, .ty _, .base (.int x), kIB, _, rfl, _, rfl, iteT ⟨_, rfl, _, rfl, rfl, ?_⟩⟩⟩
      rw [decide_eq_true rfl]; exact k
    · refine ⟨_, rfl, _, _, _, _, _, rfl, .ty _, .base (.bl x), kBT, _, rfl, iteF ⟨_, rfl, _, _, _, _, _, rfl, .ty _, .base (.bl x), kBL, _, rfl, iteF ?_⟩⟩
      refine ⟨_, rfl, rfl, _, rfl, iteDF (by simp) ⟨_, rfl, _, _, _, _, _, rfl, .ty _, .base (.bl x), kBB, _, rfl, iteT ?_⟩⟩
      refine ⟨_, rfl, rfl, _, rfl, rfl, rfl, _, rfl, iteDT (by simp) ?_⟩
      refine ⟨_, rfl, rfl, _, rfl, iteDF (by simp) ?_⟩
      refine ⟨_, rfl, _, _, _, _, _, rfl, .ty _, .base (.bl x), kBB, ?_⟩
      refine ⟨_, rfl, iteT ⟨_, rfl, _, rfl, rfl, ?_⟩⟩
      rw [decide_eq_true rfl]; exact k
    · refine ⟨_, rfl, _, _, _, _, _, rfl, .ty _, .base .non, kNT, _, rfl, iteF ⟨_, rfl, _, _, _, _, _, rfl, .ty _, .base .non, kNL, _, rfl, iteF ?_⟩⟩
      refine ⟨_, rfl, rfl, _, rfl, iteDT (by simp) ?_⟩
      refine ⟨_, rfl, rfl, _, rfl, rfl, rfl, _, rfl, iteDT (by simp) ?_⟩
      refine ⟨_, rfl, rfl, _, rfl, iteDT (by simp) ?_⟩
      refine ⟨_, rfl, iteT ⟨_, rfl, _, rfl, rfl, ?_⟩⟩
      rw [decide_eq_true rfl]; exact k
    · obtain ⟨t, b1, b2, ty1, ty2, k1, k2, hb, sq⟩ : ∃ (t : Value) (b1 b2 : Bool), TyX K H (.ref p) t ∧ TyX K H (.ref q) t ∧ PySem.W.kitOne K t (.type "tuple") = some b1 ∧ PySem.W.kitOne K t (.type "list") = some b2 ∧ (b1 = true ∨ b2 = true) ∧
          ((SqL K H p xs ∧ SqL K H q ys) ∨ (SqT K H p xs ∧ SqT K H q ys)) := by
        rcases hh with ⟨h1, h2⟩ | ⟨h1, h2⟩
        · exact ⟨_, _, _, .base (.lst h1), .base (.lst h2), kLT, kLL, .inr rfl, .inl ⟨SqL.of h1, SqL.of h2⟩⟩
        · exact ⟨_, _, _, h1.ty, h2.ty, kTT, kTL, .inl rfl, .inr ⟨h1.sq, h2.sq⟩⟩
      have sqp : SqL K H p xs ∨ SqT K H p xs := sq.elim (fun z => .inl z.1) fun z => .inr z.1
      have sqq : SqL K H q ys ∨ SqT K H q ys := sq.elim (fun z => .inl z.2) fun z => .inr z.2
      have bz : (ys.length : Int) < 2 ^ 62 := by
        have e : sizeLine = 16777216 := sizeLine_eq
        have : ys.length ≤ 16777216 := by omega
        omega
      -- the part behind the first test
      have rest : ∀ {D : Ends} {t1 : TS}, t1 D [some (.ref p), some (.ref q), none] H → t1 D [some (.ref p), some (.ref q), none] H := fun z => z
      refine ⟨_, rfl, _, _, _, _, _, rfl, .ty _, ty2, k1, _, rfl, iteB (fun e1 => ?_) (fun e1 => ⟨_, rfl, _, _, _, _, _, rfl, .ty _, ty2, k2, _, rfl, iteB (fun e2 => ?_) (fun e2 => ?_)⟩)⟩
      rotate_left 2
      · rcases hb with z | z
        · rw [e1] at z; cases z
        · rw [e2] at z; cases z
      all_goals
        refine ⟨_, rfl, _, _, _, _, _, rfl, .ty _, ty2, k1, _, rfl, _, _, _, _, _, rfl, .ty _, ty1, k1, rfl, _, rfl, iteNF (by simp) ?_⟩
        refine ⟨_, rfl, _, _, _, _, _, rfl, .ty _, ty2, k2, _, rfl, _, _, _, _, _, rfl, .ty _, ty1, k2, rfl, _, rfl, iteNF (by simp) ?_⟩
        refine ⟨_, rfl, _, _, rfl, sqp, _, rfl, _, _, rfl, sqq, rfl, _, rfl, iteNF (by rw [hl]) ?_⟩
        refine ⟨_, rfl, _, _, rfl, sqq, _, rfl, by omega, bz, for_range (lo := 0) (n := ys.length) (fun i σ H' => ∃ kv, σ = [some (.ref p), some (.ref q), kv] ∧ H' = H) ⟨none, rfl, rfl⟩ ?_ ?_⟩
        · rintro i σ H' hi ⟨kv, rfl, rfl⟩
          have hx : xs[i]? = some (xs[i]'(by omega)) := List.getElem?_eq_getElem _
          have hy : ys[i]? = some ys[i] := List.getElem?_eq_getElem _
          have e0 : (0 : Int) + (i : Int) = (i : Int) := by omega
          rw [e0]
          rcases sq with ⟨s1, s2⟩ | ⟨s1, s2⟩
          · refine ⟨_, rfl, _, rfl, .inl ⟨_, _, _, _, rfl, rfl, s1, atI_nat hx, _, rfl, _, rfl, .inl ⟨_, _, _, _, rfl, rfl, s2, atI_nat hy, ?_⟩⟩⟩
            exact ⟨_, _, rfl, hall i _ _ hx hy, _, rfl, iteF ⟨_, rfl, rfl⟩⟩
          · refine ⟨_, rfl, _, rfl, .inr (.inl ⟨_, _, _, _, rfl, rfl, s1, atI_nat hx, _, rfl, _, rfl, .inr (.inl ⟨_, _, _, _, rfl, rfl, s2, atI_nat hy, ?_⟩)⟩)⟩
            exact ⟨_, _, rfl, hall i _ _ hx hy, _, rfl, iteF ⟨_, rfl, rfl⟩⟩
        · rintro σ H' ⟨kv, rfl, rfl⟩
          exact k
end

/-! expressions: data, values, folding -/
inductive Ex where
  | num (n : Int)
  | var (x : Str)
  | long
  | view (e : Ex)
  | pick (x : Str) (l r : Ex)
  | op (s : Str) (l r : Ex)
def dEx : Ex → PyData
  | .num n => .tuple [.str "number", .int n]
  | .var x => .tuple [.str "variable", .str x]
  | .long => .tuple [.str "long"]
  | .view e => .tuple [.str "view", dEx e]
  | .pick x l r => .tuple [.str "pick", .str x, dEx l, dEx r]
  | .op s l r => .tuple [.str s, dEx l, dEx r]
def Ex.dep : Ex → Nat
  | .num _ => 1
  | .var _ => 1
  | .long => 1
  | .view e => e.dep + 1
  | .pick _ l r => max l.dep r.dep + 1
  | .op _ l r => max l.dep r.dep + 1
theorem Ex.dep_pos : ∀ e : Ex, 1 ≤ e.dep
  | .num _ => Nat.le_refl _
  | .var _ => Nat.le_refl _
  | .long => Nat.le_refl _
  | .view e => by unfold Ex.dep; omega
  | .pick _ l r => by unfold Ex.dep; omega
  | .op _ l r => by unfold Ex.dep; omega
def sgL : List Str := ["+", "-", "*", "/", "mod", "<", "="]
def strOK (x : Str) : Bool := x.cps.all (· < 0x110000)
def Ex.Ok (ns ps : List Str) : Ex → Prop
  | .num n => 0 ≤ n ∧ n < 65536
  | .var x => x ∈ ns
  | .long => True
  | .view e => e.Ok ns ps
  | .pick x l r => x ∈ ps ∧ l.Ok ns ps ∧ r.Ok ns ps
  | .op s l r => s ∈ sgL ∧ l.Ok ns ps ∧ r.Ok ns ps
inductive EV (K : PySem.W.Frag) (H : Hp) : V → Ex → Prop
  | num {a : Addr} {n : Int} : At K H a [.str "number", .int n] → EV K H (.ref a) (.num n)
  | var {a : Addr} {x : Str} : At K H a [.str "variable", .str x] → EV K H (.ref a) (.var x)
  | long {a : Addr} : At K H a [.str "long"] → EV K H (.ref a) .long
  | view {a : Addr} {v : V} {e : Ex} : At K H a [.str "view", v] → EV K H v e → EV K H (.ref a) (.view e)
  | pick {a : Addr} {x : Str} {v u : V} {l r : Ex} : At K H a [.str "pick", .str x, v, u] → EV K H v l → EV K H u r → EV K H (.ref a) (.pick x l r)
  | op {a : Addr} {s : Str} {v u : V} {l r : Ex} : At K H a [.str s, v, u] → EV K H v l → EV K H u r → EV K H (.ref a) (.op s l r)
theorem EV.tk {K : PySem.W.Frag} {H H' : Hp} (k : TK H H') {v : V} {e : Ex} (h : EV K H v e) : EV K H' v e := by
  induction h with
  | num h => exact .num (h.tk k)
  | var h => exact .var (h.tk k)
  | long h => exact .long (h.tk k)
  | view h _ i => exact .view (h.tk k) i
  | pick h _ _ i j => exact .pick (h.tk k) i j
  | op h _ _ i j => exact .op (h.tk k) i j
theorem EV.dp {K : PySem.W.Frag} {H : Hp} {v : V} {e : Ex} (h : EV K H v e) : Dp K H v (dEx e) := by
  induction h with
  | num h => exact .tup h.sq (.cons (.str _) (.cons (.int _) .nil))
  | var h => exact .tup h.sq (.cons (.str _) (.cons (.str _) .nil))
  | long h => exact .tup h.sq (.cons (.str _) .nil)
  | view h _ i => exact .tup h.sq (.cons (.str _) (.cons i .nil))
  | pick h _ _ i j => exact .tup h.sq (.cons (.str _) (.cons (.str _) (.cons i (.cons j .nil))))
  | op h _ _ i j => exact .tup h.sq (.cons (.str _) (.cons i (.cons j .nil)))
theorem paired_get {F : V → V → Prop} {xs ys : List V} (h : Paired F xs ys) : xs.length = ys.length ∧ ∀ (i : Nat) x y, xs[i]? = some x → ys[i]? = some y → F x y := by
  induction h with
  | nil => exact ⟨rfl, fun i x y h => by simp at h⟩
  | cons h _ ih =>
    refine ⟨by rw [List.length_cons, List.length_cons, ih.1], fun i x y hx hy => ?_⟩
    cases i with
    | zero => simp at hx hy; subst hx hy; exact h
    | succ i => exact ih.2 i x y (by simpa using hx) (by simpa using hy)
theorem sameT {K : PySem.W.Frag} {H : Hp} {n : Nat} {p q : Addr} {xs ys : List V} (h1 : At K H p xs) (h2 : At K H q ys) (h : Paired (SameV K n H) xs ys) (hl : xs.length ≤ 1000000) : SameV K (n + 1) H (.ref p) (.ref q) :=
  .inr ⟨p, q, _, _, rfl, rfl, .inr ⟨h1, h2⟩, (paired_get h).1, smallM hl, (paired_get h).2⟩
theorem same_ev {K : PySem.W.Frag} {H : Hp} {v : V} {e : Ex} (h : EV K H v e) : ∀ {u : V} {n : Nat}, EV K H u e → e.dep ≤ n → SameV K (n + 1) H v u := by
  have st : ∀ {n : Nat} (x : Str), SameV K (n + 1) H (.str x) (.str x) := fun x => .inl ⟨rfl, .inl ⟨x, rfl⟩⟩
  have it : ∀ {n : Nat} (x : Int), SameV K (n + 1) H (.int x) (.int x) := fun x => .inl ⟨rfl, .inr (.inl ⟨x, rfl⟩)⟩
  induction h with
  | num h =>
    intro u n g d
    obtain ⟨n, rfl⟩ : ∃ m, n = m + 1 := ⟨n - 1, by have : (1 : Nat) ≤ n := d; omega⟩
    cases g with
    | num g => exact sameT h g (.cons (st _) (.cons (it _) .nil)) (by simp)
  | var h =>
    intro u n g d
    obtain ⟨n, rfl⟩ : ∃ m, n = m + 1 := ⟨n - 1, by have : (1 : Nat) ≤ n := d; omega⟩
    cases g with
    | var g => exact sameT h g (.cons (st _) (.cons (st _) .nil)) (by simp)
  | long h =>
    intro u n g d
    obtain ⟨n, rfl⟩ : ∃ m, n = m + 1 := ⟨n - 1, by have : (1 : Nat) ≤ n := d; omega⟩
    cases g with
    | long g => exact sameT h g (.cons (st _) .nil) (by simp)
  | view h _ i =>
    intro u n g d
    unfold Ex.dep at d
    obtain ⟨n, rfl⟩ : ∃ m, n = m + 1 := ⟨n - 1, by omega⟩
    cases g with
    | view g g1 => exact sameT h g (.cons (st _) (.cons (i g1 (by omega)) .nil)) (by simp)
  | pick h _ _ i j =>
    intro u n g d
    unfold Ex.dep at d
    obtain ⟨n, rfl⟩ : ∃ m, n = m + 1 := ⟨n - 1, by omega⟩
    cases g with
    | pick g g1 g2 => exact sameT h g (.cons (st _) (.cons (st _) (.cons (i g1 (by omega)) (.cons (j g2 (by omega)) .nil)))) (by simp)
  | op h _ _ i j =>
    intro u n g d
    unfold Ex.dep at d
    obtain ⟨n, rfl⟩ : ∃ m, n = m + 1 := ⟨n - 1, by omega⟩
    cases g with
    | op g g1 g2 => exact sameT h g (.cons (st _) (.cons (i g1 (by omega)) (.cons (j g2 (by omega)) .nil))) (by simp)
def EQ (a b : Ex) : Bool := PyData.eqv (dEx a) (dEx b)
def dL : Ex → List PyData
  | .num n => [.str "number", .int n]
  | .var x => [.str "variable", .str x]
  | .long => [.str "long"]
  | .view e => [.str "view", dEx e]
  | .pick x l r => [.str "pick", .str x, dEx l, dEx r]
  | .op s l r => [.str s, dEx l, dEx r]
theorem dEx_eq (e : Ex) : dEx e = .tuple (dL e) := by cases e <;> rfl
theorem eqvA_cons (x y : PyData) (xs ys : List PyData) : PyData.eqvAll (x :: xs) (y :: ys) = (PyData.eqv x y && PyData.eqvAll xs ys) := by rw [PyData.eqvAll]
theorem eqvA_len : ∀ xs ys : List PyData, PyData.eqvAll xs ys = true → xs.length = ys.length
  | [], [], _ => rfl
  | [], _ :: _, h => by simp [PyData.eqvAll] at h
  | _ :: _, [], h => by simp [PyData.eqvAll] at h
  | x :: xs, y :: ys, h => by
    rw [eqvA_cons, Bool.and_eq_true] at h
    rw [List.length_cons, List.length_cons, eqvA_len xs ys h.2]
theorem eqv_tup (xs ys : List PyData) : PyData.eqv (.tuple xs) (.tuple ys) = PyData.eqvAll xs ys := by rw [PyData.eqv]
theorem eqv_ti (xs : List PyData) (n : Int) : PyData.eqv (.tuple xs) (.int n) = false := by simp [PyData.eqv]
theorem eqv_it (xs : List PyData) (n : Int) : PyData.eqv (.int n) (.tuple xs) = false := by simp [PyData.eqv]
theorem eqv_ts (xs : List PyData) (n : Str) : PyData.eqv (.tuple xs) (.str n) = false := by simp [PyData.eqv]
theorem eqv_st (xs : List PyData) (n : Str) : PyData.eqv (.str n) (.tuple xs) = false := by simp [PyData.eqv]
theorem eqv_is (m : Int) (n : Str) : PyData.eqv (.int m) (.str n) = false := by simp [PyData.eqv]
theorem eqv_si (m : Int) (n : Str) : PyData.eqv (.str n) (.int m) = false := by simp [PyData.eqv]
theorem eqv_ii {m n : Int} (h : PyData.eqv (.int m) (.int n) = true) : m = n := by simpa [PyData.eqv] using h
theorem eqv_ss {m n : Str} (h : PyData.eqv (.str m) (.str n) = true) : m = n := by simpa [PyData.eqv] using h
theorem eq_sound : ∀ a b : Ex, EQ a b = true → a = b := by
  intro a
  have hEQ : ∀ x y : Ex, EQ x y = PyData.eqvAll (dL x) (dL y) := fun x y => by unfold EQ; rw [dEx_eq, dEx_eq, eqv_tup]
  induction a with
  | num n =>
    intro b h
    rw [hEQ] at h
    have hl := eqvA_len _ _ h
    cases b with
    | num m => simp only [dL, eqvA_cons, Bool.and_eq_true] at h; rw [eqv_ii h.2.1]
    | var m => simp only [dL, eqvA_cons, Bool.and_eq_true, eqv_is] at h; exact absurd h.2.1 (by simp)
    | view m => simp only [dL, eqvA_cons, Bool.and_eq_true] at h; rw [dEx_eq, eqv_it] at h; exact absurd h.2.1 (by simp)
    | _ => simp [dL] at hl
  | var n =>
    intro b h
    rw [hEQ] at h
    have hl := eqvA_len _ _ h
    cases b with
    | num m => simp only [dL, eqvA_cons, Bool.and_eq_true, eqv_si] at h; exact absurd h.2.1 (by simp)
    | var m => simp only [dL, eqvA_cons, Bool.and_eq_true] at h; rw [eqv_ss h.2.1]
    | view m => simp only [dL, eqvA_cons, Bool.and_eq_true] at h; rw [dEx_eq, eqv_st] at h; exact absurd h.2.1 (by simp)
    | _ => simp [dL] at hl
  | long =>
    intro b h
    rw [hEQ] at h
    have hl := eqvA_len _ _ h
    cases b with
    | long => rfl
    | _ => simp [dL] at hl
  | view e i =>
    intro b h
    rw [hEQ] at h
    have hl := eqvA_len _ _ h
    cases b with
    | num m => simp only [dL, eqvA_cons, Bool.and_eq_true] at h; rw [dEx_eq, eqv_ti] at h; exact absurd h.2.1 (by simp)
    | var m => simp only [dL, eqvA_cons, Bool.and_eq_true] at h; rw [dEx_eq, eqv_ts] at h; exact absurd h.2.1 (by simp)
    | view m => simp only [dL, eqvA_cons, Bool.and_eq_true] at h; rw [i m h.2.1]
    | _ => simp [dL] at hl
  | pick x l r i j =>
    intro b h
    rw [hEQ] at h
    have hl := eqvA_len _ _ h
    cases b with
    | pick y l' r' => simp only [dL, eqvA_cons, Bool.and_eq_true] at h; rw [eqv_ss h.2.1, i l' h.2.2.1, j r' h.2.2.2.1]
    | _ => simp [dL] at hl
  | op x l r i j =>
    intro b h
    rw [hEQ] at h
    have hl := eqvA_len _ _ h
    cases b with
    | op y l' r' => simp only [dL, eqvA_cons, Bool.and_eq_true] at h; rw [eqv_ss h.1, i l' h.2.1, j r' h.2.2.1]
    | _ => simp [dL] at hl
theorem sg_ok : ∀ s ∈ sgL, PyData.strOk s = true := by decide +kernel
theorem kw_ok : PyData.strOk "number" = true ∧ PyData.strOk "variable" = true ∧ PyData.strOk "long" = true ∧ PyData.strOk "view" = true ∧ PyData.strOk "pick" = true := by decide +kernel
theorem canLay_ex {ns ps : List Str} (hn : ∀ x ∈ ns, PyData.strOk x = true) (hp : ∀ x ∈ ps, PyData.strOk x = true) : ∀ e : Ex, e.Ok ns ps → (dEx e).canLay0 = true
  | .num _, _ => by simp only [dEx, PyData.canLay0, PyData.canLayAll0, Bool.and_true, kw_ok.1]
  | .var x, h => by simp only [dEx, PyData.canLay0, PyData.canLayAll0, Bool.and_true, hn x h, kw_ok.2.1]
  | .long, _ => by simp only [dEx, PyData.canLay0, PyData.canLayAll0, Bool.and_true, kw_ok.2.2.1]
  | .view e, h => by
    simp only [dEx, PyData.canLay0, PyData.canLayAll0, Bool.and_true, canLay_ex hn hp e h, kw_ok.2.2.2.1]
  | .pick x l r, ⟨h1, h2, h3⟩ => by
    simp only [dEx, PyData.canLay0, PyData.canLayAll0, Bool.and_true, canLay_ex hn hp l h2, canLay_ex hn hp r h3, hp x h1, kw_ok.2.2.2.2]
  | .op s l r, ⟨h1, h2, h3⟩ => by
    simp only [dEx, PyData.canLay0, PyData.canLayAll0, Bool.and_true, canLay_ex hn hp l h2, canLay_ex hn hp r h3, sg_ok s h1]
theorem depth_ex : ∀ e : Ex, (dEx e).depth ≤ e.dep + 1
  | .num _ => by simp [dEx, PyData.depth, PyData.depthAll, Ex.dep]
  | .var x => by simp [dEx, PyData.depth, PyData.depthAll, Ex.dep]
  | .long => by simp [dEx, PyData.depth, PyData.depthAll, Ex.dep]
  | .view e => by have := depth_ex e; simp only [dEx, PyData.depth, PyData.depthAll, Ex.dep]; omega
  | .pick x l r => by have := depth_ex l; have := depth_ex r; simp only [dEx, PyData.depth, PyData.depthAll, Ex.dep]; omega
  | .op s l r => by have := depth_ex l; have := depth_ex r; simp only [dEx, PyData.depth, PyData.depthAll, Ex.dep]; omega
def NamesOk (ns : List Str) : Prop := ∀ x ∈ ns, PyData.strOk x = true
theorem shaped_ex {ns ps : List Str} (hn : NamesOk ns) (hp : NamesOk ps) {e : Ex} (h : e.Ok ns ps) (hd : e.dep ≤ 60) : SeqAt.shaped (dEx e) = true := by
  unfold SeqAt.shaped
  rw [Bool.and_eq_true]
  exact ⟨canLay_ex hn hp e h, decide_eq_true (by have := depth_ex e; omega)⟩
def comb (s : Str) (a b : Int) : Int :=
  if s = "+" then (a + b) % 65536 else if s = "-" then (if a - b > 0 then a - b else 0) else if s = "*" then a * b % 65536 else if s = "/" then (if b > 0 then a / b else 0)
  else if s = "mod" then (if b > 0 then a % b else 0) else if s = "<" then (if a < b then 1 else 0) else (if a = b then 1 else 0)
theorem comb_add (a b : Int) : comb "+" a b = (a + b) % 65536 := by unfold comb; rw [if_pos rfl]
theorem comb_sub (a b : Int) : comb "-" a b = if a - b > 0 then a - b else 0 := by unfold comb; rw [if_neg (by decide +kernel), if_pos rfl]
theorem comb_mul (a b : Int) : comb "*" a b = a * b % 65536 := by unfold comb; rw [if_neg (by decide +kernel), if_neg (by decide +kernel), if_pos rfl]
theorem comb_div (a b : Int) : comb "/" a b = if b > 0 then a / b else 0 := by unfold comb; rw [if_neg (by decide +kernel), if_neg (by decide +kernel), if_neg (by decide +kernel), if_pos rfl]
theorem comb_mod (a b : Int) : comb "mod" a b = if b > 0 then a % b else 0 := by unfold comb; rw [if_neg (by decide +kernel), if_neg (by decide +kernel), if_neg (by decide +kernel), if_neg (by decide +kernel), if_pos rfl]
theorem comb_lt (a b : Int) : comb "<" a b = if a < b then 1 else 0 := by unfold comb; rw [if_neg (by decide +kernel), if_neg (by decide +kernel), if_neg (by decide +kernel), if_neg (by decide +kernel), if_neg (by decide +kernel), if_pos rfl]
theorem comb_eq (a b : Int) : comb "=" a b = if a = b then 1 else 0 := by unfold comb; rw [if_neg (by decide +kernel), if_neg (by decide +kernel), if_neg (by decide +kernel), if_neg (by decide +kernel), if_neg (by decide +kernel), if_neg (by decide +kernel)]
theorem sg_cases {s : Str} (h : s ∈ sgL) : s = "+" ∨ s = "-" ∨ s = "*" ∨ s = "/" ∨ s = "mod" ∨ s = "<" ∨ s = "=" := by
  simpa [sgL] using h
theorem comb_range {s : Str} {a b : Int} (h : s ∈ sgL) (a0 : 0 ≤ a) (a1 : a < 65536) (b0 : 0 ≤ b) (b1 : b < 65536) : 0 ≤ comb s a b ∧ comb s a b < 65536 := by
  rcases sg_cases h with rfl | rfl | rfl | rfl | rfl | rfl | rfl
  · rw [comb_add]; omega
  · rw [comb_sub]; split <;> omega
  · rw [comb_mul]; exact ⟨Int.emod_nonneg _ (by decide), Int.emod_lt_of_pos _ (by decide)⟩
  · rw [comb_div]
    split
    · exact ⟨Int.ediv_nonneg a0 b0, Int.lt_of_le_of_lt (Int.ediv_le_self _ a0) a1⟩
    · omega
  · rw [comb_mod]
    split
    · rename_i hb
      have := Int.emod_lt_of_pos a hb
      exact ⟨Int.emod_nonneg _ (by omega), by omega⟩
    · omega
  · rw [comb_lt]; split <;> omega
  · rw [comb_eq]; split <;> omega
def val (tb : Str → Int) (on : Str → Bool) (seen : List Int) : Ex → Int
  | .num n => n
  | .var x => tb x
  | .long => if (65535 : Int) < seen.length then 65535 else seen.length
  | .view e => if val tb on seen e < seen.length then seen.getD (val tb on seen e).toNat 0 else 0
  | .pick x l r => if on x = true then val tb on seen l else val tb on seen r
  | .op s l r => comb s (val tb on seen l) (val tb on seen r)
def TbOk (ns : List Str) (tb : Str → Int) : Prop := ∀ x ∈ ns, 0 ≤ tb x ∧ tb x < 65536
def SeenOk (seen : List Int) : Prop := ∀ x ∈ seen, 0 ≤ x ∧ x < 65536
theorem val_range {ns ps : List Str} {tb : Str → Int} {on : Str → Bool} {seen : List Int} (ht : TbOk ns tb) (hs : SeenOk seen) : ∀ e : Ex, e.Ok ns ps → 0 ≤ val tb on seen e ∧ val tb on seen e < 65536
  | .num n, h => h
  | .var x, h => ht x h
  | .long, _ => by unfold val; split <;> omega
  | .view e, h => by
    unfold val
    split
    · rename_i q
      have := val_range (on := on) ht hs e h
      have hl : (val tb on seen e).toNat < seen.length := by omega
      rw [List.getD_eq_getElem?_getD, List.getElem?_eq_getElem hl]
      exact hs _ (List.getElem_mem hl)
    · omega
  | .pick x l r, ⟨_, h2, h3⟩ => by
    unfold val
    split
    · exact val_range ht hs l h2
    · exact val_range ht hs r h3
  | .op s l r, ⟨h1, h2, h3⟩ => by
    unfold val
    have a := val_range (on := on) ht hs l h2
    have b := val_range (on := on) ht hs r h3
    exact comb_range h1 a.1 a.2 b.1 b.2
/-! the heap's parts for a value -/
def DcB (H : Hp) (a : Addr) (ps : List Str) (on : Str → Bool) : Prop := ∃ kvs : List (Key × V), H a = some (.dK kvs) ∧ ∀ x ∈ ps, valV kvs (.inr x) = some (.bl (on x))
def DcI (H : Hp) (a : Addr) (ns : List Str) (tb : Str → Int) : Prop := ∃ kvs : List (Key × V), H a = some (.dK kvs) ∧ ∀ x ∈ ns, valV kvs (.inr x) = some (.int (tb x))
theorem DcB.get {H : Hp} {a : Addr} {ps : List Str} {on : Str → Bool} (h : DcB H a ps on) {x : Str} (hx : x ∈ ps) : DGet H a (.str x) (some (.bl (on x))) := by
  obtain ⟨kvs, e, q⟩ := h
  rw [← q x hx]
  exact DGet.k (k := .inr x) e
theorem DcI.get {H : Hp} {a : Addr} {ps : List Str} {on : Str → Int} (h : DcI H a ps on) {x : Str} (hx : x ∈ ps) : DGet H a (.str x) (some (.int (on x))) := by
  obtain ⟨kvs, e, q⟩ := h
  rw [← q x hx]
  exact DGet.k (k := .inr x) e

theorem nes {x y : Str} (h : x ≠ y) : ¬ V.str x = V.str y := fun z => h (V.str.inj z)
theorem sg_not : ∀ s ∈ sgL, s ≠ "number" ∧ s ≠ "variable" ∧ s ≠ "long" ∧ s ≠ "view" ∧ s ≠ "pick" := by decide +kernel
def sp_combine : Sp := fun vs H Q _ => ∃ s a b, vs = [.str s, .int a, .int b] ∧ s ∈ sgL ∧ 0 ≤ a ∧ a < 65536 ∧ 0 ≤ b ∧ b < 65536 ∧ Q (.int (comb s a b)) H
structure VEnv (K : PySem.W.Frag) (H : Hp) (td od sa : Addr) (ns ps : List Str) (tb : Str → Int) (on : Str → Bool) (seen : List Int) : Prop where
  t : DcI H td ns tb
  o : DcB H od ps on
  s : SqT K H sa (seen.map V.int)
  tok : TbOk ns tb
  sok : SeenOk seen
  len : seen.length ≤ 1000000
def sp_value (K : PySem.W.Frag) (n : Nat) : Sp := fun vs H Q _ => ∃ v td od sa e ns ps tb on seen, vs = [v, .ref td, .ref od, .ref sa] ∧ EV K H v e ∧ e.Ok ns ps ∧ e.dep ≤ n ∧ VEnv K H td od sa ns ps tb on seen ∧ Q (.int (val tb on seen e)) H
theorem ev_range {K : PySem.W.Frag} {H : Hp} {v : V} {e : Ex} {ns ps : List Str} {tb : Str → Int} {on : Str → Bool} {seen : List Int} (ht : TbOk ns tb) (hs : SeenOk seen) (_ : EV K H v e) (h : e.Ok ns ps) : 0 ≤ val tb on seen e ∧ val tb on seen e < 65536 := val_range ht hs e h
theorem seen_at {seen : List Int} {z : Int} (h0 : 0 ≤ z) (h : z < seen.length) : atI (seen.map V.int) z = some (.int (seen.getD z.toNat 0)) := by
  obtain ⟨m, rfl⟩ : ∃ m : Nat, z = (m : Int) := ⟨z.toNat, by omega⟩
  have hm : m < seen.length := by omega
  refine atI_nat ?_
  rw [List.getElem?_map, List.getD_eq_getElem?_getD, Int.toNat_natCast, List.getElem?_eq_getElem hm]; rfl
section
variable {P : Program} {w : World} {K : PySem.W.Frag} {mg : Str → Option Value} {base : Heap} {C_Tape : Addr} {C_Thinker : Addr} {C_Brain : Addr} {C_Mind : Addr} {C_Frame : Addr} {C_Thinking : Addr} {T_EVENTS : Addr} {T_SIGNS : Addr}
theorem ok_combine {f : Addr} {fd : FuncData} (D : C8.Def K mg "combine" s_combine f fd) (b : Binds K fd ["sign", "left", "right"] []) (T : Txt K mg C_Tape C_Thinker C_Brain C_Mind C_Frame C_Thinking T_EVENTS T_SIGNS) {k : Nat} : C8.Cal P w K mg base (k + 1) "combine" sp_combine [] := by
  refine cal0 D b .nil sc_combine (fun vs H Q E h => ?_) (fun cdv A outer s H vs Q E hr h => ?_)
  · obtain ⟨s, a, b, rfl, _⟩ := h
    rfl
  · obtain ⟨s, x, y, rfl, hs, x0, x1, y0, y1, k⟩ := h
    refine ⟨_, (pss_cons (ps_if (pt_cmpR op_eq (pv 0) pe_str (nomark _))
  (pss_one (ps_ret (pe_op op_mod (pe_op op_add (pv 1) (pv 2)) (pe_op op_add (pe_gc rfl T.v_GREATEST) pe_int))))
  pss_nil)
(pss_cons (ps_if (pt_cmpR op_eq (pv 0) pe_str (nomark _))
  (pss_one (ps_ret (pe_callB (call_max2 rfl) (by rfl) T.n_max bo_max (pa_cons pe_int (pa_cons (pe_op op_sub (pv 1) (pv 2)) pa_nil)))))
  pss_nil)
(pss_cons (ps_if (pt_cmpR op_eq (pv 0) pe_str (nomark _))
  (pss_one (ps_ret (pe_op op_mod (pe_op op_mul (pv 1) (pv 2)) (pe_op op_add (pe_gc rfl T.v_GREATEST) pe_int))))
  pss_nil)
(pss_cons (ps_if (pt_cmpR op_eq (pv 0) pe_str (nomark _))
  (pss_one (ps_ret (pe_ifExp (pt_cmpR op_gt (pv 2) pe_int (nomark _)) (pe_op op_fdiv (pv 1) (pv 2)) pe_int)))
  pss_nil)
(pss_cons (ps_if (pt_cmpR op_eq (pv 0) pe_str (nomark _))
  (pss_one (ps_ret (pe_ifExp (pt_cmpR op_gt (pv 2) pe_int (nomark _)) (pe_op op_mod (pv 1) (pv 2)) pe_int)))
  pss_nil)
(pss_cons (ps_if (pt_cmpR op_eq (pv 0) pe_str (nomark _))
  (pss_one (ps_ret (pe_callTy call_int1 (by rfl) T.n_int bo_int (pa_cons (pe_cmpR op_lt (pv 1) (pv 2) (nomark _)) pa_nil))))
  pss_nil)
(pss_one (ps_ret (pe_callTy call_int1 (by rfl) T.n_int bo_int (pa_cons (pe_cmpR op_eq (pv 1) (pv 2) (nomark _)) pa_nil)))))))))), ?_⟩
    refine ⟨_, rfl, rfl, _, rfl, iteD (fun e => ?_) (fun e1 => ?_)⟩
    · rw [V.str.inj e, comb_add] at k
      exact ⟨_, rfl, _, rfl, _, _, rfl, rfl, _, _, rfl, rfl, _, _, rfl, rfl, (by show (0 : Int) < _; decide), k⟩
    refine ⟨_, rfl, rfl, _, rfl, iteD (fun e => ?_) (fun e2 => ?_)⟩
    · rw [V.str.inj e, comb_sub] at k
      exact ⟨_, rfl, _, rfl, _, _, rfl, rfl, _, _, rfl, k⟩
    refine ⟨_, rfl, rfl, _, rfl, iteD (fun e => ?_) (fun e3 => ?_)⟩
    · rw [V.str.inj e, comb_mul] at k
      exact ⟨_, rfl, _, rfl, _, _, rfl, rfl, .inl ⟨by omega, by omega⟩, _, _, rfl, rfl, _, _, rfl, rfl, (by show (0 : Int) < _; decide), k⟩
    refine ⟨_, rfl, rfl, _, rfl, iteD (fun e => ?_) (fun e4 => ?_)⟩
    · rw [V.str.inj e, comb_div] at k
      refine ⟨_, rfl, _, _, rfl, rfl, _, rfl, iteD (fun h => ?_) (fun h => ?_)⟩
      · rw [if_pos h] at k
        exact ⟨_, rfl, _, rfl, _, _, rfl, rfl, ⟨h, by omega⟩, k⟩
      · rw [if_neg h] at k
        exact k
    refine ⟨_, rfl, rfl, _, rfl, iteD (fun e => ?_) (fun e5 => ?_)⟩
    · rw [V.str.inj e, comb_mod] at k
      refine ⟨_, rfl, _, _, rfl, rfl, _, rfl, iteD (fun h => ?_) (fun h => ?_)⟩
      · rw [if_pos h] at k
        exact ⟨_, rfl, _, rfl, _, _, rfl, rfl, h, k⟩
      · rw [if_neg h] at k
        exact k
    refine ⟨_, rfl, rfl, _, rfl, iteD (fun e => ?_) (fun e6 => ?_)⟩
    · rw [V.str.inj e, comb_lt] at k
      refine ⟨_, rfl, _, rfl, _, _, rfl, rfl, .inr ⟨_, rfl, ?_⟩⟩
      by_cases h : x < y
      · rw [if_pos h] at k; rw [decide_eq_true h]; exact k
      · rw [if_neg h] at k; rw [decide_eq_false h]; exact k
    · have hs7 : s = "=" := by
        rcases sg_cases hs with rfl | rfl | rfl | rfl | rfl | rfl | rfl
        · exact absurd rfl e1
        · exact absurd rfl e2
        · exact absurd rfl e3
        · exact absurd rfl e4
        · exact absurd rfl e5
        · exact absurd rfl e6
        · rfl
      rw [hs7, comb_eq] at k
      refine ⟨_, rfl, _, rfl, rfl, .inr ⟨_, rfl, ?_⟩⟩
      by_cases h : x = y
      · rw [if_pos h] at k; rw [decide_eq_true (congrArg V.int h)]; exact k
      · rw [if_neg h] at k; rw [decide_eq_false (fun z => h (V.int.inj z))]; exact k
theorem ok_value0 {f : Addr} {fd : FuncData} (D : C8.Def K mg "value_of" s_value_of f fd) {ds : List Value} (d : Vals [] ds) (b : Binds K fd ["expression", "table", "on", "seen"] ds) : C8.Cal P w K mg base 1 "value_of" (sp_value K 0) [] :=
  ⟨f, fd, ["expression", "table", "on", "seen"], ds, ⟨fun vs H Q E h => (by obtain ⟨v, td, od, sa, e, ns, ps, tb, on, seen, rfl, _⟩ := h; rfl), fun A outer s H args us vs Q E _ _ _ _ h => (by obtain ⟨v, td, od, sa, e, ns, ps, tb, on, seen, _, _, _, z, _⟩ := h; have := e.dep_pos; omega)⟩, D.mgf, D.kp, b, d⟩
theorem ok_value {f : Addr} {fd : FuncData} (D : C8.Def K mg "value_of" s_value_of f fd) {ds : List Value} {dvs : List V} (d : Vals dvs ds) (b : Binds K fd ["expression", "table", "on", "seen"] ds) (T : Txt K mg C_Tape C_Thinker C_Brain C_Mind C_Frame C_Thinking T_EVENTS T_SIGNS) {n k : Nat}
    (c_value_of : C8.Cal P w K mg base k "value_of" (sp_value K n) []) (c_combine : C8.Cal P w K mg base k "combine" sp_combine []) : C8.Cal P w K mg base (k + 1) "value_of" (sp_value K (n + 1)) dvs := by
  refine cal0 D b d sc_value_of (fun vs H Q E h => ?_) (fun cdv A outer s H vs Q E hr h => ?_)
  · obtain ⟨v, td, od, sa, e, ns, ps, tb, on, seen, rfl, _⟩ := h
    rfl
  · obtain ⟨v, td, od, sa, e, ns, ps, tb, on, seen, rfl, he, hok, hd, V, k⟩ := h
    have hu := hu_of hr
    refine ⟨_, (pss_cons (ps_set (i := 4) sc_value_of.nd rfl (by first | exact Or.inl rfl | exact Or.inr rfl) (pe_ix ix_tup (pv 0) pe_int (fun _ _ => rfl)))
(pss_cons (ps_if (pt_cmpR op_eq (pv 4) pe_str (nomark _))
  (pss_one (ps_ret (pe_ix ix_tup (pv 0) pe_int (fun _ _ => rfl))))
  pss_nil)
(pss_cons (ps_if (pt_cmpR op_eq (pv 4) pe_str (nomark _))
  (pss_one (ps_ret (pe_dget hu (pv 1) (pe_ix ix_tup (pv 0) pe_int (fun _ _ => rfl)) (fun _ _ => rfl))))
  pss_nil)
(pss_cons (ps_if (pt_cmpR op_eq (pv 4) pe_str (nomark _))
  (pss_one (ps_ret (pe_callB (call_min2 rfl) (by rfl) T.n_min bo_min (pa_cons (pe_callB call_len_seq (by rfl) T.n_len bo_len (pa_cons (pv 3) pa_nil)) (pa_cons (pe_gc rfl T.v_GREATEST) pa_nil)))))
  pss_nil)
(pss_cons (ps_if (pt_cmpR op_eq (pv 4) pe_str (nomark _))
  (pss_cons (ps_set (i := 5) sc_value_of.nd rfl (by first | exact Or.inl rfl | exact Or.inr rfl) (pe_c c_value_of hr (by first | exact Nat.le_refl _ | decide | omega) rfl (pa_cons (pe_ix ix_tup (pv 0) pe_int (fun _ _ => rfl)) (pa_cons (pv 1) (pa_cons (pv 2) (pa_cons (pv 3) pa_nil))))))
  (pss_one (ps_ret (pe_ifExp (pt_cmpR op_lt (pv 5) (pe_callB call_len_seq (by rfl) T.n_len bo_len (pa_cons (pv 3) pa_nil)) (nomark _)) (pe_ix ix_tup (pv 3) (pv 5) (fun _ _ => rfl)) pe_int))))
  pss_nil)
(pss_cons (ps_if (pt_cmpR op_eq (pv 4) pe_str (nomark _))
  (pss_cons (ps_set (i := 6) sc_value_of.nd rfl (by first | exact Or.inl rfl | exact Or.inr rfl) (pe_ifExp (pt_val (pe_dget hu (pv 2) (pe_ix ix_tup (pv 0) pe_int (fun _ _ => rfl)) (fun _ _ => rfl))) (pe_ix ix_tup (pv 0) pe_int (fun _ _ => rfl)) (pe_ix ix_tup (pv 0) pe_int (fun _ _ => rfl))))
  (pss_one (ps_ret (pe_c c_value_of hr (by first | exact Nat.le_refl _ | decide | omega) rfl (pa_cons (pv 6) (pa_cons (pv 1) (pa_cons (pv 2) (pa_cons (pv 3) pa_nil))))))))
  pss_nil)
(pss_cons (ps_set (i := 7) sc_value_of.nd rfl (by first | exact Or.inl rfl | exact Or.inr rfl) (pe_c c_value_of hr (by first | exact Nat.le_refl _ | decide | omega) rfl (pa_cons (pe_ix ix_tup (pv 0) pe_int (fun _ _ => rfl)) (pa_cons (pv 1) (pa_cons (pv 2) (pa_cons (pv 3) pa_nil))))))
(pss_cons (ps_set (i := 8) sc_value_of.nd rfl (by first | exact Or.inl rfl | exact Or.inr rfl) (pe_c c_value_of hr (by first | exact Nat.le_refl _ | decide | omega) rfl (pa_cons (pe_ix ix_tup (pv 0) pe_int (fun _ _ => rfl)) (pa_cons (pv 1) (pa_cons (pv 2) (pa_cons (pv 3) pa_nil))))))
(pss_one (ps_ret (pe_c c_combine hr (by first | exact Nat.le_refl _ | decide | omega) rfl (pa_cons (pv 4) (pa_cons (pv 7) (pa_cons (pv 8) pa_nil)))))))))))))), ?_⟩
    cases he with
    | num h =>
      refine ⟨_, rfl, _, _, _, _, rfl, rfl, h.sq, rfl, _, rfl, rfl, _, rfl, iteDT rfl ?_⟩
      exact ⟨_, rfl, _, _, _, _, rfl, rfl, h.sq, rfl, k⟩
    | var h =>
      refine ⟨_, rfl, _, _, _, _, rfl, rfl, h.sq, rfl, _, rfl, rfl, _, rfl, iteDF (nes (by decide +kernel)) ?_⟩
      refine ⟨_, rfl, rfl, _, rfl, iteDT rfl ?_⟩
      exact ⟨_, rfl, _, rfl, _, _, _, _, rfl, rfl, h.sq, rfl, _, _, rfl, V.t.get hok, k⟩
    | long h =>
      refine ⟨_, rfl, _, _, _, _, rfl, rfl, h.sq, rfl, _, rfl, rfl, _, rfl, iteDF (nes (by decide +kernel)) ?_⟩
      refine ⟨_, rfl, rfl, _, rfl, iteDF (nes (by decide +kernel)) ?_⟩
      refine ⟨_, rfl, rfl, _, rfl, iteDT rfl ?_⟩
      refine ⟨_, rfl, _, _, rfl, .inr V.s, _, _, rfl, ?_⟩
      rw [List.length_map]; exact k
    | view h h1 =>
      refine ⟨_, rfl, _, _, _, _, rfl, rfl, h.sq, rfl, _, rfl, rfl, _, rfl, iteDF (nes (by decide +kernel)) ?_⟩
      refine ⟨_, rfl, rfl, _, rfl, iteDF (nes (by decide +kernel)) ?_⟩
      refine ⟨_, rfl, rfl, _, rfl, iteDF (nes (by decide +kernel)) ?_⟩
      refine ⟨_, rfl, rfl, _, rfl, iteDT rfl ?_⟩
      have hr2 := ev_range (on := on) V.tok V.sok h1 hok
      refine ⟨_, rfl, _, _, _, _, rfl, rfl, h.sq, rfl, _, rfl, _, rfl, _, rfl, _, td, od, sa, _, ns, ps, tb, on, seen, rfl, h1, hok, (by unfold Ex.dep at hd; omega), V, ?_⟩
      refine ⟨_, rfl, _, rfl, _, _, rfl, .inr V.s, _, _, rfl, rfl, _, rfl, iteD (fun q => ?_) (fun q => ?_)⟩
      · rw [List.length_map] at q
        refine ⟨_, rfl, _, rfl, _, _, _, _, rfl, rfl, V.s, seen_at hr2.1 q, ?_⟩
        unfold val at k
        rw [if_pos q] at k
        exact k
      · rw [List.length_map] at q
        unfold val at k
        rw [if_neg q] at k
        exact k
    | pick h h1 h2 =>
      refine ⟨_, rfl, _, _, _, _, rfl, rfl, h.sq, rfl, _, rfl, rfl, _, rfl, iteDF (nes (by decide +kernel)) ?_⟩
      refine ⟨_, rfl, rfl, _, rfl, iteDF (nes (by decide +kernel)) ?_⟩
      refine ⟨_, rfl, rfl, _, rfl, iteDF (nes (by decide +kernel)) ?_⟩
      refine ⟨_, rfl, rfl, _, rfl, iteDF (nes (by decide +kernel)) ?_⟩
      refine ⟨_, rfl, rfl, _, rfl, iteDT rfl ?_⟩
      unfold val at k
      unfold Ex.dep at hd
      refine ⟨_, rfl, _, rfl, _, _, _, _, rfl, rfl, h.sq, rfl, _, _, rfl, V.o.get hok.1, _, rfl, iteB (fun q => ?_) (fun q => ?_)⟩
      · rw [if_pos q] at k
        refine ⟨_, rfl, _, _, _, _, rfl, rfl, h.sq, rfl, ?_⟩
        exact ⟨_, rfl, _, rfl, _, rfl, _, rfl, _, td, od, sa, _, ns, ps, tb, on, seen, rfl, h1, hok.2.1, (by omega), V, k⟩
      · rw [if_neg (by simp [q])] at k
        refine ⟨_, rfl, _, _, _, _, rfl, rfl, h.sq, rfl, ?_⟩
        exact ⟨_, rfl, _, rfl, _, rfl, _, rfl, _, td, od, sa, _, ns, ps, tb, on, seen, rfl, h2, hok.2.2, (by omega), V, k⟩
    | op h h1 h2 =>
      obtain ⟨n1, n2, n3, n4, n5⟩ := sg_not _ hok.1
      refine ⟨_, rfl, _, _, _, _, rfl, rfl, h.sq, rfl, _, rfl, rfl, _, rfl, iteDF (nes n1) ?_⟩
      refine ⟨_, rfl, rfl, _, rfl, iteDF (nes n2) ?_⟩
      refine ⟨_, rfl, rfl, _, rfl, iteDF (nes n3) ?_⟩
      refine ⟨_, rfl, rfl, _, rfl, iteDF (nes n4) ?_⟩
      refine ⟨_, rfl, rfl, _, rfl, iteDF (nes n5) ?_⟩
      unfold val at k
      unfold Ex.dep at hd
      have ha := val_range (on := on) V.tok V.sok _ hok.2.1
      have hb := val_range (on := on) V.tok V.sok _ hok.2.2
      refine ⟨_, rfl, _, _, _, _, rfl, rfl, h.sq, rfl, _, rfl, _, rfl, _, rfl, _, td, od, sa, _, ns, ps, tb, on, seen, rfl, h1, hok.2.1, (by omega), V, ?_⟩
      refine ⟨_, rfl, _, _, _, _, rfl, rfl, h.sq, rfl, _, rfl, _, rfl, _, rfl, _, td, od, sa, _, ns, ps, tb, on, seen, rfl, h2, hok.2.2, (by omega), V, ?_⟩
      exact ⟨_, rfl, _, rfl, _, rfl, _, _, _, rfl, hok.1, ha.1, ha.2, hb.1, hb.2, k⟩
end

theorem calUp {P : Program} {w : World} {K : PySem.W.Frag} {mg : Str → Option Value} {base : Heap} {j k : Nat} {x : Str} {sp : Sp} {dvs : List V} (c : C8.Cal P w K mg base j x sp dvs) (h : j ≤ k) : C8.Cal P w K mg base k x sp dvs := by
  obtain ⟨f, fd, ps, ds, F, hm, kp, b, d⟩ := c.ex
  exact ⟨f, fd, ps, ds, F.mono h, hm, kp, b, d⟩
theorem Pool.tk {H H' : Hp} {p q : Addr} {ns : List Int} (h : Pool H p q ns) (k : Keep [p] H H') : TK H H' := by
  obtain ⟨i1, i2, i3, i4, i5, h1, _⟩ := h
  exact k.tk1 h1
theorem DcB.keep {H H' : Hp} {a : Addr} {ps : List Str} {on : Str → Bool} (h : DcB H a ps on) (k : Keep [] H H') : DcB H' a ps on := by
  obtain ⟨kvs, e, q⟩ := h
  exact ⟨kvs, k _ _ e (by simp), q⟩

/-! addresses that all stand and are unlike one another -/
structure Liv (H : Hp) (L : List Addr) : Prop where
  nd : L.Nodup
  on : ∀ a ∈ L, ∃ o, H a = some o
theorem Liv.nil {H : Hp} : Liv H [] := ⟨List.nodup_nil, fun _ h => by cases h⟩
theorem Liv.cons {H : Hp} {L : List Addr} {a : Addr} {o : HO} (h : Liv H L) (n : H a = none) : Liv (upd H a o) (a :: L) := by
  have hne : ∀ b ∈ L, b ≠ a := fun b hb => by obtain ⟨u, hu⟩ := h.on b hb; exact ne_of_none hu n
  refine ⟨List.nodup_cons.mpr ⟨fun z => hne a z rfl, h.nd⟩, fun b hb => ?_⟩
  rcases List.mem_cons.mp hb with rfl | hb
  · exact ⟨_, upd_same⟩
  · obtain ⟨u, hu⟩ := h.on b hb
    exact ⟨u, by rw [upd_ne (hne b hb)]; exact hu⟩
/-- one that stands, new since a heap in which the others stand -/
theorem Liv.cons' {H H' : Hp} {L : List Addr} {a : Addr} {o : HO} (h : Liv H L) (n : H a = none) (h' : Liv H' L) (ha : H' a = some o) : Liv H' (a :: L) :=
  ⟨List.nodup_cons.mpr ⟨fun z => (by obtain ⟨u, hu⟩ := h.on a z; rw [n] at hu; cases hu), h.nd⟩, fun b hb => by
    rcases List.mem_cons.mp hb with rfl | hb
    · exact ⟨_, ha⟩
    · exact h'.on b hb⟩
theorem Liv.keep {H H' : Hp} {L W : List Addr} (h : Liv H L) (k : Keep W H H') (w : ∀ a ∈ W, ∃ o, H' a = some o) : Liv H' L :=
  ⟨h.nd, fun a ha => by
    by_cases z : a ∈ W
    · exact w a z
    · obtain ⟨o, ho⟩ := h.on a ha
      exact ⟨o, k _ _ ho z⟩⟩
theorem Liv.keep0 {H H' : Hp} {L : List Addr} (h : Liv H L) (k : Keep [] H H') : Liv H' L := h.keep k fun _ z => by cases z
theorem Liv.keep1 {H H' : Hp} {L : List Addr} {p : Addr} {o : HO} (h : Liv H L) (k : Keep [p] H H') (hp : H' p = some o) : Liv H' L := h.keep k fun a z => by
  rw [List.mem_singleton] at z; exact ⟨o, by rw [z]; exact hp⟩
theorem nodup_ne {L : List Addr} (h : L.Nodup) {i j : Nat} {a b : Addr} (ha : L[i]? = some a) (hb : L[j]? = some b) (hij : i ≠ j) : a ≠ b := by
  obtain ⟨h1, e1⟩ := List.getElem?_eq_some_iff.mp ha
  obtain ⟨h2, e2⟩ := List.getElem?_eq_some_iff.mp hb
  have hp := List.pairwise_iff_getElem.mp h
  rcases Nat.lt_or_gt_of_ne hij with z | z
  · have := hp i j h1 h2 z
    rwa [e1, e2] at this
  · have := hp j i h2 h1 z
    rw [e1, e2] at this
    exact fun w => this w.symm
theorem Liv.ne {H : Hp} {L : List Addr} (h : Liv H L) (i j : Nat) {a b : Addr} (ha : L[i]? = some a) (hb : L[j]? = some b) (hij : i ≠ j := by decide) : a ≠ b := nodup_ne h.nd ha hb hij
theorem Liv.notNew {H : Hp} {L : List Addr} (h : Liv H L) {a : Addr} (n : H a = none) : a ∉ L := fun z => by
  obtain ⟨u, hu⟩ := h.on a z; rw [n] at hu; cases hu
theorem Liv.cons2 {H H' : Hp} {L : List Addr} {a b : Addr} {o u : HO} (h : Liv H L) (na : H a = none) (nb : H b = none) (ne : a ≠ b) (h' : Liv H' L) (ha : H' a = some o) (hb : H' b = some u) : Liv H' (b :: a :: L) := by
  have h1 := h.cons' na h' ha
  refine ⟨List.nodup_cons.mpr ⟨fun z => ?_, h1.nd⟩, fun c hc => ?_⟩
  · rcases List.mem_cons.mp z with z | z
    · exact ne z.symm
    · exact h.notNew nb z
  · rcases List.mem_cons.mp hc with rfl | hc
    · exact ⟨_, hb⟩
    · exact h1.on c hc
/-- a new instance and its dict -/
theorem Liv.made {H : Hp} {L : List Addr} {x d : Addr} {o : HO} (h : Liv H L) (nx : H x = none) (nd : H d = none) (ne : d ≠ x) : Liv (upd (upd H d (.own x)) x o) (x :: L) :=
  (h.keep0 (Keep.new nd)).cons (by rw [upd_ne ne.symm]; exact nx)
theorem made_at {H : Hp} {x d b : Addr} {o u : HO} (hx : H x = none) (hd : H d = none) (h : H b = some u) : upd (upd H d (.own x)) x o b = some u := by
  rw [upd_ne (ne_of_none h hx), upd_ne (ne_of_none h hd)]; exact h
theorem Keep.made {H : Hp} {x d : Addr} {o : HO} (hx : H x = none) (hd : H d = none) : Keep [] H (upd (upd H d (.own x)) x o) := fun _ _ h _ => made_at hx hd h
theorem Keep.tkL {H H' : Hp} {W : List Addr} (k : Keep W H H') (h : ∀ a ∈ W, ∃ ys, H a = some (.lst ys)) : TK H H' := fun b xs q => k b _ q fun z => by
  obtain ⟨ys, hy⟩ := h b z
  rw [q] at hy; cases hy

/-! tapes -/
inductive PL (H : Hp) : List V → List (Int × Int) → Prop
  | nil : PL H [] []
  | cons {t : Addr} {r c : Int} {vs : List V} {l : List (Int × Int)} : H t = some (.tup [.int r, .int c]) → PL H vs l → PL H (.ref t :: vs) ((r, c) :: l)
theorem PL.tk {H H' : Hp} (k : TK H H') {vs : List V} {l : List (Int × Int)} (h : PL H vs l) : PL H' vs l := by
  induction h with
  | nil => exact .nil
  | cons h _ ih => exact .cons (k _ _ h) ih
theorem PL.snoc {H : Hp} {vs : List V} {l : List (Int × Int)} {t : Addr} {r c : Int} (h : PL H vs l) (ht : H t = some (.tup [.int r, .int c])) : PL H (vs ++ [.ref t]) (l ++ [(r, c)]) := by
  induction h with
  | nil => exact .cons ht .nil
  | cons h _ ih => exact .cons h ih
theorem PL.len {H : Hp} {vs : List V} {l : List (Int × Int)} (h : PL H vs l) : vs.length = l.length := by
  induction h with
  | nil => rfl
  | cons _ _ ih => rw [List.length_cons, List.length_cons, ih]
theorem PL.get {H : Hp} {vs : List V} {l : List (Int × Int)} (h : PL H vs l) : ∀ {i : Nat} {v : V}, vs[i]? = some v → ∃ t r c, v = .ref t ∧ l[i]? = some (r, c) ∧ H t = some (.tup [.int r, .int c]) := by
  induction h with
  | nil => intro i v h; simp at h
  | cons h _ ih =>
    intro i v hv
    cases i with
    | zero => simp at hv; subst hv; exact ⟨_, _, _, rfl, rfl, h⟩
    | succ i => simpa using ih (by simpa using hv)
structure TapeAt (C : Addr) (H : Hp) (x rx tx : Addr) (rs : List Int) (tk : List (Int × Int)) : Prop where
  o : ∃ dx, H x = some (.ins C dx [("results", .ref rx), ("taken", .ref tx)])
  r : H rx = some (.lst (rs.map V.int))
  t : ∃ xs, H tx = some (.lst xs) ∧ PL H xs tk
  ne : rx ≠ tx
theorem TapeAt.keep {C : Addr} {H H' : Hp} {x rx tx : Addr} {rs : List Int} {tk : List (Int × Int)} {W : List Addr} (h : TapeAt C H x rx tx rs tk) (k : Keep W H H') (kt : TK H H') (w1 : x ∉ W) (w2 : rx ∉ W) (w3 : tx ∉ W) : TapeAt C H' x rx tx rs tk := by
  obtain ⟨dx, o⟩ := h.o
  obtain ⟨xs, t1, t2⟩ := h.t
  exact ⟨⟨dx, k _ _ o w1⟩, k _ _ h.r w2, ⟨xs, k _ _ t1 w3, t2.tk kt⟩, h.ne⟩
def nextR (rs : List Int) (tk : List (Int × Int)) (c : Int) : Int := if tk.length < rs.length then (rs.getD tk.length 0) % c else 0
def sp_tape (K : PySem.W.Frag) (C : Addr) : Sp := fun vs H Q _ => ∃ (x dx src : Addr) (rs : List Int), vs = [.ref x, .ref src] ∧ SqL K H src (rs.map V.int) ∧ H x = some (.ins C dx []) ∧ ∀ rx tx H', H rx = none → H tx = none → Keep [x] H H' → TapeAt C H' x rx tx rs [] → Q .non H'
def sp_take (C : Addr) : Sp := fun vs H Q _ => ∃ (x rx tx : Addr) (rs : List Int) (tk : List (Int × Int)) (c : Int), vs = [.ref x, .int c] ∧ 0 < c ∧ c < 1073741824 ∧ tk.length ≤ 100000 ∧ TapeAt C H x rx tx rs tk ∧
  ∀ H', Keep [tx] H H' → TapeAt C H' x rx tx rs (tk ++ [(nextR rs tk c, c)]) → Q (.int (nextR rs tk c)) H'
section
variable {P : Program} {w : World} {K : PySem.W.Frag} {mg : Str → Option Value} {base : Heap} {C_Tape : Addr} {C_Thinker : Addr} {C_Brain : Addr} {C_Mind : Addr} {C_Frame : Addr} {C_Thinking : Addr} {T_EVENTS : Addr} {T_SIGNS : Addr}
theorem ok_tape_init {f : Addr} {fd : FuncData} (M : Mk K C_Tape f) (F : C8.Fun K "__init__" "Tape.__init__" s_Tape___init f fd) (b : Binds K fd ["self", "results"] []) (T : Txt K mg C_Tape C_Thinker C_Brain C_Mind C_Frame C_Thinking T_EVENTS T_SIGNS) :
    C8.Mak P w K mg base 1 "Tape" C_Tape (sp_tape K C_Tape) [] := by
  refine mak0 M T.m_Tape F b .nil sc_Tape___init (fun vs H Q E h => ?_) (fun cdv A outer s H vs Q E hr h => ?_)
  · obtain ⟨x, dx, src, rs, rfl, _⟩ := h
    rfl
  · obtain ⟨x, dx, src, rs, rfl, hS, hx, k⟩ := h
    refine ⟨_, (pss_cons (ps_fld (pv 0) (pe_callTy call_list_of (by rfl) T.n_list bo_list (pa_cons (pv 1) pa_nil)) rfl)
(pss_one (ps_fld (pv 0) (pe_lst pa_nil) rfl))), ?_⟩
    refine ⟨_, rfl, _, _, rfl, .inl hS, fun rx nrx => ?_⟩
    have exr : x ≠ rx := ne_of_none hx nrx
    refine ⟨_, rfl, x, C_Tape, dx, [], rfl, by rw [upd_ne exr]; exact hx, T.cl_Tape, T.a_Tape_results, by show 0 < 1000; decide, ?_⟩
    refine ⟨by show 0 ≤ sizeLine; decide, fun tx ntx => ?_⟩
    have ext : x ≠ tx := ne_of_none (H := upd (upd H rx (.lst (rs.map V.int))) x _) upd_same ntx
    have ert : rx ≠ tx := ne_of_none (H := upd (upd H rx (.lst (rs.map V.int))) x _) (by rw [upd_ne exr.symm]; exact upd_same) ntx
    refine ⟨_, rfl, x, C_Tape, dx, _, rfl, by rw [upd_ne ext]; exact upd_same, T.cl_Tape, T.a_Tape_taken, by show 1 < 1000; decide, ?_⟩
    have ntx' : H tx = none := by
      rw [upd_ne ext.symm, upd_ne ert.symm] at ntx
      exact ntx
    refine k rx tx _ nrx ntx' ?_ ⟨⟨dx, upd_same⟩, ?_, ⟨[], ?_, .nil⟩, ert⟩
    · exact (((Keep.new nrx).then_at (List.mem_singleton.mpr rfl)).then_own ntx').then_at (List.mem_singleton.mpr rfl)
    · rw [upd_ne exr.symm, upd_ne ert, upd_ne exr.symm]; exact upd_same
    · rw [upd_ne ext.symm]; exact upd_same
theorem ok_tape_take {f : Addr} {fd : FuncData} (me : Meth K C_Tape "take" f) (F : C8.Fun K "take" "Tape.take" s_Tape_take f fd) (b : Binds K fd ["self", "count"] []) (T : Txt K mg C_Tape C_Thinker C_Brain C_Mind C_Frame C_Thinking T_EVENTS T_SIGNS) : C8.Met P w K mg base 1 C_Tape "take" (sp_take C_Tape) [] := by
  refine met0 T.cl_Tape me F b sc_Tape_take (fun vs H Q E h => ?_) (fun cdv A outer s H vs Q E hr h => ?_)
  · obtain ⟨x, rx, tx, rs, tk, c, rfl, _⟩ := h
    rfl
  · obtain ⟨x, rx, tx, rs, tk, c, rfl, c0, c1, hl, ⟨⟨dx, ho⟩, hr1, ⟨xs, ht, pl⟩, hne⟩, k⟩ := h
    refine ⟨_, (pss_cons (ps_set (i := 2) sc_Tape_take.nd rfl (by first | exact Or.inl rfl | exact Or.inr rfl) pe_int)
(pss_cut (ps_if (pt_cmpR op_lt (pe_callB call_len_seq (by rfl) T.n_len bo_len (pa_cons (pe_fld (pv 0) rfl) pa_nil)) (pe_callB call_len_seq (by rfl) T.n_len bo_len (pa_cons (pe_fld (pv 0) rfl) pa_nil)) (nomark _))
  (pss_one (ps_set (i := 2) sc_Tape_take.nd rfl (by first | exact Or.inl rfl | exact Or.inr rfl) (pe_op op_mod (pe_ix ix_list (pe_fld (pv 0) rfl) (pe_callB call_len_seq (by rfl) T.n_len bo_len (pa_cons (pe_fld (pv 0) rfl) pa_nil)) (fun _ _ => rfl)) (pv 1))))
  pss_nil)
(pss_cons (ps_expr (pe_bm PySem.F.plainAttrs_list PySem.F.slot_list_append PySem.F.type_list_append mt_append (pe_fld (pv 0) rfl) (pa_cons (pe_tup (pa_cons (pv 2) (pa_cons (pv 1) pa_nil))) pa_nil)))
(pss_one (ps_ret (pv 2)))))), ?_⟩
    refine ⟨fun σ H' => H' = H ∧ σ = [some (.ref x), some (.int c), some (.int (nextR rs tk c))], ?_, ?_⟩
    · have hlen := pl.len
      refine ⟨_, rfl, x, C_Tape, dx, _, _, rfl, ho, T.cl_Tape, T.a_Tape_taken, rfl, _, _, rfl, .inl (SqL.of ht), _, rfl, x, C_Tape, dx, _, _, rfl, ho, T.cl_Tape, T.a_Tape_results, rfl, _, _, rfl, .inl (SqL.of hr1), _, _, rfl, rfl, _, rfl, iteD (fun h => ?_) (fun h => ⟨rfl, ?_⟩)⟩
      · rw [List.length_map, hlen] at h
        have h' : tk.length < rs.length := by omega
        have hget : (rs.map V.int)[xs.length]? = some (.int (rs.getD tk.length 0)) := by
          rw [hlen, List.getElem?_map, List.getD_eq_getElem?_getD, List.getElem?_eq_getElem h']; rfl
        refine ⟨_, rfl, x, C_Tape, dx, _, _, rfl, ho, T.cl_Tape, T.a_Tape_results, rfl, _, rfl, x, C_Tape, dx, _, _, rfl, ho, T.cl_Tape, T.a_Tape_taken, rfl, _, _, rfl, .inl (SqL.of ht), _, _, _, _, rfl, rfl, SqL.of hr1, atI_nat hget, _, rfl, _, _, rfl, rfl, c0, rfl, ?_⟩
        unfold nextR
        rw [if_pos h']; rfl
      · rw [List.length_map, hlen] at h
        unfold nextR
        rw [if_neg (by omega)]; rfl
    rintro σ H' ⟨rfl, rfl⟩
    refine ⟨_, rfl, x, C_Tape, dx, _, _, rfl, ho, T.cl_Tape, T.a_Tape_taken, rfl, .inl ⟨rfl, _, SqL.of ht⟩, _, rfl, _, rfl, by show 2 ≤ sizeLine; decide, fun u nu => ?_⟩
    have ku : Keep [] H' (upd H' u (.tup [.int (nextR rs tk c), .int c])) := Keep.new nu
    have ht' := ku _ _ ht (by simp)
    have eut : u ≠ tx := (ne_of_none ht nu).symm
    have ext : x ≠ tx := ne_of ho ht (by intro z; cases z)
    refine ⟨_, _, _, rfl, rfl, ht', by rw [pl.len]; exact smallL (by omega), ?_⟩
    have kk : Keep [tx] H' (upd (upd H' u (.tup [.int (nextR rs tk c), .int c])) tx (.lst (xs ++ [.ref u]))) := (ku.mono (by simp)).then_at (List.mem_singleton.mpr rfl)
    have kt : TK H' (upd (upd H' u (.tup [.int (nextR rs tk c), .int c])) tx (.lst (xs ++ [.ref u]))) := (TK.new nu).trans (TK.lst ht')
    exact ⟨_, rfl, k _ kk ⟨⟨dx, kk _ _ ho (by simpa using ext)⟩, kk _ _ hr1 (by simpa using hne), ⟨_, upd_same, (pl.tk kt).snoc (by rw [upd_ne eut]; exact upd_same)⟩, hne⟩⟩
end

theorem flat_strs (ys : List Str) : (ys.map V.str).all flatV = true := by
  rw [List.all_eq_true]
  intro x hx
  obtain ⟨y, _, rfl⟩ := List.mem_map.mp hx
  rfl

/-! codes of expressions, in plain words -/
inductive Ins where
  | push (n : Int)
  | load (x : Str)
  | long
  | view
  | sign (s : Str)
def idx : List Str → Str → Nat
  | [], _ => 0
  | y :: r, x => if y = x then 0 else idx r x + 1
theorem idx_get : ∀ {ys : List Str} {x : Str}, x ∈ ys → ys[idx ys x]? = some x ∧ ∀ m, m < idx ys x → ys[m]? ≠ some x
  | [], x, h => by cases h
  | y :: r, x, h => by
    unfold idx
    by_cases e : y = x
    · rw [if_pos e]
      exact ⟨by rw [e]; rfl, fun m hm => absurd hm (Nat.not_lt_zero _)⟩
    · rw [if_neg e]
      have hx : x ∈ r := by
        rcases List.mem_cons.mp h with q | q
        · exact absurd q.symm e
        · exact q
      have ih := idx_get hx
      refine ⟨by simpa using ih.1, fun m hm => ?_⟩
      cases m with
      | zero => simpa using e
      | succ m => simpa using ih.2 m (by omega)
theorem idx_lt {ys : List Str} {x : Str} (h : x ∈ ys) : idx ys x < ys.length := (List.getElem?_eq_some_iff.mp (idx_get h).1).1
def tagI : Ins → Str
  | .push _ => "push"
  | .load _ => "load"
  | .long => "long"
  | .view => "view"
  | .sign _ => "sign"
def numI (ns : List Str) : Ins → Int
  | .push n => n
  | .load x => (idx ns x : Nat)
  | .long => 0
  | .view => 0
  | .sign s => (idx sgL s : Nat)
def code (on : Str → Bool) : Ex → List Ins
  | .num n => [.push n]
  | .var x => [.load x]
  | .long => [.long]
  | .view e => code on e ++ [.view]
  | .pick x l r => if on x = true then code on l else code on r
  | .op s l r => code on l ++ code on r ++ [.sign s]
theorem code_len (on : Str → Bool) : ∀ e : Ex, (code on e).length + 1 ≤ 2 ^ e.dep
  | .num _ => by show 1 + 1 ≤ 2 ^ 1; decide
  | .var _ => by show 1 + 1 ≤ 2 ^ 1; decide
  | .long => by show 1 + 1 ≤ 2 ^ 1; decide
  | .view e => by
    have := code_len on e
    have h1 : 1 ≤ 2 ^ e.dep := Nat.one_le_two_pow
    show (code on e ++ [Ins.view]).length + 1 ≤ 2 ^ (e.dep + 1)
    rw [List.length_append, Nat.pow_succ]
    simp only [List.length_cons, List.length_nil]; omega
  | .pick x l r => by
    have a := code_len on l
    have b := code_len on r
    have hl : 2 ^ l.dep ≤ 2 ^ (max l.dep r.dep + 1) := Nat.pow_le_pow_right (by decide) (by omega)
    have hr : 2 ^ r.dep ≤ 2 ^ (max l.dep r.dep + 1) := Nat.pow_le_pow_right (by decide) (by omega)
    show (if on x = true then code on l else code on r).length + 1 ≤ 2 ^ (max l.dep r.dep + 1)
    split <;> omega
  | .op s l r => by
    have a := code_len on l
    have b := code_len on r
    have hl : 2 ^ l.dep ≤ 2 ^ max l.dep r.dep := Nat.pow_le_pow_right (by decide) (by omega)
    have hr : 2 ^ r.dep ≤ 2 ^ max l.dep r.dep := Nat.pow_le_pow_right (by decide) (by omega)
    show (code on l ++ code on r ++ [Ins.sign s]).length + 1 ≤ 2 ^ (max l.dep r.dep + 1)
    rw [List.length_append, List.length_append, Nat.pow_succ]
    simp only [List.length_cons, List.length_nil]; omega
theorem code_small (on : Str → Bool) {e : Ex} (h : e.dep ≤ 13) : (code on e).length ≤ 8192 := by
  have := code_len on e
  have h2 : 2 ^ e.dep ≤ 2 ^ 13 := Nat.pow_le_pow_right (by decide) h
  have h3 : (2 : Nat) ^ 13 = 8192 := by decide
  omega
def Ins.Ok (ns : List Str) : Ins → Prop
  | .push n => 0 ≤ n ∧ n < 65536
  | .load x => x ∈ ns
  | .long => True
  | .view => True
  | .sign s => s ∈ sgL
theorem code_ok {ns ps : List Str} (on : Str → Bool) : ∀ e : Ex, e.Ok ns ps → ∀ i ∈ code on e, i.Ok ns
  | .num n, h, i, hi => by rw [List.mem_singleton.mp hi]; exact h
  | .var n, h, i, hi => by rw [List.mem_singleton.mp hi]; exact h
  | .long, h, i, hi => by rw [List.mem_singleton.mp hi]; trivial
  | .view e, h, i, hi => by
    rcases List.mem_append.mp hi with q | q
    · exact code_ok on e h i q
    · rw [List.mem_singleton.mp q]; trivial
  | .pick x l r, ⟨_, h2, h3⟩, i, hi => by
    have hi' : i ∈ if on x = true then code on l else code on r := hi
    split at hi'
    · exact code_ok on l h2 i hi'
    · exact code_ok on r h3 i hi'
  | .op s l r, ⟨h1, h2, h3⟩, i, hi => by
    rcases List.mem_append.mp hi with q | q
    · rcases List.mem_append.mp q with q | q
      · exact code_ok on l h2 i q
      · exact code_ok on r h3 i q
    · rw [List.mem_singleton.mp q]; exact h1
def vw (seen : List Int) (a : Int) : Int := if a < seen.length then seen.getD a.toNat 0 else 0
/-- one step; the stack from the top -/
def step (tb : Str → Int) (seen : List Int) : Ins → List Int → Option (List Int)
  | .push n, R => some (n :: R)
  | .load x, R => some (tb x :: R)
  | .long, R => some ((seen.length : Int) :: R)
  | .view, a :: r => some (vw seen a :: r)
  | .view, [] => none
  | .sign s, b :: a :: r => some (comb s a b :: r)
  | .sign _, _ => none
def runI (tb : Str → Int) (seen : List Int) : List Ins → List Int → Option (List Int)
  | [], R => some R
  | i :: r, R => (step tb seen i R).bind (runI tb seen r)
theorem run_app (tb : Str → Int) (seen : List Int) : ∀ (a b : List Ins) (R : List Int), runI tb seen (a ++ b) R = (runI tb seen a R).bind (runI tb seen b)
  | [], b, R => rfl
  | i :: a, b, R => by
    show (step tb seen i R).bind (runI tb seen (a ++ b)) = ((step tb seen i R).bind (runI tb seen a)).bind _
    cases step tb seen i R with
    | none => rfl
    | some R' => exact run_app tb seen a b R'
theorem run_code {tb : Str → Int} {on : Str → Bool} {seen : List Int} (hs : seen.length ≤ 65535) : ∀ (e : Ex) (R : List Int), runI tb seen (code on e) R = some (val tb on seen e :: R)
  | .num _, R => rfl
  | .var _, R => rfl
  | .long, R => by
    show some ((seen.length : Int) :: R) = some ((if (65535 : Int) < seen.length then 65535 else (seen.length : Int)) :: R)
    rw [if_neg (by omega)]
  | .view e, R => by
    show runI tb seen (code on e ++ [.view]) R = _
    rw [run_app, run_code hs e R]; rfl
  | .pick x l r, R => by
    show runI tb seen (if on x = true then code on l else code on r) R = some ((if on x = true then val tb on seen l else val tb on seen r) :: R)
    split
    · exact run_code hs l R
    · exact run_code hs r R
  | .op s l r, R => by
    show runI tb seen (code on l ++ code on r ++ [.sign s]) R = _
    rw [run_app, run_app, run_code hs l R]
    show ((runI tb seen (code on r) (val tb on seen l :: R)).bind _) = _
    rw [run_code hs r _]; rfl
def InR (R : List Int) : Prop := ∀ x ∈ R, 0 ≤ x ∧ x < 65536
theorem step_range {ns : List Str} {tb : Str → Int} {seen : List Int} (ht : TbOk ns tb) (hs : SeenOk seen) (hl : seen.length ≤ 65535) {i : Ins} (hi : i.Ok ns) {R R' : List Int} (hR : InR R) (h : step tb seen i R = some R') : InR R' := by
  have tl : ∀ {a : Int} {r : List Int}, InR (a :: r) → InR r := fun h x hx => h x (List.mem_cons_of_mem _ hx)
  have cn : ∀ {a : Int} {r : List Int}, (0 ≤ a ∧ a < 65536) → InR r → InR (a :: r) := fun h h2 x hx => by
    rcases List.mem_cons.mp hx with q | q
    · rw [q]; exact h
    · exact h2 x q
  cases i with
  | push n => cases h; exact cn hi hR
  | load x => cases h; exact cn (ht x hi) hR
  | long => cases h; exact cn (by omega) hR
  | view =>
    cases R with
    | nil => cases h
    | cons a r =>
      cases h
      refine cn ?_ (tl hR)
      have ha := hR a (List.mem_cons_self ..)
      unfold vw
      split
      · have : a.toNat < seen.length := by omega
        rw [List.getD_eq_getElem?_getD, List.getElem?_eq_getElem this]
        exact hs _ (List.getElem_mem this)
      · omega
  | sign s =>
    match R, h with
    | b :: a :: r, h =>
      cases h
      have hb := hR b (List.mem_cons_self ..)
      have ha := tl hR a (List.mem_cons_self ..)
      exact cn (comb_range hi ha.1 ha.2 hb.1 hb.2) (tl (tl hR))
theorem run_take {tb : Str → Int} {seen : List Int} {c : List Ins} {R : List Int} (h : runI tb seen c [] = some R) {i : Nat} {x : Ins} (hx : c[i]? = some x) {Ri : List Int} (hi : runI tb seen (c.take i) [] = some Ri) : ∃ R', step tb seen x Ri = some R' ∧ runI tb seen (c.take (i + 1)) [] = some R' := by
  obtain ⟨hlt, he⟩ := List.getElem?_eq_some_iff.mp hx
  have e : c = c.take (i + 1) ++ c.drop (i + 1) := (List.take_append_drop _ _).symm
  have e2 : c.take (i + 1) = c.take i ++ [x] := by rw [List.take_succ_eq_append_getElem hlt, he]
  rw [e, e2, run_app, run_app, hi] at h
  cases q : step tb seen x Ri with
  | none =>
    have : (Option.some Ri).bind (runI tb seen [x]) = none := by
      show (step tb seen x Ri).bind _ = none
      rw [q]; rfl
    rw [this] at h; cases h
  | some R' =>
    refine ⟨R', rfl, ?_⟩
    rw [e2, run_app, hi]
    show (step tb seen x Ri).bind _ = _
    rw [q]; rfl
inductive CL (K : PySem.W.Frag) (H : Hp) (ns : List Str) : List V → List Ins → Prop
  | nil : CL K H ns [] []
  | cons {t : Addr} {i : Ins} {vs : List V} {c : List Ins} : At K H t [.str (tagI i), .int (numI ns i)] → CL K H ns vs c → CL K H ns (.ref t :: vs) (i :: c)
section
variable {K : PySem.W.Frag} {ns : List Str}
theorem CL.tk {H H' : Hp} (k : TK H H') {vs : List V} {c : List Ins} (h : CL K H ns vs c) : CL K H' ns vs c := by
  induction h with
  | nil => exact .nil
  | cons h _ ih => exact .cons (h.tk k) ih
theorem CL.app {H : Hp} {vs ws : List V} {c d : List Ins} (h : CL K H ns vs c) (g : CL K H ns ws d) : CL K H ns (vs ++ ws) (c ++ d) := by
  induction h with
  | nil => exact g
  | cons h _ ih => exact .cons h ih
theorem CL.len {H : Hp} {vs : List V} {c : List Ins} (h : CL K H ns vs c) : vs.length = c.length := by
  induction h with
  | nil => rfl
  | cons h _ ih => rw [List.length_cons, List.length_cons, ih]
theorem CL.get {H : Hp} {vs : List V} {c : List Ins} (h : CL K H ns vs c) : ∀ {i : Nat} {v : V}, vs[i]? = some v → ∃ t x, v = .ref t ∧ c[i]? = some x ∧ At K H t [.str (tagI x), .int (numI ns x)] := by
  induction h with
  | nil => intro i v h; simp at h
  | cons h _ ih =>
    intro i v hv
    cases i with
    | zero => simp at hv; subst hv; exact ⟨_, _, rfl, rfl, h⟩
    | succ i => simpa using ih (by simpa using hv)
theorem CL.same {H : Hp} {n : Nat} {vs : List V} {c : List Ins} (h : CL K H ns vs c) : ∀ {ws : List V}, CL K H ns ws c → Paired (SameV K (n + 2) H) vs ws := by
  induction h with
  | nil => intro ws g; cases g; exact .nil
  | cons h _ ih =>
    intro ws g
    cases g with
    | cons g g2 => exact .cons (sameT h g (.cons (.inl ⟨rfl, .inl ⟨_, rfl⟩⟩) (.cons (.inl ⟨rfl, .inr (.inl ⟨_, rfl⟩)⟩) .nil)) (by simp)) (ih g2)
end
/-! tuples whose object is known: their methods -/
def TupD (H : Hp) (a : Addr) (xs : List V) : Prop := ∃ o : Obj, H a = some (.frz o (.tup xs)) ∧ o.cls = .type "tuple" ∧ o.dict = none
theorem TupD.sq {K : PySem.W.Frag} {H : Hp} {a : Addr} {xs : List V} (h : TupD H a xs) : SqT K H a xs := by
  obtain ⟨o, e, _⟩ := h
  exact .inl (.inr ⟨o, e⟩)
theorem TupD.keep {H H' : Hp} {W : List Addr} {a : Addr} {xs : List V} (h : TupD H a xs) (k : Keep W H H') (w : a ∉ W) : TupD H' a xs := by
  obtain ⟨o, e, c, d⟩ := h
  exact ⟨o, k _ _ e w, c, d⟩
section
open PySem.Spec PyProof.Rows
variable {X : Cx} {T id : String} {r : V → List V → Hp → VK → Prop} {o e : Expr} {es : List Expr} {to : TE} {t : TA} {name : Str} {apos cpos pos : Pos}
theorem tupD_is {pins : List (Addr × Obj)} {σ : L2.St} {H : Hp} {s : Shared} {a : Addr} {xs : List V} (I : Inv X pins σ H s) (h : TupD H a xs) :
    s.TypeIs (.ref a) "tuple" ∧ ∀ b, Value.ref a = .ref b → ∃ ob, s.heap.get? b = some ob ∧ ob.dict = none := by
  obtain ⟨o, e, c, d⟩ := h
  obtain ⟨g, _⟩ := I.hok _ _ e
  exact ⟨⟨o, g, c⟩, fun b q => by cases q; exact ⟨o, g, d⟩⟩
theorem pe_bmZ (pa : PlainAttrs "tuple") (slot : Slot "tuple" name id) (hty : typeOf (.builtin id) = pure (.type "method_descriptor")) (hm : MtR X id r) (ho : PE X o to) (ha : PA X (e :: es) t)
    (hbase : attributeBase o name X.env (eval o X.env) = eval o X.env := by rfl)
    (hfew : ((backTo cpos (starEach (e :: es) X.env)).all (fun x => !x.1) && (backToKw cpos (keywordEach [] X.env)).all (fun x => x.1.isSome)
      && decide ((e :: es).length + ([] : List Keyword).length + (if ([] : List Keyword).isEmpty then 0 else 1) < 30)) = true := by rfl)
    (hline : (apos.endLine == cpos.line) = true := by rfl) (hs : starEach (e :: es) X.env = (false, eval e X.env) :: starEach es X.env := by rfl) (hplain : (backTo cpos (starEach es X.env)).any (·.1) = false := by rfl) :
    PE X (.Call (.Attribute o name apos) (e :: es) [] cpos) (fun σ H Q => to σ H fun x H1 => ∃ a xs, x = .ref a ∧ TupD H1 a xs ∧ t σ H1 fun ys H2 => r x ys H2 Q) := by
  refine ⟨fun pins s σ H Q I h => ?_⟩
  refine wpAny_Call_method_late hbase hfew hline rfl (thn (ho.run pins s σ H _ I h) fun v s1 ⟨x, H1, I1, r1, a, xs, hx, ty, q1⟩ => ?_)
  subst hx
  obtain rfl : v = Value.ref a := r1
  obtain ⟨h1, h2⟩ := tupD_is I1 ty
  refine ⟨"tuple", id, pa, slot, hty, h1, h2, ?_⟩
  have hA := ha.run cpos pins s1 σ H1 _ I1 q1
  rw [hs] at hA ⊢
  refine Calls.callWith_builtin (by show (false || (backTo cpos (starEach es X.env)).any (·.1)) = false; rw [hplain] <;> rfl) (Calls.evalArgs_plain ?_)
  exact thn hA fun us s2 ⟨vs, H2, I2, r2, q2⟩ => hm pins s2 σ H2 (.ref a) vs (.ref a) us Q I2 rfl r2 q2
theorem pe_tupZ {x1} (h : PA X es t) : PE X (.Tuple es x1 pos) (fun σ H Q => t σ H fun xs H1 => xs.length ≤ sizeLine ∧ ∀ p o, H1 p = none → o.cls = .type "tuple" → o.dict = none → Q (.ref p) (upd H1 p (.frz o (.tup xs)))) := by
  refine ⟨fun pins s σ H Q I hq => ?_⟩
  refine wpAny_Tuple_spliced (thn (h.run pos pins s σ H _ I hq) fun us s1 ⟨xs, H1, I1, r, z, q⟩ => ⟨by rw [← r.length]; exact z, ?_⟩)
  have hf : H1 s1.heap.objs.size = none := I1.hok.fresh (Nat.le_refl _)
  refine ⟨.ref s1.heap.objs.size, upd H1 s1.heap.objs.size (.frz { cls := .type "tuple", data := .seq us.toArray } (.tup xs)), I1.laid (t' := s1.toks) (fun b u e => Heap.get?_push_of_some _ e) (Nat.le_refl _) ?_, rfl, q _ _ hf rfl rfl⟩
  exact ⟨Heap.get?_push_size _ rfl, z, us, r, ⟨_, Heap.get?_push_size _ rfl, rfl, _, rfl⟩⟩
theorem call_tuple_ofZ : CallR X (.type "tuple") (fun xs H Q => ∃ p ys, xs = [.ref p] ∧ SqL X.K H p ys ∧ ∀ l o, H l = none → o.cls = .type "tuple" → o.dict = none → Q (.ref l) (upd H l (.frz o (.tup ys)))) := by
  intro pins s σ H xs us Q I r h
  obtain ⟨p, ys, rfl, hq, q⟩ := h
  obtain ⟨u, rfl, rx⟩ := vals1 r
  cases rx
  obtain ⟨its, r', pl, hz⟩ := I.list hq
  have hlen := r'.length
  refine call_tuple_list pl.isList (fun h' kp => ?_) (by simp only [List.size_toArray] <;> omega)
  have I1 : Inv X pins σ H { s with heap := h' } := I.kept (t' := s.toks) kp
  have I2 : Inv X pins σ (upd H h'.objs.size (.frz { cls := .type "tuple", data := .seq its.toArray } (.tup ys))) { s with heap := h'.push { cls := .type "tuple", data := .seq its.toArray } } :=
    I1.laid (t' := s.toks) (fun b o e => Heap.get?_push_of_some _ e) (Nat.le_refl _) (show ObjOk X.prog X.w _ _ _ (.frz _ (.tup ys)) from ⟨Heap.get?_push_size _ rfl, hz, its, r', IsTup.new _ _⟩)
  exact ⟨.ref h'.objs.size, _, I2, rfl, q _ _ (I1.hok.fresh (Nat.le_refl _)) rfl rfl⟩
end

def sp_code (K : PySem.W.Frag) (n : Nat) : Sp := fun vs H Q _ => ∃ v sl od e ns ps on, vs = [v, .ref sl, .ref od] ∧ EV K H v e ∧ e.Ok ns ps ∧ e.dep ≤ n ∧ n ≤ 13 ∧ TupD H sl (ns.map V.str) ∧ DcB H od ps on ∧
  ∀ l xs H', H' l = some (.lst xs) → CL K H' ns xs (code on e) → Keep [] H H' → Q (.ref l) H'
theorem at_one {K : PySem.W.Frag} {H : Hp} {t l : Addr} {xs ys : List V} (nt : H t = none) (nl : upd H t (.tup xs) l = none) : At K (upd (upd H t (.tup xs)) l (.lst ys)) t xs := by
  have h : t ≠ l := ne_of_none (H := upd H t (.tup xs)) upd_same nl
  exact .inl (by rw [upd_ne h]; exact upd_same)
theorem nei {a b : Int} (h : a ≠ b) : ¬ V.int a = V.int b := fun z => h (V.int.inj z)
theorem flat_sgs (ys : List Str) : (ys.map V.str).all flatV = true := flat_strs ys
theorem str_ne_eqV {ys : List Str} {z : Str} {j : Nat} (h : ∀ m, m < j → ys[m]? ≠ some z) : ∀ (m : Nat) (z' : V), m < j → (ys.map V.str)[m]? = some z' → eqV z' (.str z) = false := fun m z' hm hz => by
  obtain ⟨y, hy, rfl⟩ := strs_get hz
  have : y ≠ z := fun q => h m hm (by rw [hy, q])
  show (y == z) = false
  simpa using this
section
variable {P : Program} {w : World} {K : PySem.W.Frag} {mg : Str → Option Value} {base : Heap} {C_Tape : Addr} {C_Thinker : Addr} {C_Brain : Addr} {C_Mind : Addr} {C_Frame : Addr} {C_Thinking : Addr} {T_EVENTS : Addr} {T_SIGNS : Addr}
theorem ok_code0 {f : Addr} {fd : FuncData} (D : C8.Def K mg "expression_code" s_expression_code f fd) (b : Binds K fd ["expression", "slots", "on"] []) : C8.Cal P w K mg base 1 "expression_code" (sp_code K 0) [] :=
  ⟨f, fd, ["expression", "slots", "on"], [], ⟨fun vs H Q E h => (by obtain ⟨v, sl, od, e, ns, ps, on, rfl, _⟩ := h; rfl), fun A outer s H args us vs Q E _ _ _ _ h => (by obtain ⟨v, sl, od, e, ns, ps, on, _, _, _, z, _⟩ := h; have := e.dep_pos; omega)⟩, D.mgf, D.kp, b, .nil⟩
theorem ok_code {f : Addr} {fd : FuncData} (D : C8.Def K mg "expression_code" s_expression_code f fd) (b : Binds K fd ["expression", "slots", "on"] []) (T : Txt K mg C_Tape C_Thinker C_Brain C_Mind C_Frame C_Thinking T_EVENTS T_SIGNS) {n k : Nat} (c_expression_code : C8.Cal P w K mg base k "expression_code" (sp_code K n) []) :
    C8.Cal P w K mg base (k + 1) "expression_code" (sp_code K (n + 1)) [] := by
  refine cal0 D b .nil sc_expression_code (fun vs H Q E h => ?_) (fun cdv A outer s H vs Q E hr h => ?_)
  · obtain ⟨v, sl, od, e, ns, ps, on, rfl, _⟩ := h
    rfl
  · obtain ⟨v, sl, od, e, ns, ps, on, rfl, he, hok, hd, hn, S, O, k⟩ := h
    have hu := hu_of hr
    refine ⟨_, (pss_cons (ps_set (i := 3) sc_expression_code.nd rfl (by first | exact Or.inl rfl | exact Or.inr rfl) (pe_ix ix_tup (pv 0) pe_int (fun _ _ => rfl)))
(pss_cons (ps_if (pt_cmpR op_eq (pv 3) pe_str (nomark _))
  (pss_one (ps_ret (pe_lst (pa_cons (pe_tup (pa_cons pe_str (pa_cons (pe_ix ix_tup (pv 0) pe_int (fun _ _ => rfl)) pa_nil))) pa_nil))))
  pss_nil)
(pss_cons (ps_if (pt_cmpR op_eq (pv 3) pe_str (nomark _))
  (pss_one (ps_ret (pe_lst (pa_cons (pe_tup (pa_cons pe_str (pa_cons (pe_bmZ PySem.F.plainAttrs_tuple PySem.F.slot_tuple_index PySem.F.type_tuple_index mt_tup_index (pv 1) (pa_cons (pe_ix ix_tup (pv 0) pe_int (fun _ _ => rfl)) pa_nil)) pa_nil))) pa_nil))))
  pss_nil)
(pss_cons (ps_if (pt_cmpR op_eq (pv 3) pe_str (nomark _))
  (pss_one (ps_ret (pe_lst (pa_cons (pe_tup (pa_cons pe_str (pa_cons pe_int pa_nil))) pa_nil))))
  pss_nil)
(pss_cons (ps_if (pt_cmpR op_eq (pv 3) pe_str (nomark _))
  (pss_one (ps_ret (pe_lst (StX.pa_star (pe_c c_expression_code hr (by first | exact Nat.le_refl _ | decide | omega) rfl (pa_cons (pe_ix ix_tup (pv 0) pe_int (fun _ _ => rfl)) (pa_cons (pv 1) (pa_cons (pv 2) pa_nil)))) (pa_cons (pe_tup (pa_cons pe_str (pa_cons pe_int pa_nil))) pa_nil)))))
  pss_nil)
(pss_cons (ps_if (pt_cmpR op_eq (pv 3) pe_str (nomark _))
  (pss_cons (ps_set (i := 4) sc_expression_code.nd rfl (by first | exact Or.inl rfl | exact Or.inr rfl) (pe_ifExp (pt_val (pe_dget hu (pv 2) (pe_ix ix_tup (pv 0) pe_int (fun _ _ => rfl)) (fun _ _ => rfl))) (pe_ix ix_tup (pv 0) pe_int (fun _ _ => rfl)) (pe_ix ix_tup (pv 0) pe_int (fun _ _ => rfl))))
  (pss_one (ps_ret (pe_c c_expression_code hr (by first | exact Nat.le_refl _ | decide | omega) rfl (pa_cons (pv 4) (pa_cons (pv 1) (pa_cons (pv 2) pa_nil)))))))
  pss_nil)
(pss_cons (ps_set (i := 5) sc_expression_code.nd rfl (by first | exact Or.inl rfl | exact Or.inr rfl) (pe_c c_expression_code hr (by first | exact Nat.le_refl _ | decide | omega) rfl (pa_cons (pe_ix ix_tup (pv 0) pe_int (fun _ _ => rfl)) (pa_cons (pv 1) (pa_cons (pv 2) pa_nil)))))
(pss_cons (ps_set (i := 6) sc_expression_code.nd rfl (by first | exact Or.inl rfl | exact Or.inr rfl) (pe_c c_expression_code hr (by first | exact Nat.le_refl _ | decide | omega) rfl (pa_cons (pe_ix ix_tup (pv 0) pe_int (fun _ _ => rfl)) (pa_cons (pv 1) (pa_cons (pv 2) pa_nil)))))
(pss_one (ps_ret (pe_lst (StX.pa_star (pv 5) (StX.pa_star (pv 6) (pa_cons (pe_tup (pa_cons pe_str (pa_cons (pe_bm PySem.F.plainAttrs_tuple PySem.F.slot_tuple_index PySem.F.type_tuple_index mt_tup_index (pe_gc rfl T.v_SIGNS) (pa_cons (pv 3) pa_nil)) pa_nil))) pa_nil)))))))))))))), ?_⟩
    cases he with
    | num h =>
      refine ⟨_, rfl, _, _, _, _, rfl, rfl, h.sq, rfl, _, rfl, rfl, _, rfl, iteDT rfl ?_⟩
      exact ⟨_, rfl, _, _, _, _, rfl, rfl, h.sq, rfl, by show 2 ≤ sizeLine; decide, fun t nt => ⟨by show 1 ≤ sizeLine; decide, fun l nl => k l _ _ upd_same (.cons (at_one nt nl) .nil) ((Keep.new nt).then_new nl)⟩⟩
    | var h =>
      refine ⟨_, rfl, _, _, _, _, rfl, rfl, h.sq, rfl, _, rfl, rfl, _, rfl, iteDF (nes (by decide +kernel)) ?_⟩
      refine ⟨_, rfl, rfl, _, rfl, iteDT rfl ?_⟩
      have hi := idx_get hok
      exact ⟨_, rfl, _, _, rfl, S, _, rfl, _, _, _, _, rfl, rfl, h.sq, rfl, _, ns, _, _, rfl, rfl, S.sq, hi.1, hi.2, by show 2 ≤ sizeLine; decide, fun t nt => ⟨by show 1 ≤ sizeLine; decide, fun l nl => k l _ _ upd_same (.cons (at_one nt nl) .nil) ((Keep.new nt).then_new nl)⟩⟩
    | long h =>
      refine ⟨_, rfl, _, _, _, _, rfl, rfl, h.sq, rfl, _, rfl, rfl, _, rfl, iteDF (nes (by decide +kernel)) ?_⟩
      refine ⟨_, rfl, rfl, _, rfl, iteDF (nes (by decide +kernel)) ?_⟩
      refine ⟨_, rfl, rfl, _, rfl, iteDT rfl ?_⟩
      exact ⟨by show 2 ≤ sizeLine; decide, fun t nt => ⟨by show 1 ≤ sizeLine; decide, fun l nl => k l _ _ upd_same (.cons (at_one nt nl) .nil) ((Keep.new nt).then_new nl)⟩⟩
    | @view _ _ e1 h h1 =>
      refine ⟨_, rfl, _, _, _, _, rfl, rfl, h.sq, rfl, _, rfl, rfl, _, rfl, iteDF (nes (by decide +kernel)) ?_⟩
      refine ⟨_, rfl, rfl, _, rfl, iteDF (nes (by decide +kernel)) ?_⟩
      refine ⟨_, rfl, rfl, _, rfl, iteDF (nes (by decide +kernel)) ?_⟩
      refine ⟨_, rfl, rfl, _, rfl, iteDT rfl ?_⟩
      have hsz := code_small on (e := .view e1) (by omega)
      unfold Ex.dep at hd
      refine ⟨_, rfl, _, _, _, _, rfl, rfl, h.sq, rfl, _, rfl, _, rfl, _, _, _, _, ns, ps, on, rfl, h1, hok, by omega, by omega, S, O, fun l1 xs H1 hl1 C1 K1 => ?_⟩
      refine ⟨_, _, rfl, .inr (SqL.of hl1), by show 2 ≤ sizeLine; decide, fun t nt => ⟨?_, fun l nl => ?_⟩⟩
      · rw [List.length_append, C1.len]
        have : (code on (.view e1)).length = (code on e1).length + 1 := by show (code on e1 ++ [Ins.view]).length = _; rw [List.length_append]; rfl
        exact smallM (by simp; omega)
      · exact k l _ _ upd_same ((C1.tk ((TK.new nt).trans (TK.new nl))).app (.cons (at_one nt nl) .nil)) ((K1.then_new nt).then_new nl)
    | pick h h1 h2 =>
      refine ⟨_, rfl, _, _, _, _, rfl, rfl, h.sq, rfl, _, rfl, rfl, _, rfl, iteDF (nes (by decide +kernel)) ?_⟩
      refine ⟨_, rfl, rfl, _, rfl, iteDF (nes (by decide +kernel)) ?_⟩
      refine ⟨_, rfl, rfl, _, rfl, iteDF (nes (by decide +kernel)) ?_⟩
      refine ⟨_, rfl, rfl, _, rfl, iteDF (nes (by decide +kernel)) ?_⟩
      refine ⟨_, rfl, rfl, _, rfl, iteDT rfl ?_⟩
      unfold Ex.dep at hd
      unfold code at k
      refine ⟨_, rfl, _, rfl, _, _, _, _, rfl, rfl, h.sq, rfl, _, _, rfl, O.get hok.1, _, rfl, iteB (fun q => ?_) (fun q => ?_)⟩
      · rw [if_pos q] at k
        exact ⟨_, rfl, _, _, _, _, rfl, rfl, h.sq, rfl, _, rfl, _, rfl, _, rfl, _, _, _, _, ns, ps, on, rfl, h1, hok.2.1, by omega, by omega, S, O, k⟩
      · rw [if_neg (by simp [q])] at k
        exact ⟨_, rfl, _, _, _, _, rfl, rfl, h.sq, rfl, _, rfl, _, rfl, _, rfl, _, _, _, _, ns, ps, on, rfl, h2, hok.2.2, by omega, by omega, S, O, k⟩
    | @op _ sg _ _ e1 e2 h h1 h2 =>
      obtain ⟨n1, n2, n3, n4, n5⟩ := sg_not _ hok.1
      refine ⟨_, rfl, _, _, _, _, rfl, rfl, h.sq, rfl, _, rfl, rfl, _, rfl, iteDF (nes n1) ?_⟩
      refine ⟨_, rfl, rfl, _, rfl, iteDF (nes n2) ?_⟩
      refine ⟨_, rfl, rfl, _, rfl, iteDF (nes n3) ?_⟩
      refine ⟨_, rfl, rfl, _, rfl, iteDF (nes n4) ?_⟩
      refine ⟨_, rfl, rfl, _, rfl, iteDF (nes n5) ?_⟩
      have hsz := code_small on (e := .op sg e1 e2) (by omega)
      unfold Ex.dep at hd
      refine ⟨_, rfl, _, _, _, _, rfl, rfl, h.sq, rfl, _, rfl, _, rfl, _, _, _, _, ns, ps, on, rfl, h1, hok.2.1, by omega, by omega, S, O, fun l1 xs H1 hl1 C1 K1 => ?_⟩
      refine ⟨_, rfl, _, _, _, _, rfl, rfl, (h.tk K1.tk).sq, rfl, _, rfl, _, rfl, _, _, _, _, ns, ps, on, rfl, h2.tk K1.tk, hok.2.2, by omega, by omega, S.keep K1 (by simp), O.keep K1, fun l2 ys H2 hl2 C2 K2 => ?_⟩
      have hi := idx_get hok.1
      have hl1' := K2 _ _ hl1 (by simp)
      refine ⟨_, rfl, _, _, rfl, .inr (SqL.of hl1'), _, rfl, _, _, rfl, .inr (SqL.of hl2), .inr (.inl ⟨rfl, T.d_SIGNS⟩), _, rfl, _, sgL, _, _, rfl, rfl, T.q_SIGNS _, hi.1, hi.2, by show 2 ≤ sizeLine; decide, fun t nt => ⟨?_, fun l nl => ?_⟩⟩
      · have : (code on (.op sg e1 e2)).length = (code on e1).length + (code on e2).length + 1 := by show (code on e1 ++ code on e2 ++ [Ins.sign sg]).length = _; rw [List.length_append, List.length_append]; rfl
        rw [List.length_append, List.length_append, C1.len, C2.len]
        exact smallM (by simp; omega)
      · have kk := (TK.new nt).trans (TK.new (o := .lst (xs ++ (ys ++ [.ref t]))) nl)
        refine k l _ _ upd_same ?_ (((K1.trans K2).then_new nt).then_new nl)
        show CL K _ ns (xs ++ (ys ++ [.ref t])) (code on e1 ++ code on e2 ++ [Ins.sign sg])
        rw [List.append_assoc]
        exact (((C1.tk K2.tk).tk kk).app ((C2.tk kk).app (.cons (at_one nt nl) .nil)))
end

theorem DcI.keep {H H' : Hp} {a : Addr} {ns : List Str} {tb : Str → Int} {W : List Addr} (h : DcI H a ns tb) (k : Keep W H H') (w : a ∉ W) : DcI H' a ns tb := by
  obtain ⟨kvs, e, q⟩ := h
  exact ⟨kvs, k _ _ e w, q⟩

/-! statements of a brain -/
mutual
inductive Th where
  | set (x : Str) (e : Ex)
  | lot (x : Str) (e : Ex)
  | iff (t : Ex) (a b : Bl)
  | whl (t : Ex) (b : Bl)
inductive Bl where
  | nil
  | cons (t : Th) (b : Bl)
end
def ExOk (ns : List Str) (e : Ex) : Prop := e.Ok ns [] ∧ e.dep ≤ 12
mutual
def Th.Ok (ns : List Str) : Th → Prop
  | .set x e => x ∈ ns ∧ ExOk ns e
  | .lot x e => x ∈ ns ∧ ExOk ns e
  | .iff t a b => ExOk ns t ∧ a.Ok ns ∧ b.Ok ns
  | .whl t b => ExOk ns t ∧ b.Ok ns
def Bl.Ok (ns : List Str) : Bl → Prop
  | .nil => True
  | .cons t b => t.Ok ns ∧ b.Ok ns
end
mutual
def Th.dep : Th → Nat
  | .set _ _ => 0
  | .lot _ _ => 0
  | .iff _ a b => max a.dep b.dep + 1
  | .whl _ b => b.dep + 1
def Bl.dep : Bl → Nat
  | .nil => 0
  | .cons t b => max t.dep b.dep
end
def Bl.len : Bl → Nat
  | .nil => 0
  | .cons _ b => b.len + 1
mutual
def Th.Sm : Th → Prop
  | .set _ _ => True
  | .lot _ _ => True
  | .iff _ a b => (a.len ≤ 5 ∧ a.Sm) ∧ b.len ≤ 5 ∧ b.Sm
  | .whl _ b => b.len ≤ 5 ∧ b.Sm
def Bl.Sm : Bl → Prop
  | .nil => True
  | .cons t b => t.Sm ∧ b.Sm
end
def Bl.app : Bl → Bl → Bl
  | .nil, c => c
  | .cons t b, c => .cons t (b.app c)
theorem Bl.app_ok {ns : List Str} : ∀ {b c : Bl}, b.Ok ns → c.Ok ns → (b.app c).Ok ns
  | .nil, _, _, h => h
  | .cons _ b, _, h, g => ⟨h.1, Bl.app_ok h.2 g⟩
theorem Bl.app_sm : ∀ {b c : Bl}, b.Sm → c.Sm → (b.app c).Sm
  | .nil, _, _, h => h
  | .cons _ b, _, h, g => ⟨h.1, Bl.app_sm h.2 g⟩
theorem Bl.app_dep : ∀ (b c : Bl), (b.app c).dep = max b.dep c.dep
  | .nil, c => by show c.dep = max 0 c.dep; omega
  | .cons t b, c => by show max t.dep (b.app c).dep = max (max t.dep b.dep) c.dep; rw [Bl.app_dep b c]; omega
theorem Bl.app_len : ∀ (b c : Bl), (b.app c).len = b.len + c.len
  | .nil, c => by show c.len = 0 + c.len; omega
  | .cons t b, c => by show (b.app c).len + 1 = b.len + 1 + c.len; rw [Bl.app_len b c]; omega
mutual
def TV (K : PySem.W.Frag) (H : Hp) : Th → V → Prop
  | .set x e, v => ∃ a u, v = .ref a ∧ At K H a [.str "set", .str x, u] ∧ EV K H u e
  | .lot x e, v => ∃ a u, v = .ref a ∧ At K H a [.str "lot", .str x, u] ∧ EV K H u e
  | .iff t a b, v => ∃ p u q r xs ys, v = .ref p ∧ At K H p [.str "if", u, .ref q, .ref r] ∧ EV K H u t ∧ At K H q xs ∧ TVs K H a xs ∧ At K H r ys ∧ TVs K H b ys
  | .whl t b, v => ∃ p u q xs, v = .ref p ∧ At K H p [.str "while", u, .ref q] ∧ EV K H u t ∧ At K H q xs ∧ TVs K H b xs
def TVs (K : PySem.W.Frag) (H : Hp) : Bl → List V → Prop
  | .nil, xs => xs = []
  | .cons t b, xs => ∃ v r, xs = v :: r ∧ TV K H t v ∧ TVs K H b r
end
def BV (K : PySem.W.Frag) (H : Hp) (b : Bl) (q : Addr) : Prop := ∃ xs, At K H q xs ∧ TVs K H b xs
mutual
theorem TV.tk {K : PySem.W.Frag} {H H' : Hp} (k : TK H H') : ∀ (t : Th) {v : V}, TV K H t v → TV K H' t v
  | .set _ _, _, ⟨a, u, e, h1, h2⟩ => ⟨a, u, e, h1.tk k, h2.tk k⟩
  | .lot _ _, _, ⟨a, u, e, h1, h2⟩ => ⟨a, u, e, h1.tk k, h2.tk k⟩
  | .iff _ a b, _, ⟨p, u, q, r, xs, ys, e, h1, h2, h3, h4, h5, h6⟩ => ⟨p, u, q, r, xs, ys, e, h1.tk k, h2.tk k, h3.tk k, TVs.tk k a h4, h5.tk k, TVs.tk k b h6⟩
  | .whl _ b, _, ⟨p, u, q, xs, e, h1, h2, h3, h4⟩ => ⟨p, u, q, xs, e, h1.tk k, h2.tk k, h3.tk k, TVs.tk k b h4⟩
theorem TVs.tk {K : PySem.W.Frag} {H H' : Hp} (k : TK H H') : ∀ (b : Bl) {xs : List V}, TVs K H b xs → TVs K H' b xs
  | .nil, _, h => h
  | .cons t b, _, ⟨v, r, e, h1, h2⟩ => ⟨v, r, e, TV.tk k t h1, TVs.tk k b h2⟩
end
theorem BV.tk {K : PySem.W.Frag} {H H' : Hp} (k : TK H H') {b : Bl} {q : Addr} (h : BV K H b q) : BV K H' b q := by
  obtain ⟨xs, h1, h2⟩ := h
  exact ⟨xs, h1.tk k, TVs.tk k b h2⟩
theorem TVs.app {K : PySem.W.Frag} {H : Hp} : ∀ {b c : Bl} {xs ys : List V}, TVs K H b xs → TVs K H c ys → TVs K H (b.app c) (xs ++ ys)
  | .nil, _, _, _, h, g => by cases h; exact g
  | .cons _ b, _, _, _, ⟨v, r, e, h1, h2⟩, g => by
    subst e
    exact ⟨v, r ++ _, rfl, h1, TVs.app h2 g⟩
theorem TVs.len {K : PySem.W.Frag} {H : Hp} : ∀ {b : Bl} {xs : List V}, TVs K H b xs → xs.length = b.len
  | .nil, _, h => by cases h; rfl
  | .cons _ b, _, ⟨v, r, e, h1, h2⟩ => by
    subst e
    show r.length + 1 = b.len + 1
    rw [TVs.len h2]
/-! what they do -/
structure MS where
  left : Int
  tb : Str → Int
  tk : List (Int × Int)
def MS.put (s : MS) (x : Str) (v : Int) : MS := { s with tb := fun y => if y = x then v else s.tb y }
def offs : Str → Bool := fun _ => false
def MS.ev (seen : List Int) (s : MS) (e : Ex) : Int := val s.tb offs seen e
def loopM (test : MS → Bool) (f : MS → Bool × MS) : Nat → MS → Bool × MS
  | 0, s => (false, s)
  | n + 1, s => if test s = false then (true, s) else if (f s).1 = false then (false, (f s).2) else if (f s).2.left = 0 then (false, (f s).2) else loopM test f n { (f s).2 with left := (f s).2.left - 1 }
def lotS (seen rs : List Int) (s : MS) (x : Str) (e : Ex) : MS :=
  if s.ev seen e > 0 then MS.put { s with tk := s.tk ++ [(nextR rs s.tk (s.ev seen e), s.ev seen e)] } x (nextR rs s.tk (s.ev seen e)) else s.put x (s.ev seen e)
mutual
def runT (seen rs : List Int) : Th → MS → Bool × MS
  | .set x e, s => (true, s.put x (s.ev seen e))
  | .lot x e, s => (true, lotS seen rs s x e)
  | .iff t a b, s => if s.ev seen t ≠ 0 then runB seen rs a s else runB seen rs b s
  | .whl t b, s => loopM (fun s => decide (s.ev seen t ≠ 0)) (fun s => runB seen rs b s) (s.left.toNat + 1) s
def runB (seen rs : List Int) : Bl → MS → Bool × MS
  | .nil, s => (true, s)
  | .cons t b, s => if s.left = 0 then (false, s) else if (runT seen rs t { s with left := s.left - 1 }).1 = false then runT seen rs t { s with left := s.left - 1 } else runB seen rs b (runT seen rs t { s with left := s.left - 1 }).2
end
/-- a state that stays in its bounds -/
structure MOk (ns : List Str) (s : MS) : Prop where
  l : 0 ≤ s.left
  t : TbOk ns s.tb
/-- what a run may do to it -/
structure Mv (ns : List Str) (g : Nat) (s r : MS) : Prop where
  ok : MOk ns r
  l : r.left ≤ s.left
  k : r.left.toNat + r.tk.length ≤ s.left.toNat + s.tk.length + g
theorem Mv.refl {ns : List Str} {s : MS} (h : MOk ns s) : Mv ns 0 s s := ⟨h, Int.le_refl _, Nat.le_refl _⟩
theorem Mv.trans {ns : List Str} {g h : Nat} {s r q : MS} (a : Mv ns g s r) (b : Mv ns h r q) : Mv ns (g + h) s q := ⟨b.ok, Int.le_trans b.l a.l, by have := a.k; have := b.k; omega⟩
theorem Mv.mono {ns : List Str} {g h : Nat} {s r : MS} (a : Mv ns g s r) (e : g ≤ h) : Mv ns h s r := ⟨a.ok, a.l, by have := a.k; omega⟩
theorem MOk.dec {ns : List Str} {s : MS} (h : MOk ns s) (z : ¬ s.left = 0) : MOk ns { s with left := s.left - 1 } := ⟨by have := h.l; show 0 ≤ s.left - 1; omega, h.t⟩
theorem MOk.put {ns : List Str} {s : MS} (h : MOk ns s) {x : Str} {v : Int} (v0 : 0 ≤ v) (v1 : v < 65536) : MOk ns (s.put x v) := ⟨h.l, fun y hy => by
  show 0 ≤ (if y = x then v else s.tb y) ∧ (if y = x then v else s.tb y) < 65536
  split
  · exact ⟨v0, v1⟩
  · exact h.t y hy⟩
theorem MOk.ev {ns : List Str} {s : MS} {seen : List Int} (h : MOk ns s) (hs : SeenOk seen) {e : Ex} (he : ExOk ns e) : 0 ≤ s.ev seen e ∧ s.ev seen e < 65536 := val_range h.t hs e he.1
theorem nextR_range {rs : List Int} {tk : List (Int × Int)} {c : Int} (h : 0 < c) : 0 ≤ nextR rs tk c ∧ nextR rs tk c < c := by
  unfold nextR
  split
  · exact ⟨Int.emod_nonneg _ (by omega), Int.emod_lt_of_pos _ h⟩
  · exact ⟨Int.le_refl _, h⟩
theorem lotS_mv {ns : List Str} {seen rs : List Int} {s : MS} (h : MOk ns s) (hs : SeenOk seen) {x : Str} {e : Ex} (he : ExOk ns e) : Mv ns 1 s (lotS seen rs s x e) := by
  have hv := h.ev hs he
  unfold lotS
  split
  · rename_i q
    have hn := nextR_range (rs := rs) (tk := s.tk) q
    refine ⟨?_, Int.le_refl _, ?_⟩
    · exact MOk.put (s := { s with tk := s.tk ++ [(nextR rs s.tk (s.ev seen e), s.ev seen e)] }) ⟨h.l, h.t⟩ hn.1 (by omega)
    · show s.left.toNat + (s.tk ++ [_]).length ≤ _
      rw [List.length_append]; simp; omega
  · exact ⟨h.put hv.1 hv.2, Int.le_refl _, Nat.le_succ _⟩
theorem loopM_mv {ns : List Str} {test : MS → Bool} {f : MS → Bool × MS} (hf : ∀ s, MOk ns s → Mv ns 0 s (f s).2) : ∀ (n : Nat) (s : MS), MOk ns s → Mv ns 0 s (loopM test f n s).2
  | 0, s, h => Mv.refl h
  | n + 1, s, h => by
    have h1 := hf s h
    unfold loopM
    split
    · exact Mv.refl h
    · split
      · exact h1
      · split
        · exact h1
        · rename_i z
          have hd : Mv ns 0 (f s).2 { (f s).2 with left := (f s).2.left - 1 } := ⟨h1.ok.dec z, by show (f s).2.left - 1 ≤ _; omega, by show ((f s).2.left - 1).toNat + (f s).2.tk.length ≤ (f s).2.left.toNat + (f s).2.tk.length + 0; omega⟩
          exact (h1.trans hd).trans (loopM_mv hf n _ hd.ok)
mutual
theorem runT_mv {ns : List Str} {seen rs : List Int} (hs : SeenOk seen) : ∀ (t : Th), t.Ok ns → ∀ s, MOk ns s → Mv ns 1 s (runT seen rs t s).2
  | .set x e, ok, s, h => ⟨h.put (h.ev hs ok.2).1 (h.ev hs ok.2).2, Int.le_refl _, Nat.le_succ _⟩
  | .lot x e, ok, s, h => by unfold runT; exact lotS_mv h hs ok.2
  | .iff t a b, ok, s, h => by
    unfold runT
    split
    · exact (runB_mv hs a ok.2.1 s h).mono (by omega)
    · exact (runB_mv hs b ok.2.2 s h).mono (by omega)
  | .whl t b, ok, s, h => by
    unfold runT
    exact (loopM_mv (fun s h => runB_mv hs b ok.2 s h) _ s h).mono (by omega)
theorem runB_mv {ns : List Str} {seen rs : List Int} (hs : SeenOk seen) : ∀ (b : Bl), b.Ok ns → ∀ s, MOk ns s → Mv ns 0 s (runB seen rs b s).2
  | .nil, _, s, h => by unfold runB; exact Mv.refl h
  | .cons t b, ok, s, h => by
    unfold runB
    split
    · exact Mv.refl h
    · rename_i z
      have h1 := h.dec z
      have h2 := runT_mv (rs := rs) hs t ok.1 _ h1
      have h3 : Mv ns 0 s (runT seen rs t { s with left := s.left - 1 }).2 := by
        refine ⟨h2.ok, Int.le_trans h2.l (by show s.left - 1 ≤ s.left; omega), ?_⟩
        have h2k := h2.k
        have h2l := h.l
        change _ ≤ (s.left - 1).toNat + s.tk.length + 1 at h2k
        omega
      split
      · exact h3
      · exact h3.trans (runB_mv hs b ok.2 _ h2.ok)
end
/-! how they are drawn -/
section
variable {P : Program} {w : World} {K : PySem.W.Frag} {mg : Str → Option Value} {base : Heap} {C_Tape : Addr} {C_Thinker : Addr} {C_Brain : Addr} {C_Mind : Addr} {C_Frame : Addr} {C_Thinking : Addr} {T_EVENTS : Addr} {T_SIGNS : Addr}
end

section
variable {P : Program} {w : World} {K : PySem.W.Frag} {mg : Str → Option Value} {base : Heap} {C_Tape : Addr} {C_Thinker : Addr} {C_Brain : Addr} {C_Mind : Addr} {C_Frame : Addr} {C_Thinking : Addr} {T_EVENTS : Addr} {T_SIGNS : Addr}
theorem value_all {f : Addr} {fd : FuncData} (D : C8.Def K mg "value_of" s_value_of f fd) {ds : List Value} (d : Vals [] ds) (b : Binds K fd ["expression", "table", "on", "seen"] ds) (T : Txt K mg C_Tape C_Thinker C_Brain C_Mind C_Frame C_Thinking T_EVENTS T_SIGNS) (c : C8.Cal P w K mg base 1 "combine" sp_combine []) : ∀ n, C8.Cal P w K mg base (n + 1) "value_of" (sp_value K n) []
  | 0 => ok_value0 D d b
  | n + 1 => ok_value D d b T (value_all D d b T c n) (calUp c (by omega))
end
/-! dicts filled to the end -/
def Full (H : Hp) (d : Addr) (ys : List Str) (f : Str → V) : Prop := ∃ kvs : List (Key × V), H d = some (.dK kvs) ∧ kvs.length = ys.length ∧ ∀ x, valV kvs (.inr x) = if x ∈ ys then some (f x) else none
theorem Full.keep {H H' : Hp} {W : List Addr} {d : Addr} {ys : List Str} {f : Str → V} (h : Full H d ys f) (k : Keep W H H') (w : d ∉ W) : Full H' d ys f := by
  obtain ⟨kvs, e, l, v⟩ := h
  exact ⟨kvs, k _ _ e w, l, v⟩
theorem Full.dcI {H : Hp} {d : Addr} {ys : List Str} {tb : Str → Int} (h : Full H d ys fun x => .int (tb x)) : DcI H d ys tb := by
  obtain ⟨kvs, e, _, v⟩ := h
  exact ⟨kvs, e, fun x hx => by rw [v x, if_pos hx]⟩
theorem putK_old {kvs : List (Key × V)} {k : Key} {v u : V} (h : valV kvs k = some u) : (putK kvs k v).length = kvs.length := by
  unfold putK
  rw [if_pos (by rw [valV_any, h]; rfl), List.length_map]
theorem Full.put {H : Hp} {d : Addr} {ys : List Str} {tb : Str → Int} (h : Full H d ys fun x => .int (tb x)) {x : Str} (hx : x ∈ ys) : ∃ kvs : List (Key × V), H d = some (.dK kvs) ∧ kvs.length = ys.length ∧
    ∀ (H' : Hp) (v : Int), H' d = some (.dK (putK kvs (.inr x) (.int v))) → Full H' d ys (fun y => .int (if y = x then v else tb y)) := by
  obtain ⟨kvs, e, l, g⟩ := h
  refine ⟨kvs, e, l, fun H' v h' => ⟨_, h', ?_, fun y => ?_⟩⟩
  · rw [putK_old (by rw [g x, if_pos hx])]; exact l
  · rw [valV_put]
    by_cases q : y = x
    · subst q
      rw [if_pos rfl, if_pos hx]
      show _ = some (V.int (if y = y then v else tb y))
      rw [if_pos rfl]
    · rw [if_neg (fun w => q (Sum.inr.inj w)), g y]
      show _ = if y ∈ ys then some (V.int (if y = x then v else tb y)) else none
      rw [if_neg q]
/-! a brain at work -/
def thF (d st tp : Addr) (l : Int) : List (Str × V) := [("table", .ref d), ("left", .int l), ("seen", .ref st), ("tape", .ref tp)]
structure ThAt (C CT : Addr) (H : Hp) (x d st tp rx tx : Addr) (ns : List Str) (seen rs : List Int) (s : MS) : Prop where
  o : ∃ dx, H x = some (.ins C dx (thF d st tp s.left))
  t : Full H d ns (fun y => .int (s.tb y))
  sn : H st = some (.tup (seen.map V.int))
  ta : TapeAt CT H tp rx tx rs s.tk
  nx : x ≠ tp
theorem ThAt.keep0 {C CT : Addr} {H H' : Hp} {x d st tp rx tx : Addr} {ns : List Str} {seen rs : List Int} {s : MS} (h : ThAt C CT H x d st tp rx tx ns seen rs s) (k : Keep [] H H') : ThAt C CT H' x d st tp rx tx ns seen rs s := by
  obtain ⟨dx, o⟩ := h.o
  exact ⟨⟨dx, k _ _ o (by simp)⟩, h.t.keep k (by simp), k _ _ h.sn (by simp), h.ta.keep k k.tk (by simp) (by simp) (by simp), h.nx⟩
theorem ThAt.tk3 {C CT : Addr} {H H' : Hp} {x d st tp rx tx : Addr} {ns : List Str} {seen rs : List Int} {s : MS} (h : ThAt C CT H x d st tp rx tx ns seen rs s) (k : Keep [x, d, tx] H H') : TK H H' := by
  obtain ⟨dx, o⟩ := h.o
  obtain ⟨kvs, e, _⟩ := h.t
  obtain ⟨ys, t, _⟩ := h.ta.t
  intro b xs q
  refine k _ _ q fun z => ?_
  have z' : b = x ∨ b = d ∨ b = tx := by simpa using z
  rcases z' with rfl | rfl | rfl
  · rw [o] at q; cases q
  · rw [e] at q; cases q
  · rw [t] at q; cases q
/-- all that a brain at work rests on -/
structure TC (C CT : Addr) (H : Hp) (x d st tp rx tx : Addr) (ns : List Str) (seen rs : List Int) (s : MS) : Prop where
  A : ThAt C CT H x d st tp rx tx ns seen rs s
  ok : MOk ns s
  sk : SeenOk seen
  sl : seen.length ≤ 60000
  bd : s.left.toNat + s.tk.length ≤ 90000
  nl : ns.length ≤ 1000
theorem TC.keep0 {C CT : Addr} {H H' : Hp} {x d st tp rx tx : Addr} {ns : List Str} {seen rs : List Int} {s : MS} (h : TC C CT H x d st tp rx tx ns seen rs s) (k : Keep [] H H') : TC C CT H' x d st tp rx tx ns seen rs s := ⟨h.A.keep0 k, h.ok, h.sk, h.sl, h.bd, h.nl⟩
theorem TC.mv {C CT : Addr} {H H' : Hp} {x d st tp rx tx : Addr} {ns : List Str} {seen rs : List Int} {s r : MS} (h : TC C CT H x d st tp rx tx ns seen rs s) (a : ThAt C CT H' x d st tp rx tx ns seen rs r) (m : Mv ns 0 s r) : TC C CT H' x d st tp rx tx ns seen rs r := ⟨a, m.ok, h.sk, h.sl, by have := m.k; have := h.bd; omega, h.nl⟩
def sp_tval (K : PySem.W.Frag) (C CT : Addr) : Sp := fun vs H Q _ => ∃ x d st tp rx tx ns seen rs s v e, vs = [.ref x, v] ∧ ThAt C CT H x d st tp rx tx ns seen rs s ∧ MOk ns s ∧ SeenOk seen ∧ seen.length ≤ 60000 ∧ EV K H v e ∧ ExOk ns e ∧ ∀ H', Keep [] H H' → Q (.int (s.ev seen e)) H'
def sp_tunit (C CT : Addr) : Sp := fun vs H Q _ => ∃ x d st tp rx tx ns seen rs s, vs = [.ref x] ∧ ThAt C CT H x d st tp rx tx ns seen rs s ∧ (s.left = 0 → Q (.bl false) H) ∧ (¬ s.left = 0 → ∀ H', ThAt C CT H' x d st tp rx tx ns seen rs { s with left := s.left - 1 } → Keep [x, d, tx] H H' → Q (.bl true) H')
def sp_trun (K : PySem.W.Frag) (C CT : Addr) (n : Nat) : Sp := fun vs H Q _ => ∃ x d st tp rx tx ns seen rs s q b, vs = [.ref x, .ref q] ∧ TC C CT H x d st tp rx tx ns seen rs s ∧ BV K H b q ∧ b.Ok ns ∧ b.dep < n ∧ ∀ H', ThAt C CT H' x d st tp rx tx ns seen rs (runB seen rs b s).2 → Keep [x, d, tx] H H' → Q (.bl (runB seen rs b s).1) H'
def sp_tstep (K : PySem.W.Frag) (C CT : Addr) (n : Nat) : Sp := fun vs H Q _ => ∃ x d st tp rx tx ns seen rs s v t, vs = [.ref x, v] ∧ TC C CT H x d st tp rx tx ns seen rs s ∧ TV K H t v ∧ t.Ok ns ∧ t.dep ≤ n ∧ ∀ H', ThAt C CT H' x d st tp rx tx ns seen rs (runT seen rs t s).2 → Keep [x, d, tx] H H' → Q (.bl (runT seen rs t s).1) H'
def sp_tloop (K : PySem.W.Frag) (C CT : Addr) (n : Nat) : Sp := fun vs H Q _ => ∃ x d st tp rx tx ns seen rs s v t q b, vs = [.ref x, v, .ref q] ∧ TC C CT H x d st tp rx tx ns seen rs s ∧ EV K H v t ∧ ExOk ns t ∧ BV K H b q ∧ b.Ok ns ∧ b.dep < n ∧
  ∀ H', ThAt C CT H' x d st tp rx tx ns seen rs (runT seen rs (.whl t b) s).2 → Keep [x, d, tx] H H' → Q (.bl (runT seen rs (.whl t b) s).1) H'
section
variable {P : Program} {w : World} {K : PySem.W.Frag} {mg : Str → Option Value} {base : Heap} {C_Tape : Addr} {C_Thinker : Addr} {C_Brain : Addr} {C_Mind : Addr} {C_Frame : Addr} {C_Thinking : Addr} {T_EVENTS : Addr} {T_SIGNS : Addr}
theorem ok_tval {f : Addr} {fd : FuncData} (me : Meth K C_Thinker "value" f) (F : C8.Fun K "value" "Thinker.value" s_Thinker_value f fd) (b : Binds K fd ["self", "expression"] []) (T : Txt K mg C_Tape C_Thinker C_Brain C_Mind C_Frame C_Thinking T_EVENTS T_SIGNS) (c_value_of : C8.Cal P w K mg base 13 "value_of" (sp_value K 12) []) : C8.Met P w K mg base 14 C_Thinker "value" (sp_tval K C_Thinker C_Tape) [] := by
  refine met0 T.cl_Thinker me F b sc_Thinker_value (fun vs H Q E h => ?_) (fun cdv A outer s H vs Q E hr h => ?_)
  · obtain ⟨x, d, st, tp, rx, tx, ns, seen, rs, s, v, e, rfl, _⟩ := h
    rfl
  · obtain ⟨x, d, st, tp, rx, tx, ns, seen, rs, s, v, e, rfl, hA, ok, sk, sl, he, hok, k⟩ := h
    have hu := hu_of hr
    refine ⟨_, (pss_one (ps_ret (pe_c c_value_of hr (by first | exact Nat.le_refl _ | decide | omega) rfl (pa_cons (pv 1) (pa_cons (pe_fld (pv 0) rfl) (pa_cons pe_dnewK (pa_cons (pe_fld (pv 0) rfl) pa_nil))))))), ?_⟩
    obtain ⟨dx, ho⟩ := hA.o
    refine ⟨_, rfl, _, rfl, x, C_Thinker, dx, _, _, rfl, ho, T.cl_Thinker, T.a_Thinker_table, rfl, fun od nod => ?_⟩
    have k1 : Keep [] H (upd H od (.dK [])) := Keep.new nod
    refine ⟨_, rfl, x, C_Thinker, dx, _, _, rfl, k1 _ _ ho (by simp), T.cl_Thinker, T.a_Thinker_seen, rfl, ?_⟩
    refine ⟨v, d, od, st, e, ns, [], s.tb, offs, seen, rfl, he.tk k1.tk, hok.1, hok.2, ⟨(hA.t.keep k1 (by simp)).dcI, ⟨[], upd_same, fun x hx => by cases hx⟩, SqT.of (k1 _ _ hA.sn (by simp)), ok.t, sk, by omega⟩, k _ k1⟩
theorem ok_tunit {f : Addr} {fd : FuncData} (me : Meth K C_Thinker "unit" f) (F : C8.Fun K "unit" "Thinker.unit" s_Thinker_unit f fd) (b : Binds K fd ["self"] []) (T : Txt K mg C_Tape C_Thinker C_Brain C_Mind C_Frame C_Thinking T_EVENTS T_SIGNS) : C8.Met P w K mg base 1 C_Thinker "unit" (sp_tunit C_Thinker C_Tape) [] := by
  refine met0 T.cl_Thinker me F b sc_Thinker_unit (fun vs H Q E h => ?_) (fun cdv A outer s H vs Q E hr h => ?_)
  · obtain ⟨x, d, st, tp, rx, tx, ns, seen, rs, s, rfl, _⟩ := h
    rfl
  · obtain ⟨x, d, st, tp, rx, tx, ns, seen, rs, s, rfl, hA, k0, k1⟩ := h
    refine ⟨_, (pss_cons (ps_if (pt_cmpR op_eq (pe_fld (pv 0) rfl) pe_int (nomark _))
  (pss_one (ps_ret pe_bl))
  pss_nil)
(pss_cons (ps_fldaug (pv 0) pe_int in_sub)
(pss_one (ps_ret pe_bl)))), ?_⟩
    obtain ⟨dx, ho⟩ := hA.o
    refine ⟨_, rfl, x, C_Thinker, dx, _, _, rfl, ho, T.cl_Thinker, T.a_Thinker_left, rfl, rfl, _, rfl, iteD (fun e => k0 (V.int.inj e)) (fun e => ?_)⟩
    have e' : ¬ s.left = 0 := fun z => e (congrArg V.int z)
    refine ⟨_, rfl, x, C_Thinker, dx, _, _, rfl, ho, T.cl_Thinker, T.a_Thinker_left, rfl, _, _, rfl, rfl, dx, _, ho, by show 4 < 1000; decide, ?_⟩
    have ne : ∀ {a : Addr} {o : HO}, H a = some o → ¬ o = .ins C_Thinker dx (thF d st tp s.left) → a ≠ x := fun h1 h2 z => by rw [z, ho] at h1; exact h2 (Option.some.inj h1).symm
    obtain ⟨kvs, e1, e2, e3⟩ := hA.t
    obtain ⟨dt, ot⟩ := hA.ta.o
    obtain ⟨ys, t1, t2⟩ := hA.ta.t
    have ku : Keep [x] H (upd H x (.ins C_Thinker dx (thF d st tp (s.left - 1)))) := Keep.at_ (List.mem_singleton.mpr rfl)
    have tku : TK H (upd H x (.ins C_Thinker dx (thF d st tp (s.left - 1)))) := fun b xs q => by rw [upd_ne (ne q (by intro z; cases z))]; exact q
    refine k1 e' _ ⟨⟨dx, upd_same⟩, ⟨kvs, ?_, e2, e3⟩, ?_, hA.ta.keep ku tku ?_ ?_ ?_, hA.nx⟩ (ku.mono (by simp))
    · exact ku _ _ e1 (by have := ne e1 (by intro z; cases z); simpa using this)
    · exact tku _ _ hA.sn
    · simpa using hA.nx.symm
    · have := ne hA.ta.r (by intro z; cases z); simpa using this
    · have := ne t1 (by intro z; cases z); simpa using this
end

theorem ThAt.put {C CT : Addr} {H : Hp} {x d st tp rx tx : Addr} {ns : List Str} {seen rs : List Int} {s : MS} (h : ThAt C CT H x d st tp rx tx ns seen rs s) {y : Str} (hy : y ∈ ns) : ∃ kvs : List (Key × V), H d = some (.dK kvs) ∧ kvs.length = ns.length ∧
    ∀ v : Int, ThAt C CT (upd H d (.dK (putK kvs (.inr y) (.int v)))) x d st tp rx tx ns seen rs (s.put y v) := by
  obtain ⟨kvs, e, l, g⟩ := h.t.put hy
  obtain ⟨dx, o⟩ := h.o
  obtain ⟨dt, ot⟩ := h.ta.o
  obtain ⟨ys, t1, t2⟩ := h.ta.t
  refine ⟨kvs, e, l, fun v => ?_⟩
  have ne : ∀ {a : Addr} {u : HO}, H a = some u → ¬ u = .dK kvs → a ≠ d := fun h1 h2 z => by rw [z, e] at h1; exact h2 (Option.some.inj h1).symm
  have ku : Keep [d] H (upd H d (.dK (putK kvs (.inr y) (.int v)))) := Keep.at_ (List.mem_singleton.mpr rfl)
  have tku : TK H (upd H d (.dK (putK kvs (.inr y) (.int v)))) := fun b xs q => by rw [upd_ne (ne q (by intro z; cases z))]; exact q
  refine ⟨⟨dx, ku _ _ o (by have := ne o (by intro z; cases z); simpa using this)⟩, g _ v upd_same, tku _ _ h.sn, h.ta.keep ku tku ?_ ?_ ?_, h.nx⟩
  · have := ne ot (by intro z; cases z); simpa using this
  · have := ne h.ta.r (by intro z; cases z); simpa using this
  · have := ne t1 (by intro z; cases z); simpa using this
theorem ThAt.take {C CT : Addr} {H H' : Hp} {x d st tp rx tx : Addr} {ns : List Str} {seen rs : List Int} {s : MS} (h : ThAt C CT H x d st tp rx tx ns seen rs s) (k : Keep [tx] H H') {tk : List (Int × Int)} (t : TapeAt CT H' tp rx tx rs tk) : ThAt C CT H' x d st tp rx tx ns seen rs { s with tk := tk } := by
  obtain ⟨dx, o⟩ := h.o
  obtain ⟨ys, t1, t2⟩ := h.ta.t
  obtain ⟨kvs, e, _⟩ := id h.t
  have ne : ∀ {a : Addr} {u : HO}, H a = some u → ¬ u = .lst ys → a ≠ tx := fun h1 h2 z => by rw [z, t1] at h1; exact h2 (Option.some.inj h1).symm
  refine ⟨⟨dx, k _ _ o (by have := ne o (by intro z; cases z); simpa using this)⟩, h.t.keep k (by have := ne e (by intro z; cases z); simpa using this), k _ _ h.sn (by have := ne h.sn (by intro z; cases z); simpa using this), t, h.nx⟩
theorem metUp {P : Program} {w : World} {K : PySem.W.Frag} {mg : Str → Option Value} {base : Heap} {j k : Nat} {C : Addr} {m : Str} {sp : Sp} {dvs : List V} (c : C8.Met P w K mg base j C m sp dvs) (h : j ≤ k) : C8.Met P w K mg base k C m sp dvs := by
  obtain ⟨f, fd, ps, ds, hc, hm, F, b, d⟩ := c.ex
  exact ⟨f, fd, ps, ds, hc, hm, F.mono h, b, d⟩
section
variable {P : Program} {w : World} {K : PySem.W.Frag} {mg : Str → Option Value} {base : Heap} {C_Tape : Addr} {C_Thinker : Addr} {C_Brain : Addr} {C_Mind : Addr} {C_Frame : Addr} {C_Thinking : Addr} {T_EVENTS : Addr} {T_SIGNS : Addr}
theorem ok_trun0 {f : Addr} {fd : FuncData} (me : Meth K C_Thinker "run" f) (b : Binds K fd ["self", "block"] []) (T : Txt K mg C_Tape C_Thinker C_Brain C_Mind C_Frame C_Thinking T_EVENTS T_SIGNS) {k : Nat} : C8.Met P w K mg base k C_Thinker "run" (sp_trun K C_Thinker C_Tape 0) [] :=
  ⟨f, fd, ["self", "block"], [], T.cl_Thinker, me, ⟨fun vs H Q E h => (by obtain ⟨x, d, st, tp, rx, tx, ns, seen, rs, s, q, b, rfl, _⟩ := h; rfl), fun A outer s H args us vs Q E _ _ _ _ h => (by
    obtain ⟨x, d, st, tp, rx, tx, ns, seen, rs, s, q, b, _, _, _, _, z, _⟩ := h
    exact absurd z (Nat.not_lt_zero _))⟩, b, .nil⟩
theorem ok_tloop {f : Addr} {fd : FuncData} (me : Meth K C_Thinker "loop" f) (F : C8.Fun K "loop" "Thinker.loop" s_Thinker_loop f fd) (b : Binds K fd ["self", "test", "block"] []) (T : Txt K mg C_Tape C_Thinker C_Brain C_Mind C_Frame C_Thinking T_EVENTS T_SIGNS) {n k : Nat} (c_Thinker_value : C8.Met P w K mg base k C_Thinker "value" (sp_tval K C_Thinker C_Tape) []) (c_Thinker_unit : C8.Met P w K mg base k C_Thinker "unit" (sp_tunit C_Thinker C_Tape) [])
    (c_Thinker_run : C8.Met P w K mg base k C_Thinker "run" (sp_trun K C_Thinker C_Tape n) []) : C8.Met P w K mg base (k + 1) C_Thinker "loop" (sp_tloop K C_Thinker C_Tape n) [] := by
  refine met0 T.cl_Thinker me F b sc_Thinker_loop (fun vs H Q E h => ?_) (fun cdv A outer s H vs Q E hr h => ?_)
  · obtain ⟨x, d, st, tp, rx, tx, ns, seen, rs, s, v, t, q, b, rfl, _⟩ := h
    rfl
  · obtain ⟨x, d, st, tp, rx, tx, ns, seen, rs, s0, v, t, q, b, rfl, hC, he, hok, hB, bok, bd, k⟩ := h
    refine ⟨_, (pss_cons (ps_while PassesOwn.never (pt_cmpR op_ne (pe_mt c_Thinker_value hr (by first | exact Nat.le_refl _ | decide | omega) (pv 0) (pa_cons (pv 1) pa_nil)) pe_int (nomark _))
  (pss_one (ps_if (PW.pt (pw_or (pt_not (pt_truth (pe_mt c_Thinker_run hr (by first | exact Nat.le_refl _ | decide | omega) (pv 0) (pa_cons (pv 2) pa_nil)) (by intro _; rfl))) (pw_or1 (pt_not (pt_truth (pe_mt0 c_Thinker_unit hr (by first | exact Nat.le_refl _ | decide | omega) (pv 0)) (by intro _; rfl))))))
    (pss_one (ps_ret pe_bl))
    pss_nil)))
(pss_one (ps_ret pe_bl))), ?_⟩
    have eR : runT seen rs (.whl t b) s0 = loopM (fun s => decide (s.ev seen t ≠ 0)) (fun s => runB seen rs b s) (s0.left.toNat + 1) s0 := by unfold runT; rfl
    rw [eR] at k
    refine ⟨fun m σ H' => σ = [some (.ref x), some v, some (.ref q)] ∧ ∃ (s : MS) (i : Nat), m = s.left.toNat ∧ s.left.toNat < i ∧ TC C_Thinker C_Tape H' x d st tp rx tx ns seen rs s ∧ Keep [x, d, tx] H H' ∧ loopM (fun s => decide (s.ev seen t ≠ 0)) (fun s => runB seen rs b s) i s = loopM (fun s => decide (s.ev seen t ≠ 0)) (fun s => runB seen rs b s) (s0.left.toNat + 1) s0,
      ⟨_, rfl, s0, _, rfl, Nat.lt_succ_self _, hC, Keep.refl _ _, rfl⟩, ?_⟩
    rintro m σ H1 ⟨rfl, s, i, rfl, hi, C1, K1, eL⟩
    obtain ⟨i, rfl⟩ : ∃ j, i = j + 1 := ⟨i - 1, by omega⟩
    have tk1 := hC.A.tk3 K1
    obtain ⟨dx, ho⟩ := C1.A.o
    refine ⟨_, rfl, x, dx, _, rfl, ho, rfl, _, rfl, x, d, st, tp, rx, tx, ns, seen, rs, s, v, t, rfl, C1.A, C1.ok, C1.sk, C1.sl, he.tk tk1, hok, fun H2 K2 => ?_⟩
    have C2 := C1.keep0 K2
    have K12 := K1.trans (K2.mono (by simp))
    have hB2 := (hB.tk tk1).tk K2.tk
    by_cases hz : s.ev seen t = 0
    · have e : loopM (fun s => decide (s.ev seen t ≠ 0)) (fun s => runB seen rs b s) (i + 1) s = (true, s) := by
        unfold loopM
        rw [if_pos (decide_eq_false (not_not_intro hz))]
      rw [← eL, e] at k
      exact ⟨rfl, _, rfl, iteNF (by rw [hz]) (k _ C2.A K12)⟩
    have e : loopM (fun s => decide (s.ev seen t ≠ 0)) (fun s => runB seen rs b s) (i + 1) s = if (runB seen rs b s).1 = false then (false, (runB seen rs b s).2) else if (runB seen rs b s).2.left = 0 then (false, (runB seen rs b s).2) else
        loopM (fun s => decide (s.ev seen t ≠ 0)) (fun s => runB seen rs b s) i { (runB seen rs b s).2 with left := (runB seen rs b s).2.left - 1 } := by
      conv => lhs; unfold loopM
      rw [if_neg (by simpa using hz)]
    refine ⟨rfl, _, rfl, iteNT (fun z => hz (V.int.inj z)) ⟨fun σ' H' => ∃ m', m' < s.left.toNat ∧ (σ' = [some (.ref x), some v, some (.ref q)] ∧ ∃ (s : MS) (i : Nat), m' = s.left.toNat ∧ s.left.toNat < i ∧ TC C_Thinker C_Tape H' x d st tp rx tx ns seen rs s ∧ Keep [x, d, tx] H H' ∧ loopM (fun s => decide (s.ev seen t ≠ 0)) (fun s => runB seen rs b s) i s = loopM (fun s => decide (s.ev seen t ≠ 0)) (fun s => runB seen rs b s) (s0.left.toNat + 1) s0), fun _ _ z => z, ?_⟩⟩
    have mv := runB_mv (rs := rs) C1.sk b bok s C1.ok
    obtain ⟨dx2, ho2⟩ := C2.A.o
    refine ⟨_, rfl, x, dx2, _, rfl, ho2, rfl, _, rfl, x, d, st, tp, rx, tx, ns, seen, rs, s, q, b, rfl, C2, hB2, bok, bd, fun H3 A3 K3 => ?_⟩
    have C3 := C2.mv A3 mv
    have K13 := K12.trans K3
    cases hb : (runB seen rs b s).1 with
    | false =>
      rw [hb, if_pos rfl] at e
      rw [← eL, e] at k
      exact ⟨_, rfl, iteT (k _ A3 K13)⟩
    | true =>
      rw [hb, if_neg (by decide)] at e
      refine ⟨_, rfl, iteF ?_⟩
      obtain ⟨dx3, ho3⟩ := C3.A.o
      refine ⟨_, rfl, x, dx3, _, rfl, ho3, rfl, x, d, st, tp, rx, tx, ns, seen, rs, _, rfl, A3, fun z => ?_, fun z H4 A4 K4 => ?_⟩
      · rw [if_pos z] at e
        rw [← eL, e] at k
        exact ⟨_, rfl, iteT (k _ A3 K13)⟩
      · rw [if_neg z] at e
        refine ⟨_, rfl, iteF ?_⟩
        have hok3 := C3.ok.dec z
        have hl3 := C3.ok.l
        have hml := mv.l
        have hl0 := C1.ok.l
        refine ⟨((runB seen rs b s).2.left - 1).toNat, by omega, rfl, _, i, rfl, ?_, ⟨A4, hok3, C3.sk, C3.sl, ?_, C3.nl⟩, K13.trans K4, ?_⟩
        · show ((runB seen rs b s).2.left - 1).toNat < i
          omega
        · have := C3.bd
          show ((runB seen rs b s).2.left - 1).toNat + (runB seen rs b s).2.tk.length ≤ 90000
          omega
        · rw [← e, eL]
theorem ok_tstep {f : Addr} {fd : FuncData} (me : Meth K C_Thinker "step" f) (F : C8.Fun K "step" "Thinker.step" s_Thinker_step f fd) (b : Binds K fd ["self", "statement"] []) (T : Txt K mg C_Tape C_Thinker C_Brain C_Mind C_Frame C_Thinking T_EVENTS T_SIGNS) {n k : Nat} (c_Thinker_value : C8.Met P w K mg base k C_Thinker "value" (sp_tval K C_Thinker C_Tape) []) (c_Thinker_loop : C8.Met P w K mg base k C_Thinker "loop" (sp_tloop K C_Thinker C_Tape n) [])
    (c_Thinker_run : C8.Met P w K mg base k C_Thinker "run" (sp_trun K C_Thinker C_Tape n) []) (c_Tape_take : C8.Met P w K mg base k C_Tape "take" (sp_take C_Tape) []) : C8.Met P w K mg base (k + 1) C_Thinker "step" (sp_tstep K C_Thinker C_Tape n) [] := by
  refine met0 T.cl_Thinker me F b sc_Thinker_step (fun vs H Q E h => ?_) (fun cdv A outer s H vs Q E hr h => ?_)
  · obtain ⟨x, d, st, tp, rx, tx, ns, seen, rs, s, v, t, rfl, _⟩ := h
    rfl
  · obtain ⟨x, d, st, tp, rx, tx, ns, seen, rs, s, v, t, rfl, hC, hT, hok, bd, k⟩ := h
    have hu := hu_of hr
    refine ⟨_, (pss_cons (ps_set (i := 2) sc_Thinker_step.nd rfl (by first | exact Or.inl rfl | exact Or.inr rfl) (pe_ix ix_tup (pv 1) pe_int (fun _ _ => rfl)))
(pss_cons (ps_if (pt_cmpR op_eq (pv 2) pe_str (nomark _))
  (pss_one (ps_ret (pe_mt c_Thinker_loop hr (by first | exact Nat.le_refl _ | decide | omega) (pv 0) (pa_cons (pe_ix ix_tup (pv 1) pe_int (fun _ _ => rfl)) (pa_cons (pe_ix ix_tup (pv 1) pe_int (fun _ _ => rfl)) pa_nil)))))
  pss_nil)
(pss_cons (ps_if (pt_cmpR op_eq (pv 2) pe_str (nomark _))
  (pss_cons (ps_if (pt_cmpR op_ne (pe_mt c_Thinker_value hr (by first | exact Nat.le_refl _ | decide | omega) (pv 0) (pa_cons (pe_ix ix_tup (pv 1) pe_int (fun _ _ => rfl)) pa_nil)) pe_int (nomark _))
    (pss_one (ps_ret (pe_mt c_Thinker_run hr (by first | exact Nat.le_refl _ | decide | omega) (pv 0) (pa_cons (pe_ix ix_tup (pv 1) pe_int (fun _ _ => rfl)) pa_nil))))
    pss_nil)
  (pss_one (ps_ret (pe_mt c_Thinker_run hr (by first | exact Nat.le_refl _ | decide | omega) (pv 0) (pa_cons (pe_ix ix_tup (pv 1) pe_int (fun _ _ => rfl)) pa_nil)))))
  pss_nil)
(pss_cons (ps_set (i := 3) sc_Thinker_step.nd rfl (by first | exact Or.inl rfl | exact Or.inr rfl) (pe_mt c_Thinker_value hr (by first | exact Nat.le_refl _ | decide | omega) (pv 0) (pa_cons (pe_ix ix_tup (pv 1) pe_int (fun _ _ => rfl)) pa_nil)))
(pss_cons (ps_if (PW.pt (pw_and (pt_cmpR op_eq (pv 2) pe_str (nomark _)) (pw_and1 (pt_cmpR op_gt (pv 3) pe_int (nomark _)))))
  (pss_one (ps_set (i := 3) sc_Thinker_step.nd rfl (by first | exact Or.inl rfl | exact Or.inr rfl) (pe_mt c_Tape_take hr (by first | exact Nat.le_refl _ | decide | omega) (pe_fld (pv 0) rfl) (pa_cons (pv 3) pa_nil))))
  pss_nil)
(pss_cons (ps_dput hu (pe_fld (pv 0) rfl) (pe_ix ix_tup (pv 1) pe_int (fun _ _ => rfl)) (pv 3) (by rfl))
(pss_one (ps_ret pe_bl)))))))), ?_⟩
    obtain ⟨dx, ho⟩ := hC.A.o
    cases t with
    | whl t b =>
      obtain ⟨p, u, q, xs, rfl, h1, h2, h3, h4⟩ := hT
      refine ⟨_, rfl, _, _, _, _, rfl, rfl, h1.sq, rfl, ?_⟩
      refine ⟨_, rfl, rfl, _, rfl, iteDT rfl ?_⟩
      exact ⟨_, rfl, x, dx, _, rfl, ho, rfl, _, rfl, _, _, _, _, rfl, rfl, h1.sq, rfl, _, rfl, _, _, _, _, rfl, rfl, h1.sq, rfl, x, d, st, tp, rx, tx, ns, seen, rs, s, u, t, q, b, rfl, hC, h2, hok.1, ⟨xs, h3, h4⟩, hok.2, by (have : b.dep + 1 ≤ n := bd); omega, k⟩
    | iff t a b =>
      obtain ⟨p, u, q, r, xs, ys, rfl, h1, h2, h3, h4, h5, h6⟩ := hT
      have bd' : max a.dep b.dep + 1 ≤ n := bd
      refine ⟨_, rfl, _, _, _, _, rfl, rfl, h1.sq, rfl, ?_⟩
      refine ⟨_, rfl, rfl, _, rfl, iteDF (nes (by decide +kernel)) ?_⟩
      refine ⟨_, rfl, rfl, _, rfl, iteDT rfl ?_⟩
      refine ⟨_, rfl, x, dx, _, rfl, ho, rfl, _, rfl, _, _, _, _, rfl, rfl, h1.sq, rfl, x, d, st, tp, rx, tx, ns, seen, rs, s, u, t, rfl, hC.A, hC.ok, hC.sk, hC.sl, h2, hok.1, fun H1 K1 => ?_⟩
      have C1 := hC.keep0 K1
      have h1' := h1.tk K1.tk
      obtain ⟨dx1, ho1⟩ := C1.A.o
      by_cases hz : s.ev seen t = 0
      · have e : runT seen rs (.iff t a b) s = runB seen rs b s := by unfold runT; rw [if_neg (not_not_intro hz)]
        rw [e] at k
        refine ⟨rfl, _, rfl, iteNF (by rw [hz]) ?_⟩
        exact ⟨_, rfl, x, dx1, _, rfl, ho1, rfl, _, rfl, _, _, _, _, rfl, rfl, h1'.sq, rfl, x, d, st, tp, rx, tx, ns, seen, rs, s, r, b, rfl, C1, ⟨ys, h5.tk K1.tk, TVs.tk K1.tk b h6⟩, hok.2.2, by omega, fun H2 A2 K2 => k _ A2 ((K1.mono (by simp)).trans K2)⟩
      · have e : runT seen rs (.iff t a b) s = runB seen rs a s := by unfold runT; rw [if_pos hz]
        rw [e] at k
        refine ⟨rfl, _, rfl, iteNT (fun z => hz (V.int.inj z)) ?_⟩
        exact ⟨_, rfl, x, dx1, _, rfl, ho1, rfl, _, rfl, _, _, _, _, rfl, rfl, h1'.sq, rfl, x, d, st, tp, rx, tx, ns, seen, rs, s, q, a, rfl, C1, ⟨xs, h3.tk K1.tk, TVs.tk K1.tk a h4⟩, hok.2.1, by omega, fun H2 A2 K2 => k _ A2 ((K1.mono (by simp)).trans K2)⟩
    | set y e =>
      obtain ⟨p, u, rfl, h1, h2⟩ := hT
      refine ⟨_, rfl, _, _, _, _, rfl, rfl, h1.sq, rfl, ?_⟩
      refine ⟨_, rfl, rfl, _, rfl, iteDF (nes (by decide +kernel)) ?_⟩
      refine ⟨_, rfl, rfl, _, rfl, iteDF (nes (by decide +kernel)) ?_⟩
      refine ⟨_, rfl, x, dx, _, rfl, ho, rfl, _, rfl, _, _, _, _, rfl, rfl, h1.sq, rfl, x, d, st, tp, rx, tx, ns, seen, rs, s, u, e, rfl, hC.A, hC.ok, hC.sk, hC.sl, h2, hok.2, fun H1 K1 => ?_⟩
      have C1 := hC.keep0 K1
      have h1' := h1.tk K1.tk
      obtain ⟨dx1, ho1⟩ := C1.A.o
      refine ⟨_, rfl, rfl, _, rfl, iteDF (nes (by decide +kernel)) ?_⟩
      obtain ⟨kvs, e1, e2, e3⟩ := C1.A.put hok.1
      refine ⟨_, rfl, _, rfl, x, C_Thinker, dx1, _, _, rfl, ho1, T.cl_Thinker, T.a_Thinker_table, rfl, _, rfl, _, _, _, _, rfl, rfl, h1'.sq, rfl, d, _, rfl, DPut.k (k := .inr y) e1 (smallL (by rw [e2]; have := hC.nl; omega)), ?_⟩
      exact k _ (e3 _) ((K1.mono (by simp)).trans (Keep.at_ (by simp)))
    | lot y e =>
      obtain ⟨p, u, rfl, h1, h2⟩ := hT
      refine ⟨_, rfl, _, _, _, _, rfl, rfl, h1.sq, rfl, ?_⟩
      refine ⟨_, rfl, rfl, _, rfl, iteDF (nes (by decide +kernel)) ?_⟩
      refine ⟨_, rfl, rfl, _, rfl, iteDF (nes (by decide +kernel)) ?_⟩
      refine ⟨_, rfl, x, dx, _, rfl, ho, rfl, _, rfl, _, _, _, _, rfl, rfl, h1.sq, rfl, x, d, st, tp, rx, tx, ns, seen, rs, s, u, e, rfl, hC.A, hC.ok, hC.sk, hC.sl, h2, hok.2, fun H1 K1 => ?_⟩
      have C1 := hC.keep0 K1
      have h1' := h1.tk K1.tk
      obtain ⟨dx1, ho1⟩ := C1.A.o
      have hv := hC.ok.ev hC.sk hok.2
      have eR : runT seen rs (.lot y e) s = (true, lotS seen rs s y e) := by unfold runT; rfl
      rw [eR] at k
      refine ⟨_, rfl, rfl, _, rfl, iteDT rfl ⟨_, rfl, _, _, rfl, rfl, _, rfl, iteD (fun hp => ?_) (fun hp => ?_)⟩⟩
      · obtain ⟨dt, ot⟩ := C1.A.ta.o
        have hl : s.tk.length ≤ 100000 := by have := hC.bd; omega
        refine ⟨_, rfl, x, C_Thinker, dx1, _, _, rfl, ho1, T.cl_Thinker, T.a_Thinker_tape, rfl, tp, dt, _, rfl, ot, rfl, _, rfl, tp, rx, tx, rs, s.tk, s.ev seen e, rfl, hp, by omega, hl, C1.A.ta, fun H2 K2 TA2 => ?_⟩
        have A2 := C1.A.take K2 TA2
        have tk2 : TK H1 H2 := C1.A.tk3 (K2.mono (by simp))
        obtain ⟨kvs, e1, e2, e3⟩ := A2.put hok.1
        obtain ⟨dx2, ho2⟩ := A2.o
        have eL : lotS seen rs s y e = MS.put { s with tk := s.tk ++ [(nextR rs s.tk (s.ev seen e), s.ev seen e)] } y (nextR rs s.tk (s.ev seen e)) := by unfold lotS; rw [if_pos hp]
        rw [eL] at k
        refine ⟨_, rfl, _, rfl, x, C_Thinker, dx2, _, _, rfl, ho2, T.cl_Thinker, T.a_Thinker_table, rfl, _, rfl, _, _, _, _, rfl, rfl, (h1'.tk tk2).sq, rfl, d, _, rfl, DPut.k (k := .inr y) e1 (smallL (by rw [e2]; have := hC.nl; omega)), ?_⟩
        exact k _ (e3 _) (((K1.mono (by simp)).trans (K2.mono (by simp))).trans (Keep.at_ (by simp)))
      · have eL : lotS seen rs s y e = s.put y (s.ev seen e) := by unfold lotS; rw [if_neg hp]
        rw [eL] at k
        obtain ⟨kvs, e1, e2, e3⟩ := C1.A.put hok.1
        refine ⟨_, rfl, _, rfl, x, C_Thinker, dx1, _, _, rfl, ho1, T.cl_Thinker, T.a_Thinker_table, rfl, _, rfl, _, _, _, _, rfl, rfl, h1'.sq, rfl, d, _, rfl, DPut.k (k := .inr y) e1 (smallL (by rw [e2]; have := hC.nl; omega)), ?_⟩
        exact k _ (e3 _) ((K1.mono (by simp)).trans (Keep.at_ (by simp)))
theorem ok_trun {f : Addr} {fd : FuncData} (me : Meth K C_Thinker "run" f) (F : C8.Fun K "run" "Thinker.run" s_Thinker_run f fd) (b : Binds K fd ["self", "block"] []) (T : Txt K mg C_Tape C_Thinker C_Brain C_Mind C_Frame C_Thinking T_EVENTS T_SIGNS) {n k : Nat} (c_Thinker_unit : C8.Met P w K mg base k C_Thinker "unit" (sp_tunit C_Thinker C_Tape) [])
    (c_Thinker_step : C8.Met P w K mg base k C_Thinker "step" (sp_tstep K C_Thinker C_Tape n) []) : C8.Met P w K mg base (k + 1) C_Thinker "run" (sp_trun K C_Thinker C_Tape (n + 1)) [] := by
  refine met0 T.cl_Thinker me F b sc_Thinker_run (fun vs H Q E h => ?_) (fun cdv A outer s H vs Q E hr h => ?_)
  · obtain ⟨x, d, st, tp, rx, tx, ns, seen, rs, s, q, b, rfl, _⟩ := h
    rfl
  · obtain ⟨x, d, st, tp, rx, tx, ns, seen, rs, s0, q, b0, rfl, hC, ⟨xs, hq, hT⟩, hok, bd, k⟩ := h
    refine ⟨_, (pss_cons (ps_for PassesOwn.never rfl (pi_tup (pv 1)) (pg_name (i := 2) sc_Thinker_run.nd rfl (by first | exact Or.inl rfl | exact Or.inr rfl))
  (pss_one (ps_if (PW.pt (pw_or (pt_not (pt_truth (pe_mt0 c_Thinker_unit hr (by first | exact Nat.le_refl _ | decide | omega) (pv 0)) (by intro _; rfl))) (pw_or1 (pt_not (pt_truth (pe_mt c_Thinker_step hr (by first | exact Nat.le_refl _ | decide | omega) (pv 0) (pa_cons (pv 2) pa_nil)) (by intro _; rfl))))))
    (pss_one (ps_ret pe_bl))
    pss_nil)))
(pss_one (ps_ret pe_bl))), ?_⟩
    have tkOf : ∀ {H' : Hp}, Keep [x, d, tx] H H' → TK H H' := fun K' => hC.A.tk3 K'
    refine ⟨_, rfl, q, rfl, ⟨_, hq.sq⟩, for_tup (K := K) (a := q) (xs := xs) (fun i σ H' => ∃ (s : MS) (b : Bl) (o : Option V), σ = [some (.ref x), some (.ref q), o] ∧ TC C_Thinker C_Tape H' x d st tp rx tx ns seen rs s ∧ TVs K H b (xs.drop i) ∧ b.Ok ns ∧ b.dep ≤ n ∧ runB seen rs b s = runB seen rs b0 s0 ∧ Keep [x, d, tx] H H')
      ⟨s0, b0, none, rfl, hC, hT, hok, by omega, rfl, Keep.refl _ _⟩ (fun i σ H' _ ⟨_, _, _, _, _, _, _, _, _, K'⟩ => (hq.tk (tkOf K')).sq) ?_ ?_⟩
    · rintro i v σ H1 hv ⟨s, b, o, rfl, C1, hT1, ok1, d1, e1, K1⟩
      obtain ⟨hlt, hget⟩ := List.getElem?_eq_some_iff.mp hv
      rw [List.drop_eq_getElem_cons hlt, hget] at hT1
      cases b with
      | nil => cases hT1
      | cons t b =>
        obtain ⟨v', r', e2, hT2, hT3⟩ := hT1
        cases e2
        obtain ⟨dx, ho⟩ := C1.A.o
        have dt : t.dep ≤ n ∧ b.dep ≤ n := by (have : max t.dep b.dep ≤ n := d1); omega
        have eB : runB seen rs (.cons t b) s = if s.left = 0 then (false, s) else if (runT seen rs t { s with left := s.left - 1 }).1 = false then runT seen rs t { s with left := s.left - 1 } else runB seen rs b (runT seen rs t { s with left := s.left - 1 }).2 := by
          conv => lhs; unfold runB
        refine ⟨_, rfl, x, dx, _, rfl, ho, rfl, x, d, st, tp, rx, tx, ns, seen, rs, s, rfl, C1.A, fun z => ?_, fun z H2 A2 K2 => ?_⟩
        · rw [if_pos z] at eB
          rw [← e1, eB] at k
          exact ⟨_, rfl, iteT (k _ C1.A K1)⟩
        · rw [if_neg z] at eB
          refine ⟨_, rfl, iteF ?_⟩
          have K12 := K1.trans K2
          have okd := C1.ok.dec z
          have C2 : TC C_Thinker C_Tape H2 x d st tp rx tx ns seen rs { s with left := s.left - 1 } := ⟨A2, okd, C1.sk, C1.sl, by (have := C1.bd; show (s.left - 1).toNat + s.tk.length ≤ 90000; omega), C1.nl⟩
          obtain ⟨dx2, ho2⟩ := A2.o
          refine ⟨_, rfl, x, dx2, _, rfl, ho2, rfl, _, rfl, x, d, st, tp, rx, tx, ns, seen, rs, _, v, t, rfl, C2, TV.tk (tkOf K12) t hT2, ok1.1, dt.1, fun H3 A3 K3 => ?_⟩
          have K13 := K12.trans K3
          cases hb : (runT seen rs t { s with left := s.left - 1 }).1 with
          | false =>
            rw [if_pos hb] at eB
            rw [← e1, eB, hb] at k
            exact ⟨_, rfl, iteT (k _ A3 K13)⟩
          | true =>
            rw [if_neg (by rw [hb]; decide)] at eB
            refine ⟨_, rfl, iteF ?_⟩
            have mv := runT_mv (rs := rs) C1.sk t ok1.1 _ okd
            refine ⟨_, b, _, rfl, ⟨A3, mv.ok, C1.sk, C1.sl, ?_, C1.nl⟩, hT3, ok1.2, dt.2, by rw [← e1, eB], K13⟩
            have h1 := mv.k
            have h2 := C1.bd
            have h3 := C1.ok.l
            change _ ≤ (s.left - 1).toNat + s.tk.length + 1 at h1
            omega
    · rintro σ H1 ⟨s, b, o, rfl, C1, hT1, ok1, d1, e1, K1⟩
      rw [List.drop_length] at hT1
      cases b with
      | cons t b => obtain ⟨_, _, e2, _⟩ := hT1; cases e2
      | nil =>
        have eB : runB seen rs .nil s = (true, s) := by unfold runB; rfl
        rw [← e1, eB] at k
        exact k _ C1.A K1
theorem trun_all {fr fs fl : Addr} {dr ds dl : FuncData} (mr : Meth K C_Thinker "run" fr) (Fr : C8.Fun K "run" "Thinker.run" s_Thinker_run fr dr) (br : Binds K dr ["self", "block"] []) (ms : Meth K C_Thinker "step" fs) (Fs : C8.Fun K "step" "Thinker.step" s_Thinker_step fs ds) (bs : Binds K ds ["self", "statement"] [])
    (ml : Meth K C_Thinker "loop" fl) (Fl : C8.Fun K "loop" "Thinker.loop" s_Thinker_loop fl dl) (bl : Binds K dl ["self", "test", "block"] []) (T : Txt K mg C_Tape C_Thinker C_Brain C_Mind C_Frame C_Thinking T_EVENTS T_SIGNS) (c1 : C8.Met P w K mg base 14 C_Thinker "value" (sp_tval K C_Thinker C_Tape) []) (c2 : C8.Met P w K mg base 1 C_Thinker "unit" (sp_tunit C_Thinker C_Tape) []) (c3 : C8.Met P w K mg base 1 C_Tape "take" (sp_take C_Tape) []) :
    ∀ n, C8.Met P w K mg base (3 * n + 14) C_Thinker "run" (sp_trun K C_Thinker C_Tape n) []
  | 0 => ok_trun0 mr br T
  | n + 1 => by
    have c := trun_all mr Fr br ms Fs bs ml Fl bl T c1 c2 c3 n
    have cl := ok_tloop ml Fl bl T (metUp c1 (by omega)) (metUp c2 (by omega)) c
    have cs := ok_tstep ms Fs bs T (metUp c1 (by omega)) cl (metUp c (by omega)) (metUp c3 (by omega))
    exact ok_trun mr Fr br T (metUp c2 (by omega)) cs
end

/-! views -/
structure Ev where
  w : Str
  a : Int
  b : Option Int
def evL : List Str := ["round", "told", "move", "did"]
def evI (w : Str) : Nat := if w = "round" then 0 else if w = "told" then 1 else if w = "move" then 2 else 3
theorem evI_at : ∀ w ∈ evL, evL[evI w]? = some w ∧ (∀ m, m < evI w → evL[m]? ≠ some w) ∧ evI w < 4 := by decide +kernel
def evD (e : Ev) : List V := match e.b with
  | none => [.str e.w, .int e.a]
  | some b => [.str e.w, .int e.a, .int b]
structure EvOk (e : Ev) : Prop where
  w : e.w ∈ evL
  a0 : 0 ≤ e.a
  a1 : e.a < 65536
  b : ∀ b, e.b = some b → 0 ≤ b ∧ b < 65536
  m : e.w = "move" → ∃ b, e.b = some b
inductive Evs (H : Hp) : List V → List Ev → Prop
  | nil : Evs H [] []
  | cons {p : Addr} {e : Ev} {vs : List V} {es : List Ev} : H p = some (.tup (evD e)) → Evs H vs es → Evs H (.ref p :: vs) (e :: es)
theorem Evs.tk {H H' : Hp} (k : TK H H') {vs : List V} {l : List Ev} (h : Evs H vs l) : Evs H' vs l := by
  induction h with
  | nil => exact .nil
  | cons h _ ih => exact .cons (k _ _ h) ih
theorem Evs.app {H : Hp} {vs us : List V} {l m : List Ev} (h : Evs H vs l) (g : Evs H us m) : Evs H (vs ++ us) (l ++ m) := by
  induction h with
  | nil => exact g
  | cons h _ ih => exact .cons h ih
theorem Evs.len {H : Hp} {vs : List V} {l : List Ev} (h : Evs H vs l) : vs.length = l.length := by
  induction h with
  | nil => rfl
  | cons _ _ ih => rw [List.length_cons, List.length_cons, ih]
theorem Evs.get {H : Hp} {vs : List V} {l : List Ev} (h : Evs H vs l) : ∀ {i : Nat} {v : V}, vs[i]? = some v → ∃ p e, v = .ref p ∧ l[i]? = some e ∧ H p = some (.tup (evD e)) := by
  induction h with
  | nil => intro i v h; simp at h
  | cons h _ ih =>
    intro i v hv
    cases i with
    | zero => simp at hv; subst hv; exact ⟨_, _, rfl, rfl, h⟩
    | succ i => simpa using ih (by simpa using hv)
def EvsOk (es : List Ev) : Prop := ∀ e ∈ es, EvOk e
def num3 (e : Ev) : List Int := [(evI e.w : Int) + 1, e.a, e.b.getD 0]
def nums (es : List Ev) : List Int := (es.map num3).flatten
theorem nums_snoc (es : List Ev) (e : Ev) : nums (es ++ [e]) = nums es ++ num3 e := by simp [nums]
theorem nums_len : ∀ es : List Ev, (nums es).length = 3 * es.length
  | [] => rfl
  | e :: es => by
    show (num3 e ++ nums es).length = _
    rw [List.length_append, nums_len es, List.length_cons]
    show 3 + _ = _
    omega
theorem nums_ok {es : List Ev} (h : EvsOk es) : SeenOk (nums es) := by
  intro x hx
  obtain ⟨l, h1, h2⟩ := List.mem_flatten.mp hx
  obtain ⟨e, he, rfl⟩ := List.mem_map.mp h1
  have k := h e he
  have h3 := (evI_at _ k.w).2.2
  simp only [num3, List.mem_cons, List.not_mem_nil, or_false] at h2
  rcases h2 with rfl | rfl | rfl
  · omega
  · exact ⟨k.a0, k.a1⟩
  · cases q : e.b with
    | none => exact ⟨Int.le_refl _, by decide⟩
    | some b => exact k.b b q
def sp_views : Sp := fun vs H Q _ => ∃ q xs es, vs = [.ref q] ∧ H q = some (.tup xs) ∧ Evs H xs es ∧ EvsOk es ∧ es.length ≤ 10000 ∧ ∀ t H', H t = none → H' t = some (.tup ((nums es).map V.int)) → Keep [] H H' → Q (.ref t) H'
section
variable {P : Program} {w : World} {K : PySem.W.Frag} {mg : Str → Option Value} {base : Heap} {C_Tape : Addr} {C_Thinker : Addr} {C_Brain : Addr} {C_Mind : Addr} {C_Frame : Addr} {C_Thinking : Addr} {T_EVENTS : Addr} {T_SIGNS : Addr}
theorem ok_views {f : Addr} {fd : FuncData} (D : C8.Def K mg "view_numbers" s_view_numbers f fd) (b : Binds K fd ["view"] []) (T : Txt K mg C_Tape C_Thinker C_Brain C_Mind C_Frame C_Thinking T_EVENTS T_SIGNS) : C8.Cal P w K mg base 1 "view_numbers" sp_views [] := by
  refine cal0 D b .nil sc_view_numbers (fun vs H Q E h => ?_) (fun cdv A outer s H vs Q E hr h => ?_)
  · obtain ⟨q, xs, es, rfl, _⟩ := h
    rfl
  · obtain ⟨q, xs, es, rfl, hq, hE, hok, hlen, k⟩ := h
    refine ⟨_, (pss_cons (ps_set (i := 1) sc_view_numbers.nd rfl (by first | exact Or.inl rfl | exact Or.inr rfl) (pe_lst pa_nil))
(pss_cons (ps_for PassesOwn.never rfl (pi_tup (pv 0)) (pg_name (i := 2) sc_view_numbers.nd rfl (by first | exact Or.inl rfl | exact Or.inr rfl))
  (pss_cons (ps_expr (pe_bm PySem.F.plainAttrs_list PySem.F.slot_list_append PySem.F.type_list_append mt_append (pv 1) (pa_cons (pe_op op_add (pe_bm PySem.F.plainAttrs_tuple PySem.F.slot_tuple_index PySem.F.type_tuple_index mt_tup_index (pe_gc rfl T.v_EVENTS) (pa_cons (pe_ix ix_tup (pv 2) pe_int (fun _ _ => rfl)) pa_nil)) pe_int) pa_nil)))
  (pss_cons (ps_expr (pe_bm PySem.F.plainAttrs_list PySem.F.slot_list_append PySem.F.type_list_append mt_append (pv 1) (pa_cons (pe_ix ix_tup (pv 2) pe_int (fun _ _ => rfl)) pa_nil)))
  (pss_one (ps_expr (pe_bm PySem.F.plainAttrs_list PySem.F.slot_list_append PySem.F.type_list_append mt_append (pv 1) (pa_cons (pe_ifExp (pt_cmpR op_gt (pe_callB call_len_seq (by rfl) T.n_len bo_len (pa_cons (pv 2) pa_nil)) pe_int (nomark _)) (pe_ix ix_tup (pv 2) pe_int (fun _ _ => rfl)) pe_int) pa_nil)))))))
(pss_one (ps_ret (pe_callTy call_tuple_of (by rfl) T.n_tuple bo_tuple (pa_cons (pv 1) pa_nil)))))), ?_⟩
    refine ⟨Nat.zero_le _, fun l nl => ?_⟩
    have hl := hE.len
    refine ⟨_, rfl, q, rfl, ⟨_, SqT.of (Keep.new (W := []) nl _ _ hq (by simp))⟩, for_tup (K := K) (a := q) (xs := xs) (fun i σ H' => ∃ o : Option V, σ = [some (.ref q), some (.ref l), o] ∧ H' l = some (.lst ((nums (es.take i)).map V.int)) ∧ Keep [] H H')
      ⟨none, rfl, upd_same, Keep.new nl⟩ (fun i σ H' _ ⟨_, _, _, K'⟩ => SqT.of (K' _ _ hq (by simp))) ?_ ?_⟩
    · rintro i v σ H1 hv ⟨o, rfl, h1, K1⟩
      obtain ⟨p, e, rfl, hg, he⟩ := hE.get hv
      obtain ⟨hlt, hget⟩ := List.getElem?_eq_some_iff.mp hg
      have hee := hok e (hget ▸ List.getElem_mem hlt)
      have hi := evI_at _ hee.w
      have ll := nums_len (es.take i)
      rw [List.length_take] at ll
      have he1 := K1 _ _ he (by simp)
      have npl : p ≠ l := ne_of_none he nl
      obtain ⟨w0, a0, b0⟩ := e
      have hs0 : (evD ⟨w0, a0, b0⟩)[0]? = some (.str w0) := by cases b0 <;> rfl
      have hs1 : (evD ⟨w0, a0, b0⟩)[1]? = some (.int a0) := by cases b0 <;> rfl
      refine ⟨_, rfl, .inl ⟨rfl, _, SqL.of h1⟩, .inr (.inl ⟨rfl, T.d_EVENTS⟩), _, rfl, _, _, _, _, rfl, rfl, SqT.of he1, atI_nat (j := 0) hs0, _, evL, _, _, rfl, rfl, T.q_EVENTS _, hi.1, hi.2.1, _, _, rfl, rfl, ?_⟩
      refine ⟨_, _, _, rfl, rfl, h1, by rw [List.length_map]; exact smallL (by omega), ?_⟩
      have he2 : upd H1 l (.lst ((nums (es.take i)).map V.int ++ [.int ((evI w0 : Int) + 1)])) p = some (.tup (evD ⟨w0, a0, b0⟩)) := by rw [upd_ne npl]; exact he1
      refine ⟨_, rfl, .inl ⟨rfl, _, SqL.of upd_same⟩, _, rfl, _, _, _, _, rfl, rfl, SqT.of he2, atI_nat (j := 1) hs1, ?_⟩
      refine ⟨_, _, _, rfl, rfl, upd_same, by rw [List.length_append, List.length_map]; exact smallL (by simp; omega), ?_⟩
      have he3 : upd (upd H1 l (.lst ((nums (es.take i)).map V.int ++ [.int ((evI w0 : Int) + 1)]))) l (.lst ((nums (es.take i)).map V.int ++ [.int ((evI w0 : Int) + 1)] ++ [.int a0])) p = some (.tup (evD ⟨w0, a0, b0⟩)) := by rw [upd_ne npl]; exact he2
      refine ⟨_, rfl, .inl ⟨rfl, _, SqL.of upd_same⟩, _, rfl, _, _, rfl, .inr (SqT.of he3), _, _, rfl, rfl, ?_⟩
      have fin : ∀ z : Int, z = b0.getD 0 → ∀ {H9 : Hp}, H9 l = some (.lst (((nums (es.take i)).map V.int ++ [.int ((evI w0 : Int) + 1)] ++ [.int a0]) ++ [.int z])) → H9 l = some (.lst ((nums (es.take (i + 1))).map V.int)) := by
        intro z hz H9 h9
        rw [h9, List.take_succ_eq_append_getElem hlt, hget, nums_snoc, List.map_append, hz]
        simp [num3]
      have kf : ∀ z : Int, Keep [] H (upd (upd (upd H1 l (.lst ((nums (es.take i)).map V.int ++ [.int ((evI w0 : Int) + 1)]))) l (.lst ((nums (es.take i)).map V.int ++ [.int ((evI w0 : Int) + 1)] ++ [.int a0]))) l (.lst (((nums (es.take i)).map V.int ++ [.int ((evI w0 : Int) + 1)] ++ [.int a0]) ++ [.int z]))) := fun z => ((K1.then_own nl).then_own nl).then_own nl
      have sz : ((nums (es.take i)).map V.int ++ [V.int ((evI w0 : Int) + 1)] ++ [V.int a0]).length < sizeLine := by
        rw [List.length_append, List.length_append, List.length_map]; exact smallL (by simp; omega)
      cases b0 with
      | none =>
        refine ⟨_, rfl, iteDF (by show ¬ ((2 : Nat) : Int) > 2; omega) ?_⟩
        exact ⟨_, _, _, rfl, rfl, upd_same, sz, _, rfl, fin 0 rfl upd_same, kf 0⟩
      | some b =>
        refine ⟨_, rfl, iteDT (by show ((3 : Nat) : Int) > 2; omega) ?_⟩
        exact ⟨_, rfl, _, _, _, _, rfl, rfl, SqT.of he3, rfl, _, _, _, rfl, rfl, upd_same, sz, _, rfl, fin b rfl upd_same, kf b⟩
    · rintro σ H1 ⟨o, rfl, h1, K1⟩
      rw [hl, List.take_length] at h1
      exact ⟨_, rfl, _, _, rfl, .inl ⟨SqL.of h1, fun t nt => k t _ (K1.free nt) upd_same (K1.then_new nt)⟩⟩
end

/-! views that are drawn -/
def VL (H : Hp) (l : Addr) (es : List Ev) : Prop := ∃ vs, H l = some (.lst vs) ∧ Evs H vs es
theorem VL.keep {H H' : Hp} {l : Addr} {es : List Ev} {W : List Addr} (h : VL H l es) (k : Keep W H H') (t : TK H H') (w : l ∉ W) : VL H' l es := by
  obtain ⟨vs, h1, h2⟩ := h
  exact ⟨vs, k _ _ h1 w, h2.tk t⟩
theorem VL.push {H : Hp} {l t : Addr} {es : List Ev} (h : VL H l es) (e : Ev) (nt : H t = none) : ∃ vs, upd H t (.tup (evD e)) l = some (.lst vs) ∧ vs.length = es.length ∧ VL (upd (upd H t (.tup (evD e))) l (.lst (vs ++ [.ref t]))) l (es ++ [e]) := by
  obtain ⟨vs, h1, h2⟩ := h
  have k1 : Keep [] H (upd H t (.tup (evD e))) := Keep.new nt
  have h1' := k1 _ _ h1 (by simp)
  have ne : t ≠ l := (ne_of_none h1 nt).symm
  refine ⟨vs, h1', h2.len, _, upd_same, (h2.tk (k1.tk.trans (TK.lst h1'))).app (.cons (by rw [upd_ne ne]; exact upd_same) .nil)⟩
theorem VL.cat {H : Hp} {l u r : Addr} {es fs : List Ev} {vs us : List V} (h1 : Evs H vs es) (h2 : Evs H us fs) (nr : H r = none) : VL (upd H r (.lst (vs ++ us))) r (es ++ fs) := ⟨_, upd_same, (h1.app h2).tk (TK.new nr)⟩
theorem EvsOk.app {es fs : List Ev} (h : EvsOk es) (g : EvsOk fs) : EvsOk (es ++ fs) := fun e he => (List.mem_append.mp he).elim (h e) (g e)
theorem evok (w : Str) (a : Int) (b : Option Int) (hw : w ∈ evL) (a0 : 0 ≤ a) (a1 : a < 65536) (hb : ∀ c, b = some c → 0 ≤ c ∧ c < 65536) (hm : w = "move" → ∃ c, b = some c) : EvsOk [⟨w, a, b⟩] := fun e he => by
  rw [List.mem_singleton] at he
  subst he
  exact ⟨hw, a0, a1, hb, hm⟩
theorem evok2 {w : Str} {a : Int} (hw : w ∈ evL) (nm : w ≠ "move") (a0 : 0 ≤ a) (a1 : a < 65536) : EvsOk [⟨w, a, none⟩] := evok w a none hw a0 a1 (fun _ h => by cases h) (fun h => absurd h nm)
theorem evok3 {w : Str} {a b : Int} (hw : w ∈ evL) (a0 : 0 ≤ a) (a1 : a < 65536) (b0 : 0 ≤ b) (b1 : b < 65536) : EvsOk [⟨w, a, some b⟩] := evok w a (some b) hw a0 a1 (fun _ h => by cases h; exact ⟨b0, b1⟩) (fun _ => ⟨b, rfl⟩)
/-! a brain's cells -/
inductive RL (H : Hp) : List V → List Str → List Int → Prop
  | nil : RL H [] [] []
  | cons {p : Addr} {n : Str} {c : Int} {vs : List V} {ns : List Str} {cs : List Int} : H p = some (.tup [.str n, .int c]) → RL H vs ns cs → RL H (.ref p :: vs) (n :: ns) (c :: cs)
theorem RL.tk {H H' : Hp} (k : TK H H') {vs : List V} {ns : List Str} {cs : List Int} (h : RL H vs ns cs) : RL H' vs ns cs := by
  induction h with
  | nil => exact .nil
  | cons h _ ih => exact .cons (k _ _ h) ih
theorem RL.snoc {H : Hp} {vs : List V} {ns : List Str} {cs : List Int} {p : Addr} {n : Str} {c : Int} (h : RL H vs ns cs) (hp : H p = some (.tup [.str n, .int c])) : RL H (vs ++ [.ref p]) (ns ++ [n]) (cs ++ [c]) := by
  induction h with
  | nil => exact .cons hp .nil
  | cons h _ ih => exact .cons h ih
theorem RL.len {H : Hp} {vs : List V} {ns : List Str} {cs : List Int} (h : RL H vs ns cs) : vs.length = ns.length ∧ cs.length = ns.length := by
  induction h with
  | nil => exact ⟨rfl, rfl⟩
  | cons _ _ ih => exact ⟨by rw [List.length_cons, List.length_cons, ih.1], by rw [List.length_cons, List.length_cons, ih.2]⟩
theorem RL.get {H : Hp} {vs : List V} {ns : List Str} {cs : List Int} (h : RL H vs ns cs) : ∀ {i : Nat} {v : V}, vs[i]? = some v → ∃ p n c, v = .ref p ∧ ns[i]? = some n ∧ cs[i]? = some c ∧ H p = some (.tup [.str n, .int c]) := by
  induction h with
  | nil => intro i v h; simp at h
  | cons h _ ih =>
    intro i v hv
    cases i with
    | zero => simp at hv; subst hv; exact ⟨_, _, _, rfl, rfl, rfl, h⟩
    | succ i => simpa using ih (by simpa using hv)
structure Bd (K : PySem.W.Frag) (H : Hp) (ce bk : Addr) (an : V) (ns : List Str) (cs : List Int) (b : Bl) (e : Ex) : Prop where
  ce : ∃ xs, H ce = some (.tup xs) ∧ RL H xs ns cs
  bk : BV K H b bk
  an : EV K H an e
theorem Bd.tk {K : PySem.W.Frag} {H H' : Hp} {ce bk : Addr} {an : V} {ns : List Str} {cs : List Int} {b : Bl} {e : Ex} (h : Bd K H ce bk an ns cs b e) (k : TK H H') : Bd K H' ce bk an ns cs b e := by
  obtain ⟨xs, h1, h2⟩ := h.ce
  exact ⟨⟨xs, k _ _ h1, h2.tk k⟩, h.bk.tk k, h.an.tk k⟩
structure BdOk (ns : List Str) (b : Bl) (e : Ex) : Prop where
  nd : ns.Nodup
  nl : ns.length ≤ 8
  bo : b.Ok ns
  d : b.dep ≤ 8
  e : ExOk ns e
  sm : b.Sm
  ln : b.len ≤ 5
section
variable {P : Program} {w : World} {K : PySem.W.Frag} {mg : Str → Option Value} {base : Heap} {C_Tape : Addr} {C_Thinker : Addr} {C_Brain : Addr} {C_Mind : Addr} {C_Frame : Addr} {C_Thinking : Addr} {T_EVENTS : Addr} {T_SIGNS : Addr}
end

/-! dicts that are filled name by name -/
def Fill (H : Hp) (d : Addr) (ys : List Str) (i : Nat) (f : Str → V) : Prop := ∃ kvs : List (Key × V), H d = some (.dK kvs) ∧ kvs.length = i ∧ ∀ x, valV kvs (.inr x) = if x ∈ ys.take i then some (f x) else none
theorem fill0 {H : Hp} {d : Addr} {ys : List Str} {f : Str → V} (h : H d = some (.dK [])) : Fill H d ys 0 f := ⟨[], h, rfl, fun x => by simp [valV_nil]⟩
theorem Fill.keep {H H' : Hp} {W : List Addr} {d : Addr} {ys : List Str} {i : Nat} {f : Str → V} (h : Fill H d ys i f) (k : Keep W H H') (w : d ∉ W) : Fill H' d ys i f := by
  obtain ⟨kvs, e, l, v⟩ := h
  exact ⟨kvs, k _ _ e w, l, v⟩
theorem nodup_take {ys : List Str} (h : ys.Nodup) {i : Nat} {z : Str} (e : ys.take (i + 1) = ys.take i ++ [z]) : z ∉ ys.take i := by
  have h2 : (ys.take (i + 1)).Nodup := h.sublist (List.take_sublist _ _)
  rw [e, List.nodup_append] at h2
  exact fun q => h2.2.2 z q z (by simp) rfl
theorem Fill.step {H : Hp} {d : Addr} {ys : List Str} {i : Nat} {f : Str → V} (h : Fill H d ys i f) (nd : ys.Nodup) {z : Str} (e : ys.take (i + 1) = ys.take i ++ [z]) : ∃ kvs : List (Key × V), H d = some (.dK kvs) ∧ kvs.length = i ∧
    ∀ (H' : Hp), H' d = some (.dK (putK kvs (.inr z) (f z))) → Fill H' d ys (i + 1) f := by
  obtain ⟨kvs, hd, hl, hv⟩ := h
  have hnt := nodup_take nd e
  refine ⟨kvs, hd, hl, fun H' h' => ⟨_, h', ?_, fun x => ?_⟩⟩
  · rw [putK_new _ (by rw [hv z, if_neg hnt]), List.length_append, hl]; rfl
  · rw [valV_put]
    by_cases q : x = z
    · subst q
      rw [if_pos rfl, if_pos (by rw [e]; simp)]
    · rw [if_neg (fun w => q (Sum.inr.inj w)), hv x, e]
      by_cases e2 : x ∈ ys.take i
      · rw [if_pos e2, if_pos (List.mem_append_left _ e2)]
      · rw [if_neg e2, if_neg (by rw [List.mem_append, List.mem_singleton]; rintro (w | w) <;> contradiction)]
theorem Fill.full {H : Hp} {d : Addr} {ys : List Str} {n : Nat} {f : Str → V} (h : Fill H d ys n f) (e : n = ys.length) : Full H d ys f := by
  subst e
  obtain ⟨kvs, a, b, c⟩ := h
  exact ⟨kvs, a, b, fun x => by rw [c x, List.take_length]⟩
theorem Full.get {H : Hp} {d : Addr} {ys : List Str} {f : Str → V} (h : Full H d ys f) {x : Str} (hx : x ∈ ys) : DGet H d (.str x) (some (f x)) := by
  obtain ⟨kvs, e, _, v⟩ := h
  have := v x
  rw [if_pos hx] at this
  rw [← this]
  exact DGet.k (k := .inr x) e
def tbOf : List Str → List Int → Str → Int
  | n :: ns, c :: cs, y => if y = n then c else tbOf ns cs y
  | _, _, _ => 0
theorem tbOf_at : ∀ {ns : List Str} {cs : List Int}, ns.Nodup → ∀ {i : Nat} {n : Str} {c : Int}, ns[i]? = some n → cs[i]? = some c → tbOf ns cs n = c
  | [], _, _, i, n, c, h, _ => by simp at h
  | _ :: _, [], _, i, n, c, _, h => by simp at h
  | a :: ns, b :: cs, nd, 0, n, c, h1, h2 => by
    simp at h1 h2
    subst h1 h2
    show (if a = a then b else _) = b
    rw [if_pos rfl]
  | a :: ns, b :: cs, nd, i + 1, n, c, h1, h2 => by
    have hm : n ∈ ns := List.mem_of_getElem? (by simpa using h1)
    have hne : n ≠ a := fun z => (List.nodup_cons.mp nd).1 (z ▸ hm)
    show (if n = a then b else tbOf ns cs n) = c
    rw [if_neg hne]
    exact tbOf_at (List.nodup_cons.mp nd).2 (by simpa using h1) (by simpa using h2)
def CsOk (cs : List Int) : Prop := ∀ c ∈ cs, 0 ≤ c ∧ c < 65536
theorem tbOf_ok : ∀ {ns : List Str} {cs : List Int}, CsOk cs → ∀ y, 0 ≤ tbOf ns cs y ∧ tbOf ns cs y < 65536
  | [], _, _, y => by unfold tbOf; exact ⟨by decide, by decide⟩
  | _ :: _, [], _, y => by unfold tbOf; exact ⟨by decide, by decide⟩
  | a :: ns, b :: cs, h, y => by
    unfold tbOf
    split
    · exact h b (List.mem_cons_self ..)
    · exact tbOf_ok (fun c hc => h c (List.mem_cons_of_mem _ hc)) y
/-! brains, thinkers -/
def BrA (C : Addr) (H : Hp) (B : Addr) (u : Int) (ce bk : Addr) (an : V) : Prop := ∃ dx, H B = some (.ins C dx [("units", .int u), ("cells", .ref ce), ("block", .ref bk), ("answer", an)])
def sp_brinit (K : PySem.W.Frag) (C : Addr) : Sp := fun vs H Q _ => ∃ (x dx : Addr) (u : Int) (ce bk : Addr) (an : V) (xs ys : List V), vs = [.ref x, .int u, .ref ce, .ref bk, an] ∧ H x = some (.ins C dx []) ∧ H ce = some (.tup xs) ∧ At K H bk ys ∧ ∀ H', Keep [x] H H' → BrA C H' x u ce bk an → Q .non H'
def sp_thinit (K : PySem.W.Frag) (C CB : Addr) : Sp := fun vs H Q _ => ∃ (x dx B : Addr) (u : Int) (ce bk ca : Addr) (an st tp : V) (xs : List V) (ns : List Str) (ks cs : List Int), vs = [.ref x, .ref B, .ref ca, st, tp] ∧ H x = some (.ins C dx []) ∧ BrA CB H B u ce bk an ∧ B ≠ x ∧
  H ce = some (.tup xs) ∧ RL H xs ns ks ∧ H ca = some (.tup (cs.map V.int)) ∧ cs.length = ns.length ∧ ns.Nodup ∧ ns.length ≤ 1000 ∧
  ∀ d H', H d = none → Keep [x] H H' → H' x = some (.ins C dx [("table", .ref d), ("left", .int u), ("seen", st), ("tape", tp)]) → Full H' d ns (fun y => .int (tbOf ns cs y)) → Q .non H'
section
variable {P : Program} {w : World} {K : PySem.W.Frag} {mg : Str → Option Value} {base : Heap} {C_Tape : Addr} {C_Thinker : Addr} {C_Brain : Addr} {C_Mind : Addr} {C_Frame : Addr} {C_Thinking : Addr} {T_EVENTS : Addr} {T_SIGNS : Addr}
theorem ok_brinit {f : Addr} {fd : FuncData} (M : Mk K C_Brain f) (F : C8.Fun K "__init__" "Brain.__init__" s_Brain___init f fd) (b : Binds K fd ["self", "units", "cells", "block", "answer"] []) (T : Txt K mg C_Tape C_Thinker C_Brain C_Mind C_Frame C_Thinking T_EVENTS T_SIGNS) : C8.Mak P w K mg base 1 "Brain" C_Brain (sp_brinit K C_Brain) [] := by
  refine mak0 M T.m_Brain F b .nil sc_Brain___init (fun vs H Q E h => ?_) (fun cdv A outer s H vs Q E hr h => ?_)
  · obtain ⟨x, dx, u, ce, bk, an, xs, ys, rfl, _⟩ := h
    rfl
  · obtain ⟨x, dx, u, ce, bk, an, xs, ys, rfl, hx, hce, hbk, k⟩ := h
    refine ⟨_, (pss_cons (ps_fld (pv 0) (pv 1) rfl)
(pss_cons (ps_fld (pv 0) (pe_callTy call_tuple_of (by rfl) T.n_tuple bo_tuple (pa_cons (pv 2) pa_nil)) rfl)
(pss_cons (ps_fld (pv 0) (pe_callTy call_tuple_of (by rfl) T.n_tuple bo_tuple (pa_cons (pv 3) pa_nil)) rfl)
(pss_one (ps_fld (pv 0) (pv 4) rfl))))), ?_⟩
    have mx : x ∈ [x] := List.mem_singleton.mpr rfl
    have tku : ∀ {H1 : Hp} {fs gs : List (Str × V)}, H1 x = some (.ins C_Brain dx fs) → TK H1 (upd H1 x (.ins C_Brain dx gs)) := fun h b zs q => by rw [upd_ne (ne_of q h (by intro z; cases z))]; exact q
    refine ⟨_, rfl, _, rfl, x, C_Brain, dx, [], rfl, hx, T.cl_Brain, T.a_Brain_units, by show 0 < 1000; decide, ?_⟩
    have t1 := tku (gs := [("units", V.int u)]) hx
    refine ⟨_, rfl, _, _, rfl, .inr ⟨(SqT.of (t1 _ _ hce)), _, rfl, x, C_Brain, dx, _, rfl, upd_same, T.cl_Brain, T.a_Brain_cells, by show 1 < 1000; decide, ?_⟩⟩
    have t2 : TK H (upd (upd H x (.ins C_Brain dx [("units", .int u)])) x (.ins C_Brain dx [("units", .int u), ("cells", .ref ce)])) := t1.trans (tku upd_same)
    refine ⟨_, rfl, _, _, rfl, .inr ⟨(hbk.tk t2).sq, _, rfl, x, C_Brain, dx, _, rfl, upd_same, T.cl_Brain, T.a_Brain_block, by show 2 < 1000; decide, ?_⟩⟩
    refine ⟨_, rfl, _, rfl, x, C_Brain, dx, _, rfl, upd_same, T.cl_Brain, T.a_Brain_answer, by show 3 < 1000; decide, ?_⟩
    exact k _ ((((Keep.at_ mx).then_at mx).then_at mx).then_at mx) ⟨dx, upd_same⟩
theorem ok_thinit {f : Addr} {fd : FuncData} (M : Mk K C_Thinker f) (F : C8.Fun K "__init__" "Thinker.__init__" s_Thinker___init f fd) (b : Binds K fd ["self", "brain", "cells", "seen", "tape"] []) (T : Txt K mg C_Tape C_Thinker C_Brain C_Mind C_Frame C_Thinking T_EVENTS T_SIGNS) : C8.Mak P w K mg base 1 "Thinker" C_Thinker (sp_thinit K C_Thinker C_Brain) [] := by
  refine mak0 M T.m_Thinker F b .nil sc_Thinker___init (fun vs H Q E h => ?_) (fun cdv A outer s H vs Q E hr h => ?_)
  · obtain ⟨x, dx, B, u, ce, bk, ca, an, st, tp, xs, ns, ks, cs, rfl, _⟩ := h
    rfl
  · obtain ⟨x, dx, B, u, ce, bk, ca, an, st, tp, xs, ns, ks, cs, rfl, hx, ⟨dB, oB⟩, nBx, hce, hR, hca, hcl, nd, hnl, k⟩ := h
    have hu := hu_of hr
    refine ⟨_, (pss_cons (ps_fld (pv 0) pe_dnewK rfl)
(pss_cons (ps_for PassesOwn.never rfl (RZ.pi_zipA (by rfl) T.n_zip (pa_cons (pe_fld (pv 1) rfl) (pa_cons (pv 2) pa_nil))) (pg_tup (by rfl) (pgs_cons (pg_name (i := 5) sc_Thinker___init.nd rfl (by first | exact Or.inl rfl | exact Or.inr rfl)) (pgs_cons (pg_name (i := 6) sc_Thinker___init.nd rfl (by first | exact Or.inl rfl | exact Or.inr rfl)) pgs_nil)))
  (pss_one (ps_dput hu (pe_fld (pv 0) rfl) (pe_ix ix_tup (pv 5) pe_int (fun _ _ => rfl)) (pv 6) (by rfl))))
(pss_cons (ps_fld (pv 0) (pe_fld (pv 1) rfl) rfl)
(pss_cons (ps_fld (pv 0) (pv 3) rfl)
(pss_one (ps_fld (pv 0) (pv 4) rfl)))))), ?_⟩
    have mx : x ∈ [x] := List.mem_singleton.mpr rfl
    refine fun d nd0 => ⟨_, rfl, x, C_Thinker, dx, [], rfl, by rw [upd_ne (ne_of_none hx nd0)]; exact hx, T.cl_Thinker, T.a_Thinker_table, by show 0 < 1000; decide, ?_⟩
    have exd : x ≠ d := ne_of_none hx nd0
    have k0 : Keep [x] H (upd (upd H d (.dK [])) x (.ins C_Thinker dx [("table", .ref d)])) := (Keep.new nd0).then_at mx
    have ncx : ce ≠ x := ne_of hce hx (by intro z; cases z)
    have nax : ca ≠ x := ne_of hca hx (by intro z; cases z)
    have hrl := hR.len
    have cok : ∀ {H1 : Hp}, Keep [x, d] H H1 → SqT K H1 ce xs ∧ SqT K H1 ca (cs.map V.int) := fun k1 =>
      ⟨SqT.of (k1 _ _ hce (by simp [ncx, ne_of_none hce nd0])), SqT.of (k1 _ _ hca (by simp [nax, ne_of_none hca nd0]))⟩
    have k0' : Keep [x, d] H (upd (upd H d (.dK [])) x (.ins C_Thinker dx [("table", .ref d)])) := k0.mono (by simp)
    have oB1 := k0 _ _ oB (by simpa using nBx)
    refine ⟨_, rfl, B, C_Brain, dB, _, _, rfl, oB1, T.cl_Brain, T.a_Brain_cells, rfl, _, rfl, ce, ca, xs, cs.map V.int, rfl, .inr ⟨(cok k0').1, (cok k0').2, ?_⟩⟩
    refine RZ.for_zipT (K := K) (by rw [List.length_map]; omega) (fun i σ H' => (∃ o5 o6 : Option V, σ = [some (.ref x), some (.ref B), some (.ref ca), some st, some tp, o5, o6]) ∧ Fill H' d ns i (fun y => .int (tbOf ns cs y)) ∧ Keep [x, d] H H' ∧ H' x = some (.ins C_Thinker dx [("table", .ref d)]))
      ⟨⟨none, none, rfl⟩, fill0 (by rw [upd_ne exd.symm]; exact upd_same), k0', upd_same⟩ (fun i σ H' ⟨_, _, k1, _⟩ => cok k1) ?_ ?_
    · rintro i v z Tt σ H1 hv hz ⟨⟨o5, o6, rfl⟩, hF, K1, ox⟩ nT
      obtain ⟨p, n, c0, rfl, hn, _, hp⟩ := hR.get hv
      obtain ⟨c, hc, rfl⟩ := ints_get hz
      obtain ⟨hlt, he⟩ := List.getElem?_eq_some_iff.mp hn
      have kT : Keep [] H1 (upd H1 Tt (.tup [.ref p, .int c])) := Keep.new nT
      have hp1 := kT _ _ (K1 _ _ hp (by simp [ne_of hp hx (by intro z; cases z), ne_of_none hp nd0])) (by simp)
      have et : ns.take (i + 1) = ns.take i ++ [n] := by rw [List.take_succ_eq_append_getElem hlt, he]
      obtain ⟨kvs, g1, g2, g3⟩ := (hF.keep kT (by simp)).step nd et
      have hval : tbOf ns cs n = c := tbOf_at nd hn hc
      have ox1 := kT _ _ ox (by simp)
      refine ⟨Tt, _, rfl, SqT.of upd_same, rfl, _, _, rfl, _, _, rfl, rfl, ?_⟩
      refine ⟨_, rfl, _, rfl, x, C_Thinker, dx, _, _, rfl, ox1, T.cl_Thinker, T.a_Thinker_table, rfl, _, rfl, _, _, _, _, rfl, rfl, SqT.of hp1, rfl, d, _, rfl, DPut.k (k := .inr n) g1 (smallL (by rw [g2]; omega)), ?_⟩
      refine ⟨⟨_, _, rfl⟩, g3 _ (by rw [hval]; exact upd_same), ((K1.trans (kT.mono (by simp))).then_at (by simp)), by rw [upd_ne exd]; exact ox1⟩
    · rintro σ H1 ⟨⟨o5, o6, rfl⟩, hF, K1, ox⟩
      have hFull := hF.full hrl.1
      have oB2 := K1 _ _ oB (by simp [nBx, ne_of_none oB nd0])
      refine ⟨_, rfl, B, C_Brain, dB, _, _, rfl, oB2, T.cl_Brain, T.a_Brain_units, rfl, _, rfl, x, C_Thinker, dx, _, rfl, ox, T.cl_Thinker, T.a_Thinker_left, by show 1 < 1000; decide, ?_⟩
      refine ⟨_, rfl, _, rfl, x, C_Thinker, dx, _, rfl, upd_same, T.cl_Thinker, T.a_Thinker_seen, by show 2 < 1000; decide, ?_⟩
      refine ⟨_, rfl, _, rfl, x, C_Thinker, dx, _, rfl, upd_same, T.cl_Thinker, T.a_Thinker_tape, by show 3 < 1000; decide, ?_⟩
      have kk : Keep [x, d] H _ := ((K1.then_at (o := .ins C_Thinker dx [("table", .ref d), ("left", .int u)]) (by simp : x ∈ [x, d])).then_at (o := .ins C_Thinker dx [("table", .ref d), ("left", .int u), ("seen", st)]) (by simp : x ∈ [x, d])).then_at (o := .ins C_Thinker dx [("table", .ref d), ("left", .int u), ("seen", st), ("tape", tp)]) (by simp : x ∈ [x, d])
      refine k d _ nd0 (fun a o h w => kk a o h (by simp at w; simp [w, ne_of_none h nd0])) upd_same ?_
      obtain ⟨kvs, a, b, c⟩ := hFull
      exact ⟨kvs, by rw [upd_ne exd.symm, upd_ne exd.symm, upd_ne exd.symm]; exact a, b, c⟩
end

def thk (ns : List Str) (cs : List Int) (b : Bl) (e : Ex) (count : Int) (seen rs : List Int) (u : Int) (tk : List (Int × Int)) : Int × List Int × List (Int × Int) :=
  if (runB seen rs b ⟨u, tbOf ns cs, tk⟩).1 = false then (0, cs, (runB seen rs b ⟨u, tbOf ns cs, tk⟩).2.tk)
  else (if (runB seen rs b ⟨u, tbOf ns cs, tk⟩).2.ev seen e ≥ count then 0 else (runB seen rs b ⟨u, tbOf ns cs, tk⟩).2.ev seen e, ns.map (runB seen rs b ⟨u, tbOf ns cs, tk⟩).2.tb, (runB seen rs b ⟨u, tbOf ns cs, tk⟩).2.tk)
/-- what both thinkings are told -/
structure ThIn (K : PySem.W.Frag) (H : Hp) (ce bk ca vw : Addr) (an : V) (ns : List Str) (ks cs : List Int) (b : Bl) (e : Ex) (xs : List V) (es : List Ev) (u : Int) : Prop where
  bd : Bd K H ce bk an ns ks b e
  bo : BdOk ns b e
  u0 : 0 ≤ u
  u1 : u ≤ 65535
  co : CsOk cs
  cl : cs.length = ns.length
  ca : H ca = some (.tup (cs.map V.int))
  vw : H vw = some (.tup xs)
  ev : Evs H xs es
  eo : EvsOk es
  el : es.length ≤ 10000
theorem ThIn.tk {K : PySem.W.Frag} {H H' : Hp} {ce bk ca vw : Addr} {an : V} {ns : List Str} {ks cs : List Int} {b : Bl} {e : Ex} {xs : List V} {es : List Ev} {u : Int} (h : ThIn K H ce bk ca vw an ns ks cs b e xs es u) (k : TK H H') : ThIn K H' ce bk ca vw an ns ks cs b e xs es u :=
  ⟨h.bd.tk k, h.bo, h.u0, h.u1, h.co, h.cl, k _ _ h.ca, k _ _ h.vw, h.ev.tk k, h.eo, h.el⟩
theorem ThIn.mok {K : PySem.W.Frag} {H : Hp} {ce bk ca vw : Addr} {an : V} {ns : List Str} {ks cs : List Int} {b : Bl} {e : Ex} {xs : List V} {es : List Ev} {u : Int} (h : ThIn K H ce bk ca vw an ns ks cs b e xs es u) (tk : List (Int × Int)) : MOk ns ⟨u, tbOf ns cs, tk⟩ := ⟨h.u0, fun y _ => tbOf_ok h.co y⟩
theorem ThIn.sl {K : PySem.W.Frag} {H : Hp} {ce bk ca vw : Addr} {an : V} {ns : List Str} {ks cs : List Int} {b : Bl} {e : Ex} {xs : List V} {es : List Ev} {u : Int} (h : ThIn K H ce bk ca vw an ns ks cs b e xs es u) : (nums es).length ≤ 60000 := by
  rw [nums_len]; have := h.el; omega
def sp_think (K : PySem.W.Frag) (CB CT : Addr) : Sp := fun vs H Q _ => ∃ B ce bk ca vw tp rx tx an ns ks cs b e xs es u count rs tk, vs = [.ref B, .ref ca, .ref vw, .int count, .ref tp] ∧ BrA CB H B u ce bk an ∧ ThIn K H ce bk ca vw an ns ks cs b e xs es u ∧ TapeAt CT H tp rx tx rs tk ∧ tk.length ≤ 1000 ∧
  ∀ t ct H', H t = none → H' t = some (.tup [.int (thk ns cs b e count (nums es) rs u tk).1, .ref ct]) → H' ct = some (.tup ((thk ns cs b e count (nums es) rs u tk).2.1.map V.int)) → TapeAt CT H' tp rx tx rs (thk ns cs b e count (nums es) rs u tk).2.2 → Keep [tx] H H' → Q (.ref t) H'
section
variable {P : Program} {w : World} {K : PySem.W.Frag} {mg : Str → Option Value} {base : Heap} {C_Tape : Addr} {C_Thinker : Addr} {C_Brain : Addr} {C_Mind : Addr} {C_Frame : Addr} {C_Thinking : Addr} {T_EVENTS : Addr} {T_SIGNS : Addr}
theorem ok_think {f : Addr} {fd : FuncData} (D : C8.Def K mg "think" s_think f fd) (b : Binds K fd ["brain", "cells", "view", "count", "tape"] []) (T : Txt K mg C_Tape C_Thinker C_Brain C_Mind C_Frame C_Thinking T_EVENTS T_SIGNS) (c_view_numbers : C8.Cal P w K mg base 1 "view_numbers" sp_views []) (c_Thinker : C8.Mak P w K mg base 1 "Thinker" C_Thinker (sp_thinit K C_Thinker C_Brain) [])
    (c_Thinker_run : C8.Met P w K mg base 41 C_Thinker "run" (sp_trun K C_Thinker C_Tape 9) []) (c_Thinker_value : C8.Met P w K mg base 14 C_Thinker "value" (sp_tval K C_Thinker C_Tape) []) : C8.Cal P w K mg base 42 "think" (sp_think K C_Brain C_Tape) [] := by
  refine cal0 D b .nil sc_think (fun vs H Q E h => ?_) (fun cdv A outer s H vs Q E hr h => ?_)
  · obtain ⟨B, ce, bk, ca, vw, tp, rx, tx, an, ns, ks, cs, b, e, xs, es, u, count, rs, tk, rfl, _⟩ := h
    rfl
  · obtain ⟨B, ce, bk, ca, vw, tp, rx, tx, an, ns, ks, cs, b, e, xs, es, u, count, rs, tk, rfl, ⟨dB, oB⟩, hI, hTp, htk, k⟩ := h
    have hu := hu_of hr
    refine ⟨_, (pss_cons (ps_set (i := 5) sc_think.nd rfl (by first | exact Or.inl rfl | exact Or.inr rfl) (pe_mk c_Thinker hr (by first | exact Nat.le_refl _ | decide | omega) rfl (pa_cons (pv 0) (pa_cons (pv 1) (pa_cons (pe_c c_view_numbers hr (by first | exact Nat.le_refl _ | decide | omega) rfl (pa_cons (pv 2) pa_nil)) (pa_cons (pv 4) pa_nil))))))
(pss_cons (ps_if (pt_not (pt_truth (pe_mt c_Thinker_run hr (by first | exact Nat.le_refl _ | decide | omega) (pv 5) (pa_cons (pe_fld (pv 0) rfl) pa_nil)) (by intro _; rfl)))
  (pss_one (ps_ret (pe_tup (pa_cons pe_int (pa_cons (pe_callTy call_tuple_of (by rfl) T.n_tuple bo_tuple (pa_cons (pv 1) pa_nil)) pa_nil)))))
  pss_nil)
(pss_cons (ps_set (i := 6) sc_think.nd rfl (by first | exact Or.inl rfl | exact Or.inr rfl) (pe_mt c_Thinker_value hr (by first | exact Nat.le_refl _ | decide | omega) (pv 5) (pa_cons (pe_fld (pv 0) rfl) pa_nil)))
(pss_cons (ps_if (pt_cmpR op_ge (pv 6) (pv 3) (nomark _))
  (pss_one (ps_set (i := 6) sc_think.nd rfl (by first | exact Or.inl rfl | exact Or.inr rfl) pe_int))
  pss_nil)
(pss_one (ps_ret (pe_tup (pa_cons (pv 6) (pa_cons (pe_callTy call_tuple_of (by rfl) T.n_tuple bo_tuple (pa_cons (pe_lc (own := [("row", 7)]) (g := gName 7) (tt := tYes) rfl sc_think.nd (pi_tup (pe_fld (pv 0) rfl)) (blkOk_by (N := ["brain", "cells", "view", "count", "tape", "thinker", "answer", "row"]) (sc := fnScope s_think) (by decide +kernel)) (fun _ _ _ _ _ => pg_name (i := 7) sc_think.nd rfl (Or.inl rfl)) (fun _ _ _ _ _ => pts_nil) (fun _ _ _ _ _ => (pe_dget hu (pe_fldK (K := K) (pv 5) rfl) (pe_ix (ix_tupK (K := K)) (pv 7) pe_int (fun _ _ => rfl)) (fun _ _ => rfl)))) pa_nil)) pa_nil))))))))), ?_⟩
    refine ⟨_, rfl, _, rfl, _, rfl, vw, xs, es, rfl, hI.vw, hI.ev, hI.eo, hI.el, fun st H1 nst hst K1 => ⟨_, rfl, fun x dx nx nd ne => ?_⟩⟩
    have km : Keep [] H1 (upd (upd H1 dx (.own x)) x (.ins C_Thinker dx [])) := Keep.made nx nd
    have I1 := (hI.tk K1.tk).tk km.tk
    obtain ⟨ys, hce, hR⟩ := I1.bd.ce
    have oB1 := km _ _ (K1 _ _ oB (by simp)) (by simp)
    have nBx : B ≠ x := ne_of_none (K1 _ _ oB (by simp)) nx
    refine ⟨x, dx, B, u, ce, bk, ca, an, .ref st, .ref tp, ys, ns, ks, cs, rfl, upd_same, ⟨dB, oB1⟩, nBx, hce, hR, I1.ca, I1.cl, I1.bo.nd, by have := I1.bo.nl; omega, fun d H2 ndd K2 ox2 hF2 => ⟨rfl, ?_⟩⟩
    have nx0 : H x = none := K1.free nx
    have T1 := hTp.keep K1 K1.tk (by simp) (by simp) (by simp)
    have Tm := T1.keep km km.tk (by simp) (by simp) (by simp)
    obtain ⟨dt, ot⟩ := T1.o
    obtain ⟨zs, t1, t2⟩ := T1.t
    have ntp : tp ≠ x := ne_of_none ot nx
    have nrx : rx ≠ x := ne_of_none T1.r nx
    have ntx : tx ≠ x := ne_of_none t1 nx
    have tk2 : TK (upd (upd H1 dx (.own x)) x (.ins C_Thinker dx [])) H2 := fun a ws q => K2 _ _ q (by
      have : a ≠ x := ne_of q upd_same (by intro z; cases z)
      simpa using this)
    have I2 := I1.tk tk2
    have T2 := Tm.keep K2 tk2 (by simpa using ntp) (by simpa using nrx) (by simpa using ntx)
    have oB2 := K2 _ _ oB1 (by simpa using nBx)
    have hst2 := tk2 _ _ (km.tk _ _ hst)
    have A2 : ThAt C_Thinker C_Tape H2 x d st tp rx tx ns (nums es) rs ⟨u, tbOf ns cs, tk⟩ := ⟨⟨dx, ox2⟩, hF2, hst2, T2, ntp.symm⟩
    have C2 : TC C_Thinker C_Tape H2 x d st tp rx tx ns (nums es) rs ⟨u, tbOf ns cs, tk⟩ := ⟨A2, I2.mok tk, nums_ok I2.eo, I2.sl, by (have := I2.u1; show u.toNat + tk.length ≤ 90000; omega), by have := I2.bo.nl; omega⟩
    have mv := runB_mv (rs := rs) C2.sk b I2.bo.bo _ C2.ok
    have K02 : Keep [x] H H2 := (K1.trans km).mono (by simp) |>.trans K2
    have nd0 : H d = none := (K1.trans km).free ndd
    have e0 : thk ns cs b e count (nums es) rs u tk = if (runB (nums es) rs b ⟨u, tbOf ns cs, tk⟩).1 = false then (0, cs, (runB (nums es) rs b ⟨u, tbOf ns cs, tk⟩).2.tk) else (if (runB (nums es) rs b ⟨u, tbOf ns cs, tk⟩).2.ev (nums es) e ≥ count then 0 else (runB (nums es) rs b ⟨u, tbOf ns cs, tk⟩).2.ev (nums es) e, ns.map (runB (nums es) rs b ⟨u, tbOf ns cs, tk⟩).2.tb, (runB (nums es) rs b ⟨u, tbOf ns cs, tk⟩).2.tk) := rfl
    refine ⟨_, rfl, x, dx, _, rfl, ox2, rfl, _, rfl, B, C_Brain, dB, _, _, rfl, oB2, T.cl_Brain, T.a_Brain_block, rfl, x, d, st, tp, rx, tx, ns, nums es, rs, _, bk, b, rfl, C2, I2.bd.bk, I2.bo.bo, by have := I2.bo.d; omega, fun H3 A3 K3 => ?_⟩
    have tk3 := A2.tk3 K3
    have I3 := I2.tk tk3
    have kx : Keep [tx] H H3 := fun a o h w => K3 _ _ (K02 _ _ h (by have := ne_of_none h nx0; simpa using this)) (by
      have h1 := ne_of_none h nx0
      have h2 := ne_of_none h nd0
      have h3 : a ≠ tx := by simpa using w
      simp [h1, h2, h3])
    have oB3 := kx _ _ oB (by
      have := ne_of (K1 _ _ oB (by simp)) t1 (by intro z; cases z)
      simpa using this)
    obtain ⟨dx3, ox3⟩ := A3.o
    have C3 := C2.mv A3 mv
    cases hb : (runB (nums es) rs b ⟨u, tbOf ns cs, tk⟩).1 with
    | false =>
      rw [if_pos hb] at e0
      rw [e0] at k
      refine ⟨_, rfl, iteT ?_⟩
      refine ⟨_, rfl, _, _, rfl, .inr ⟨SqT.of I3.ca, And.intro (by show 2 ≤ sizeLine; decide) <| fun t nt => ?_⟩⟩
      have kt : Keep [] H3 (upd H3 t (.tup [.int 0, .ref ca])) := Keep.new nt
      have hyt : ∃ o, H3 tx = some o := by obtain ⟨ws, h, _⟩ := A3.ta.t; exact ⟨_, h⟩
      obtain ⟨oo, hoo⟩ := hyt
      exact k t ca _ (kx.free1 hoo nt) upd_same (kt _ _ I3.ca (by simp)) (A3.ta.keep kt kt.tk (by simp) (by simp) (by simp)) (kx.trans (kt.mono (by simp)))
    | true =>
      rw [if_neg (by rw [hb]; decide)] at e0
      rw [e0] at k
      generalize (runB (nums es) rs b ⟨u, tbOf ns cs, tk⟩).2 = s3 at *
      refine ⟨_, rfl, iteF ?_⟩
      refine ⟨_, rfl, x, dx3, _, rfl, ox3, rfl, _, rfl, B, C_Brain, dB, _, _, rfl, oB3, T.cl_Brain, T.a_Brain_answer, rfl, x, d, st, tp, rx, tx, ns, nums es, rs, s3, an, e, rfl, A3, C3.ok, C3.sk, C3.sl, I3.bd.an, I3.bo.e, fun H4 K4 => ?_⟩
      have A4 := A3.keep0 K4
      have I4 := I3.tk K4.tk
      have k4 : Keep [tx] H H4 := kx.trans (K4.mono (by simp))
      have oB4 := K4 _ _ oB3 (by simp)
      obtain ⟨dx4, ox4⟩ := A4.o
      obtain ⟨ys4, hce4, hR4⟩ := I4.bd.ce
      obtain ⟨oo, hoo⟩ : ∃ o, H4 tx = some o := by obtain ⟨ws, h, _⟩ := A4.ta.t; exact ⟨_, h⟩
      -- the end, whatever the answer is
      have fin : ∀ (z : Int), z = (if s3.ev (nums es) e ≥ count then 0 else s3.ev (nums es) e) → ∀ {L : Addr} {H5 : Hp}, H4 L = none → Keep [] H4 H5 → H5 L = some (.lst (ns.map fun y => V.int (s3.tb y))) → ∃ p ys, [V.ref L] = [V.ref p] ∧ ((SqL K H5 p ys ∧ ∀ l, H5 l = none → 2 ≤ sizeLine ∧ ∀ t, upd H5 l (.tup ys) t = none → Q (.ref t) (upd (upd H5 l (.tup ys)) t (.tup [.int z, .ref l]))) ∨ (SqT K H5 p ys ∧ 2 ≤ sizeLine ∧ ∀ t, H5 t = none → Q (.ref t) (upd H5 t (.tup [.int z, .ref p])))) := by
        intro z hz L H5 nL K5 hL5
        refine ⟨_, _, rfl, .inl ⟨SqL.of hL5, fun l nl => ⟨by decide, fun t nt => ?_⟩⟩⟩
        have k6 : Keep [] H5 (upd H5 l (.tup (ns.map fun y => V.int (s3.tb y)))) := Keep.new nl
        have k7 := k6.then_new (o := .tup [.int z, .ref l]) nt
        have k47 := K5.trans k7
        subst hz
        refine k t l _ (k4.free1 hoo ((K5.trans k6).free nt)) upd_same ?_ (A4.ta.keep k47 k47.tk (by simp) (by simp) (by simp)) (k4.trans (k47.mono (by simp)))
        have : upd (upd H5 l (.tup (ns.map fun y => V.int (s3.tb y)))) t (.tup [.int (if s3.ev (nums es) e ≥ count then 0 else s3.ev (nums es) e), .ref l]) l = some (.tup (ns.map fun y => V.int (s3.tb y))) := Keep.new (W := []) nt _ _ upd_same (by simp)
        rw [this, List.map_map]
        rfl
      refine ⟨_, rfl, _, rfl, _, _, rfl, rfl, _, rfl, iteD (fun h => ?_) (fun h => ?_)⟩
      · have h' : s3.ev (nums es) e ≥ count := h
        refine ⟨_, rfl, _, rfl, B, C_Brain, dB, _, _, rfl, oB4, T.cl_Brain, T.a_Brain_cells, rfl, ce, rfl, ⟨_, SqT.of hce4⟩, fun L hL => ?_⟩
        refine lc_tup (K := K) (a := ce) (xs := ys4) (fun i H5 => H5 L = some (.lst ((ns.take i).map fun y => V.int (s3.tb y))) ∧ Keep [] H4 H5) ⟨upd_same, Keep.new hL⟩ (fun i H5 _ ⟨_, k5⟩ => SqT.of (k5 _ _ hce4 (by simp))) ?_ ?_
        · rintro i v H5 hv ⟨hL5, K5⟩
          obtain ⟨pp, n, c, rfl, hn, _, hp⟩ := hR4.get hv
          obtain ⟨hlt, hget⟩ := List.getElem?_eq_some_iff.mp hn
          have hmem : n ∈ ns := List.mem_of_getElem? hn
          refine ⟨rfl, yes_then ⟨_, rfl, x, C_Thinker, dx4, _, _, rfl, K5 _ _ ox4 (by simp), T.cl_Thinker, T.a_Thinker_table, rfl, _, rfl, _, _, _, _, rfl, rfl, SqT.of (K5 _ _ hp (by simp)), rfl, _, _, rfl, (A4.t.keep K5 (by simp)).get hmem, ?_⟩⟩
          refine ⟨_, hL5, by rw [List.length_map, List.length_take]; exact smallL (by have := hI.bo.nl; omega), ?_, K5.then_own hL⟩
          rw [List.take_succ_eq_append_getElem hlt, hget, List.map_append]
          exact upd_same
        · rintro H5 ⟨hL5, K5⟩
          rw [hR4.len.1, List.take_length] at hL5
          exact fin 0 (by rw [if_pos h']) hL K5 hL5
      · have h' : ¬ s3.ev (nums es) e ≥ count := h
        refine ⟨_, rfl, _, rfl, B, C_Brain, dB, _, _, rfl, oB4, T.cl_Brain, T.a_Brain_cells, rfl, ce, rfl, ⟨_, SqT.of hce4⟩, fun L hL => ?_⟩
        refine lc_tup (K := K) (a := ce) (xs := ys4) (fun i H5 => H5 L = some (.lst ((ns.take i).map fun y => V.int (s3.tb y))) ∧ Keep [] H4 H5) ⟨upd_same, Keep.new hL⟩ (fun i H5 _ ⟨_, k5⟩ => SqT.of (k5 _ _ hce4 (by simp))) ?_ ?_
        · rintro i v H5 hv ⟨hL5, K5⟩
          obtain ⟨pp, n, c, rfl, hn, _, hp⟩ := hR4.get hv
          obtain ⟨hlt, hget⟩ := List.getElem?_eq_some_iff.mp hn
          have hmem : n ∈ ns := List.mem_of_getElem? hn
          refine ⟨rfl, yes_then ⟨_, rfl, x, C_Thinker, dx4, _, _, rfl, K5 _ _ ox4 (by simp), T.cl_Thinker, T.a_Thinker_table, rfl, _, rfl, _, _, _, _, rfl, rfl, SqT.of (K5 _ _ hp (by simp)), rfl, _, _, rfl, (A4.t.keep K5 (by simp)).get hmem, ?_⟩⟩
          refine ⟨_, hL5, by rw [List.length_map, List.length_take]; exact smallL (by have := hI.bo.nl; omega), ?_, K5.then_own hL⟩
          rw [List.take_succ_eq_append_getElem hlt, hget, List.map_append]
          exact upd_same
        · rintro H5 ⟨hL5, K5⟩
          rw [hR4.len.1, List.take_length] at hL5
          exact fin _ (by rw [if_neg h']) hL K5 hL5
end

section
variable {P : Program} {w : World} {K : PySem.W.Frag} {mg : Str → Option Value} {base : Heap} {C_Tape : Addr} {C_Thinker : Addr} {C_Brain : Addr} {C_Mind : Addr} {C_Frame : Addr} {C_Thinking : Addr} {T_EVENTS : Addr} {T_SIGNS : Addr}
theorem same_all {f : Addr} {fd : FuncData} (D : C8.Def K mg "_law_same" s_law_same f fd) (b : Binds K fd ["actual", "due"] []) (T : Txt K mg C_Tape C_Thinker C_Brain C_Mind C_Frame C_Thinking T_EVENTS T_SIGNS) : ∀ n, C8.Cal P w K mg base n "_law_same" (sp_law_same K n) []
  | 0 => ok_law_same0 D b
  | n + 1 => ok_law_same D b T (same_all D b T n)
end
/-! a tape with more in front -/
theorem thk_len {ns : List Str} {cs : List Int} {b : Bl} {e : Ex} {count : Int} {seen rs : List Int} {u : Int} (hl : cs.length = ns.length) (hs : SeenOk seen) (hb : b.Ok ns) (ho : MOk ns ⟨u, tbOf ns cs, []⟩) (u1 : u ≤ 65535) :
    (thk ns cs b e count seen rs u []).2.1.length = ns.length ∧ (thk ns cs b e count seen rs u []).2.2.length ≤ 65535 := by
  have mv := runB_mv (rs := rs) hs b hb _ ho
  have h1 := mv.k
  have h2 : (runB seen rs b ⟨u, tbOf ns cs, []⟩).2.tk.length ≤ 65535 := by
    change _ ≤ u.toNat + 0 + 0 at h1
    omega
  unfold thk
  split
  · exact ⟨hl, h2⟩
  · exact ⟨by rw [List.length_map], h2⟩
/-! the same -/
theorem same_ints {K : PySem.W.Frag} {H : Hp} {n : Nat} : ∀ l : List Int, Paired (SameV K (n + 1) H) (l.map V.int) (l.map V.int)
  | [] => .nil
  | a :: l => .cons (sameV_atom (.inr (.inl ⟨a, rfl⟩))) (same_ints l)
theorem same_intsT {K : PySem.W.Frag} {H : Hp} {p q : Addr} {n : Nat} {l : List Int} (h1 : H p = some (.tup (l.map V.int))) (h2 : H q = some (.tup (l.map V.int))) (hl : l.length ≤ 1000000) : SameV K (n + 2) H (.ref p) (.ref q) :=
  sameT (.inl h1) (.inl h2) (same_ints l) (by rw [List.length_map]; exact hl)
theorem same_pl {K : PySem.W.Frag} {H : Hp} {n : Nat} : ∀ {tk : List (Int × Int)} {xs ys : List V}, PL H xs tk → PL H ys tk → Paired (SameV K (n + 2) H) xs ys
  | [], _, _, h, g => by cases h; cases g; exact .nil
  | p :: tk, _, _, h, g => by
    cases h with
    | cons h1 h2 =>
      cases g with
      | cons g1 g2 => exact .cons (sameT (.inl h1) (.inl g1) (same_ints [_, _]) (by simp)) (same_pl h2 g2)
theorem sameL {K : PySem.W.Frag} {H : Hp} {n : Nat} {p q : Addr} {xs ys : List V} (h1 : H p = some (.lst xs)) (h2 : H q = some (.lst ys)) (h : Paired (SameV K n H) xs ys) (hl : xs.length ≤ 1000000) : SameV K (n + 1) H (.ref p) (.ref q) :=
  .inr ⟨p, q, _, _, rfl, rfl, .inl ⟨h1, h2⟩, (paired_get h).1, smallM hl, (paired_get h).2⟩

/-! codes of statements -/
inductive MI where
  | e (i : Ins)
  | skip (n : Nat)
  | jump (n : Nat)
  | back (n : Nat)
  | unit
  | lot
  | store (x : Str)
  | fin
def tagM : MI → Str
  | .e i => tagI i
  | .skip _ => "skip"
  | .jump _ => "jump"
  | .back _ => "back"
  | .unit => "unit"
  | .lot => "lot"
  | .store _ => "store"
  | .fin => "end"
def numM (ns : List Str) : MI → Int
  | .e i => numI ns i
  | .skip n => (n : Int)
  | .jump n => (n : Int)
  | .back n => (n : Int)
  | .unit => 0
  | .lot => 0
  | .store x => (idx ns x : Nat)
  | .fin => 0
def ec (e : Ex) : List MI := (code offs e).map MI.e
def brn (t a b : List MI) : List MI := if b = [] then t ++ (.skip a.length :: a) else t ++ (.skip (a.length + 1) :: (a ++ (.jump b.length :: b)))
mutual
def cT : Th → List MI
  | .set x e => .unit :: (ec e ++ [.store x])
  | .lot x e => .unit :: (ec e ++ [.lot, .store x])
  | .iff t a b => .unit :: brn (ec t) (cB a) (cB b)
  | .whl t b => .unit :: (ec t ++ (.skip ((cB b).length + 1) :: (cB b ++ [.back ((ec t).length + (cB b).length + 2)])))
def cB : Bl → List MI
  | .nil => []
  | .cons t b => cT t ++ cB b
end
def cM (b : Bl) (e : Ex) : List MI := cB b ++ (ec e ++ [.fin])
inductive ML (K : PySem.W.Frag) (H : Hp) (ns : List Str) : List V → List MI → Prop
  | nil : ML K H ns [] []
  | cons {t : Addr} {i : MI} {vs : List V} {c : List MI} : At K H t [.str (tagM i), .int (numM ns i)] → ML K H ns vs c → ML K H ns (.ref t :: vs) (i :: c)
section
variable {K : PySem.W.Frag} {ns : List Str}
theorem ML.tk {H H' : Hp} (k : TK H H') {vs : List V} {c : List MI} (h : ML K H ns vs c) : ML K H' ns vs c := by
  induction h with
  | nil => exact .nil
  | cons h _ ih => exact .cons (h.tk k) ih
theorem ML.app {H : Hp} {vs ws : List V} {c d : List MI} (h : ML K H ns vs c) (g : ML K H ns ws d) : ML K H ns (vs ++ ws) (c ++ d) := by
  induction h with
  | nil => exact g
  | cons h _ ih => exact .cons h ih
theorem ML.len {H : Hp} {vs : List V} {c : List MI} (h : ML K H ns vs c) : vs.length = c.length := by
  induction h with
  | nil => rfl
  | cons h _ ih => rw [List.length_cons, List.length_cons, ih]
theorem ML.get {H : Hp} {vs : List V} {c : List MI} (h : ML K H ns vs c) : ∀ {i : Nat} {x : MI}, c[i]? = some x → ∃ t, vs[i]? = some (.ref t) ∧ At K H t [.str (tagM x), .int (numM ns x)] := by
  induction h with
  | nil => intro i v h; simp at h
  | cons h _ ih =>
    intro i x hx
    cases i with
    | zero => simp at hx; subst hx; exact ⟨_, rfl, h⟩
    | succ i => simpa using ih (by simpa using hx)
theorem CL.ml {H : Hp} {vs : List V} {c : List Ins} (h : CL K H ns vs c) : ML K H ns vs (c.map MI.e) := by
  induction h with
  | nil => exact .nil
  | cons h _ ih => exact .cons h ih
end
theorem brn_len (t a b : List MI) : t.length + a.length + b.length + 1 ≤ (brn t a b).length := by
  unfold brn
  split
  · rename_i h
    subst h
    simp; omega
  · simp; omega
theorem ec_len {e : Ex} (h : e.dep ≤ 12) : (ec e).length ≤ 8192 := by
  unfold ec
  rw [List.length_map]
  exact code_small offs (by omega)
theorem off0 {H : Hp} {a : Addr} (h : H a = some (.dK [])) : DcB H a [] offs := ⟨[], h, fun x hx => by cases hx⟩
/-- a code that is being put together -/
def CdL (K : PySem.W.Frag) (H : Hp) (ns : List Str) (L : Addr) (c : List MI) : Prop := ∃ ws, H L = some (.lst ws) ∧ ML K H ns ws c
theorem CdL.keep {K : PySem.W.Frag} {H H' : Hp} {ns : List Str} {L : Addr} {c : List MI} (h : CdL K H ns L c) (k : Keep [] H H') : CdL K H' ns L c := by
  obtain ⟨ws, h1, h2⟩ := h
  exact ⟨ws, k _ _ h1 (by simp), h2.tk k.tk⟩
theorem CdL.push {K : PySem.W.Frag} {H0 H : Hp} {ns : List Str} {L u : Addr} {c : List MI} (h : CdL K H ns L c) (i : MI) (nL : H0 L = none) (k0 : Keep [] H0 H) (nu : H u = none) : ∃ ws, upd H u (.tup [.str (tagM i), .int (numM ns i)]) L = some (.lst ws) ∧ ws.length = c.length ∧
    CdL K (upd (upd H u (.tup [.str (tagM i), .int (numM ns i)])) L (.lst (ws ++ [.ref u]))) ns L (c ++ [i]) ∧ Keep [] H0 (upd (upd H u (.tup [.str (tagM i), .int (numM ns i)])) L (.lst (ws ++ [.ref u]))) ∧ TK H (upd (upd H u (.tup [.str (tagM i), .int (numM ns i)])) L (.lst (ws ++ [.ref u]))) := by
  obtain ⟨ws, h1, h2⟩ := h
  have k1 : Keep [] H (upd H u (.tup [.str (tagM i), .int (numM ns i)])) := Keep.new nu
  have h1' := k1 _ _ h1 (by simp)
  have t : TK H (upd (upd H u (.tup [.str (tagM i), .int (numM ns i)])) L (.lst (ws ++ [.ref u]))) := k1.tk.trans (TK.lst h1')
  have ne : u ≠ L := (ne_of_none h1 nu).symm
  exact ⟨ws, h1', h2.len, ⟨_, upd_same, (h2.tk t).app (.cons (.inl (by rw [upd_ne ne]; exact upd_same)) .nil)⟩, (k0.trans k1).then_own nL, t⟩
theorem CdL.cat {K : PySem.W.Frag} {H0 H : Hp} {ns : List Str} {L b : Addr} {c d : List MI} {zs : List V} (h : CdL K H ns L c) (nL : H0 L = none) (k0 : Keep [] H0 H) (hb : H b = some (.lst zs)) (m : ML K H ns zs d) : ∃ ws, H L = some (.lst ws) ∧ ws.length = c.length ∧
    CdL K (upd H L (.lst (ws ++ zs))) ns L (c ++ d) ∧ Keep [] H0 (upd H L (.lst (ws ++ zs))) ∧ TK H (upd H L (.lst (ws ++ zs))) := by
  obtain ⟨ws, h1, h2⟩ := h
  have t : TK H (upd H L (.lst (ws ++ zs))) := TK.lst h1
  exact ⟨ws, h1, h2.len, ⟨_, upd_same, (h2.tk t).app (m.tk t)⟩, k0.then_own nL, t⟩
def sp_branch (K : PySem.W.Frag) : Sp := fun vs H Q _ => ∃ (l1 l2 l3 : Addr) (xs ys zs : List V) (ns : List Str) (t a b : List MI), vs = [.ref l1, .ref l2, .ref l3] ∧ H l1 = some (.lst xs) ∧ H l2 = some (.lst ys) ∧ H l3 = some (.lst zs) ∧ ML K H ns xs t ∧ ML K H ns ys a ∧ ML K H ns zs b ∧ t.length + a.length + b.length ≤ 900000 ∧
  ∀ l ws H', H' l = some (.lst ws) → ML K H' ns ws (brn t a b) → Keep [] H H' → Q (.ref l) H'
def sp_tcode (K : PySem.W.Frag) (n : Nat) : Sp := fun vs H Q _ => ∃ (bk sl : Addr) (b : Bl) (ns : List Str), vs = [.ref bk, .ref sl] ∧ BV K H b bk ∧ b.Ok ns ∧ b.dep < n ∧ (cB b).length ≤ 800000 ∧ TupD H sl (ns.map V.str) ∧
  ∀ l ws H', H' l = some (.lst ws) → ML K H' ns ws (cB b) → Keep [] H H' → Q (.ref l) H'
def sp_bcode (K : PySem.W.Frag) : Sp := fun vs H Q _ => ∃ (bk sl : Addr) (an : V) (b : Bl) (e : Ex) (ns : List Str), vs = [.ref bk, an, .ref sl] ∧ BV K H b bk ∧ b.Ok ns ∧ b.dep ≤ 8 ∧ (cB b).length ≤ 800000 ∧ EV K H an e ∧ ExOk ns e ∧ TupD H sl (ns.map V.str) ∧
  ∀ l ws H', H' l = some (.lst ws) → ML K H' ns ws (cM b e) → Keep [] H H' → Q (.ref l) H'
section
variable {P : Program} {w : World} {K : PySem.W.Frag} {mg : Str → Option Value} {base : Heap} {C_Tape : Addr} {C_Thinker : Addr} {C_Brain : Addr} {C_Mind : Addr} {C_Frame : Addr} {C_Thinking : Addr} {T_EVENTS : Addr} {T_SIGNS : Addr}
theorem code_all {f : Addr} {fd : FuncData} (D : C8.Def K mg "expression_code" s_expression_code f fd) (b : Binds K fd ["expression", "slots", "on"] []) (T : Txt K mg C_Tape C_Thinker C_Brain C_Mind C_Frame C_Thinking T_EVENTS T_SIGNS) : ∀ n, C8.Cal P w K mg base (n + 1) "expression_code" (sp_code K n) []
  | 0 => ok_code0 D b
  | n + 1 => ok_code D b T (code_all D b T n)
theorem ok_branch {f : Addr} {fd : FuncData} (D : C8.Def K mg "branch_code" s_branch_code f fd) (b : Binds K fd ["test", "then", "other"] []) (T : Txt K mg C_Tape C_Thinker C_Brain C_Mind C_Frame C_Thinking T_EVENTS T_SIGNS) : C8.Cal P w K mg base 1 "branch_code" (sp_branch K) [] := by
  refine cal0 D b .nil sc_branch_code (fun vs H Q E h => ?_) (fun cdv A outer s H vs Q E hr h => ?_)
  · obtain ⟨l1, l2, l3, xs, ys, zs, ns, t, a, b, rfl, _⟩ := h
    rfl
  · obtain ⟨l1, l2, l3, xs, ys, zs, ns, t, a, b, rfl, h1, h2, h3, m1, m2, m3, ln, k⟩ := h
    refine ⟨_, (pss_cons (ps_if (pt_not (pt_truth (pv 2) (by intro _; rfl)))
  (pss_one (ps_ret (pe_lst (StX.pa_star (pv 0) (pa_cons (pe_tup (pa_cons pe_str (pa_cons (pe_callB call_len_seq (by rfl) T.n_len bo_len (pa_cons (pv 1) pa_nil)) pa_nil))) (StX.pa_star (pv 1) pa_nil))))))
  pss_nil)
(pss_one (ps_ret (pe_lst (StX.pa_star (pv 0) (pa_cons (pe_tup (pa_cons pe_str (pa_cons (pe_op op_add (pe_callB call_len_seq (by rfl) T.n_len bo_len (pa_cons (pv 1) pa_nil)) pe_int) pa_nil))) (StX.pa_star (pv 1) (pa_cons (pe_tup (pa_cons pe_str (pa_cons (pe_callB call_len_seq (by rfl) T.n_len bo_len (pa_cons (pv 2) pa_nil)) pa_nil))) (StX.pa_star (pv 2) pa_nil))))))))), ?_⟩
    have e1 := m1.len
    have e2 := m2.len
    have e3 := m3.len
    cases m3 with
    | nil =>
      refine ⟨_, rfl, _, .inl ⟨_, SqL.of h3, rfl⟩, iteT ?_⟩
      refine ⟨_, rfl, _, _, rfl, .inr (SqL.of h1), _, rfl, _, _, rfl, .inl (SqL.of h2), by show 2 ≤ sizeLine; decide, fun u nu => ?_⟩
      have k1 := Keep.new (W := []) (o := .tup [.str "skip", .int ys.length]) nu
      refine ⟨_, rfl, _, _, rfl, .inr (SqL.of (k1 _ _ h2 (by simp))), ?_, fun l nl => ?_⟩
      · simp only [List.length_append, List.length_cons, List.length_nil]
        exact smallM (by omega)
      · have fin : ∀ Hf : Hp, TK H Hf → Hf u = some (.tup [.str "skip", .int (ys.length : Nat)]) → ML K Hf ns (xs ++ (.ref u :: ys)) (brn t a []) := fun Hf tk hu => by
          unfold brn
          rw [if_pos rfl]
          exact (m1.tk tk).app (.cons (.inl (by rw [hu, e2]; rfl)) (m2.tk tk))
        refine k l _ _ upd_same ?_ (k1.then_new nl)
        rw [List.append_nil]
        exact fin _ (k1.then_new nl).tk (Keep.new (W := []) nl _ _ upd_same (by simp))
    | @cons t3 i3 zs3 b3 hat hml =>
      refine ⟨_, rfl, _, .inl ⟨_, SqL.of h3, rfl⟩, iteF ?_⟩
      refine ⟨_, rfl, _, _, rfl, .inr (SqL.of h1), _, rfl, _, _, rfl, .inl (SqL.of h2), _, _, rfl, rfl, by show 2 ≤ sizeLine; decide, fun u nu => ?_⟩
      have k1 : Keep [] H (upd H u (.tup [.str "skip", .int ((ys.length : Int) + 1)])) := Keep.new nu
      refine ⟨_, rfl, _, _, rfl, .inr (SqL.of (k1 _ _ h2 (by simp))), _, rfl, _, _, rfl, .inl (SqL.of (k1 _ _ h3 (by simp))), by show 2 ≤ sizeLine; decide, fun u2 nu2 => ?_⟩
      have k2 : Keep [] H (upd (upd H u (.tup [.str "skip", .int ((ys.length : Int) + 1)])) u2 (.tup [.str "jump", .int ((V.ref t3 :: zs3).length : Nat)])) := k1.then_new nu2
      refine ⟨_, rfl, _, _, rfl, .inr (SqL.of (k2 _ _ h3 (by simp))), ?_, fun l nl => ?_⟩
      · simp only [List.length_append, List.length_cons, List.length_nil] at ln e3 ⊢
        exact smallM (by omega)
      · have fin : ∀ Hf : Hp, TK H Hf → Hf u = some (.tup [.str "skip", .int ((ys.length : Int) + 1)]) → Hf u2 = some (.tup [.str "jump", .int ((V.ref t3 :: zs3).length : Nat)]) → ML K Hf ns (xs ++ (.ref u :: (ys ++ (.ref u2 :: (V.ref t3 :: zs3))))) (brn t a (i3 :: b3)) := fun Hf tk hu hu2 => by
          unfold brn
          rw [if_neg (by simp)]
          exact (m1.tk tk).app (.cons (.inl (by rw [hu, e2]; rfl)) ((m2.tk tk).app (.cons (.inl (by rw [hu2, e3]; rfl)) ((ML.cons hat hml).tk tk))))
        refine k l _ _ upd_same ?_ (k2.then_new nl)
        rw [List.append_nil]
        exact fin _ (k2.then_new nl).tk (((Keep.new (W := []) nu2).then_new nl) _ _ upd_same (by simp)) (Keep.new (W := []) nl _ _ upd_same (by simp))
theorem ok_tcode0 {f : Addr} {fd : FuncData} (D : C8.Def K mg "thoughts_code" s_thoughts_code f fd) (b : Binds K fd ["block", "slots"] []) {k : Nat} : C8.Cal P w K mg base k "thoughts_code" (sp_tcode K 0) [] :=
  ⟨f, fd, ["block", "slots"], [], ⟨fun vs H Q E h => (by obtain ⟨bk, sl, b, ns, rfl, _⟩ := h; rfl), fun A outer s H args us vs Q E _ _ _ _ h => (by obtain ⟨bk, sl, b, ns, _, _, _, h2, _⟩ := h; exact absurd h2 (Nat.not_lt_zero _))⟩, D.mgf, D.kp, b, .nil⟩
theorem ok_tcode {f : Addr} {fd : FuncData} (D : C8.Def K mg "thoughts_code" s_thoughts_code f fd) (b : Binds K fd ["block", "slots"] []) (T : Txt K mg C_Tape C_Thinker C_Brain C_Mind C_Frame C_Thinking T_EVENTS T_SIGNS) {n k : Nat} (c_thoughts_code : C8.Cal P w K mg base k "thoughts_code" (sp_tcode K n) []) (c_expression_code : C8.Cal P w K mg base k "expression_code" (sp_code K 12) []) (c_branch_code : C8.Cal P w K mg base k "branch_code" (sp_branch K) []) :
    C8.Cal P w K mg base (k + 1) "thoughts_code" (sp_tcode K (n + 1)) [] := by
  refine cal0 D b .nil sc_thoughts_code (fun vs H Q E h => ?_) (fun cdv A outer s H vs Q E hr h => ?_)
  · obtain ⟨bk, sl, b, ns, rfl, _⟩ := h
    rfl
  · obtain ⟨bk, sl, b0, ns, rfl, ⟨xs, hbk, hT⟩, ok, dp, ln, S, k⟩ := h
    refine ⟨_, (pss_cons (ps_set (i := 2) sc_thoughts_code.nd rfl (by first | exact Or.inl rfl | exact Or.inr rfl) (pe_lst pa_nil))
(pss_cons (ps_for PassesOwn.never rfl (pi_tup (pv 0)) (pg_name (i := 3) sc_thoughts_code.nd rfl (by first | exact Or.inl rfl | exact Or.inr rfl))
  (pss_cons (ps_expr (pe_bm PySem.F.plainAttrs_list PySem.F.slot_list_append PySem.F.type_list_append mt_append (pv 2) (pa_cons (pe_tup (pa_cons pe_str (pa_cons pe_int pa_nil))) pa_nil)))
  (pss_cons (ps_set (i := 4) sc_thoughts_code.nd rfl (by first | exact Or.inl rfl | exact Or.inr rfl) (pe_ix ix_tup (pv 3) pe_int (fun _ _ => rfl)))
  (pss_one (ps_if (pt_cmpR op_eq (pv 4) pe_str (nomark _))
    (pss_cons (ps_set (i := 5) sc_thoughts_code.nd rfl (by first | exact Or.inl rfl | exact Or.inr rfl) (pe_c c_expression_code hr (by first | exact Nat.le_refl _ | decide | omega) rfl (pa_cons (pe_ix ix_tup (pv 3) pe_int (fun _ _ => rfl)) (pa_cons (pv 1) (pa_cons pe_dnewK pa_nil)))))
    (pss_one (ps_expr (pe_bm PySem.F.plainAttrs_list PySem.F.slot_list_extend PySem.F.type_list_extend mt_extend (pv 2) (pa_cons (pe_c c_branch_code hr (by first | exact Nat.le_refl _ | decide | omega) rfl (pa_cons (pv 5) (pa_cons (pe_c c_thoughts_code hr (by first | exact Nat.le_refl _ | decide | omega) rfl (pa_cons (pe_ix ix_tup (pv 3) pe_int (fun _ _ => rfl)) (pa_cons (pv 1) pa_nil))) (pa_cons (pe_c c_thoughts_code hr (by first | exact Nat.le_refl _ | decide | omega) rfl (pa_cons (pe_ix ix_tup (pv 3) pe_int (fun _ _ => rfl)) (pa_cons (pv 1) pa_nil))) pa_nil)))) pa_nil)))))
    (pss_one (ps_if (pt_cmpR op_eq (pv 4) pe_str (nomark _))
      (pss_cons (ps_set (i := 5) sc_thoughts_code.nd rfl (by first | exact Or.inl rfl | exact Or.inr rfl) (pe_c c_expression_code hr (by first | exact Nat.le_refl _ | decide | omega) rfl (pa_cons (pe_ix ix_tup (pv 3) pe_int (fun _ _ => rfl)) (pa_cons (pv 1) (pa_cons pe_dnewK pa_nil)))))
      (pss_cons (ps_set (i := 6) sc_thoughts_code.nd rfl (by first | exact Or.inl rfl | exact Or.inr rfl) (pe_c c_thoughts_code hr (by first | exact Nat.le_refl _ | decide | omega) rfl (pa_cons (pe_ix ix_tup (pv 3) pe_int (fun _ _ => rfl)) (pa_cons (pv 1) pa_nil))))
      (pss_one (ps_expr (pe_bm PySem.F.plainAttrs_list PySem.F.slot_list_extend PySem.F.type_list_extend mt_extend (pv 2) (pa_cons (pe_lst (StX.pa_star (pv 5) (pa_cons (pe_tup (pa_cons pe_str (pa_cons (pe_op op_add (pe_callB call_len_seq (by rfl) T.n_len bo_len (pa_cons (pv 6) pa_nil)) pe_int) pa_nil))) (StX.pa_star (pv 6) (pa_cons (pe_tup (pa_cons pe_str (pa_cons (pe_op op_add (pe_op op_add (pe_callB call_len_seq (by rfl) T.n_len bo_len (pa_cons (pv 5) pa_nil)) (pe_callB call_len_seq (by rfl) T.n_len bo_len (pa_cons (pv 6) pa_nil))) pe_int) pa_nil))) pa_nil))))) pa_nil))))))
      (pss_cons (ps_expr (pe_bm PySem.F.plainAttrs_list PySem.F.slot_list_extend PySem.F.type_list_extend mt_extend (pv 2) (pa_cons (pe_c c_expression_code hr (by first | exact Nat.le_refl _ | decide | omega) rfl (pa_cons (pe_ix ix_tup (pv 3) pe_int (fun _ _ => rfl)) (pa_cons (pv 1) (pa_cons pe_dnewK pa_nil)))) pa_nil)))
      (pss_cons (ps_if (pt_cmpR op_eq (pv 4) pe_str (nomark _))
        (pss_one (ps_expr (pe_bm PySem.F.plainAttrs_list PySem.F.slot_list_append PySem.F.type_list_append mt_append (pv 2) (pa_cons (pe_tup (pa_cons pe_str (pa_cons pe_int pa_nil))) pa_nil))))
        pss_nil)
      (pss_one (ps_expr (pe_bm PySem.F.plainAttrs_list PySem.F.slot_list_append PySem.F.type_list_append mt_append (pv 2) (pa_cons (pe_tup (pa_cons pe_str (pa_cons (pe_bmZ PySem.F.plainAttrs_tuple PySem.F.slot_tuple_index PySem.F.type_tuple_index mt_tup_index (pv 1) (pa_cons (pe_ix ix_tup (pv 3) pe_int (fun _ _ => rfl)) pa_nil)) pa_nil))) pa_nil)))))))))))))
(pss_one (ps_ret (pv 2))))), ?_⟩
    refine And.intro (by show 0 ≤ sizeLine; decide) <| fun L nL => ?_
    have k0 : Keep [] H (upd H L (.lst [])) := Keep.new nL
    refine ⟨_, rfl, bk, rfl, ⟨_, (hbk.tk k0.tk).sq⟩, for_tup (K := K) (a := bk) (xs := xs) (fun i σ H' => (∃ o3 o4 o5 o6 : Option V, σ = [some (.ref bk), some (.ref sl), some (.ref L), o3, o4, o5, o6]) ∧ ∃ (b : Bl) (c : List MI) (ws : List V), TVs K H' b (xs.drop i) ∧ b.Ok ns ∧ b.dep ≤ n ∧ H' L = some (.lst ws) ∧ ML K H' ns ws c ∧ c ++ cB b = cB b0 ∧ Keep [] H H')
      ⟨⟨none, none, none, none, rfl⟩, b0, [], [], TVs.tk k0.tk b0 hT, ok, by omega, upd_same, .nil, rfl, k0⟩ (fun i σ H' _ ⟨_, _, _, _, _, _, _, _, _, _, K'⟩ => (hbk.tk K'.tk).sq) ?_ ?_⟩
    · rintro i v σ H1 hv ⟨⟨o3, o4, o5, o6, rfl⟩, b, c, ws, hT1, ok1, d1, hL1, m1, e1, K1⟩
      obtain ⟨hlt, hget⟩ := List.getElem?_eq_some_iff.mp hv
      rw [List.drop_eq_getElem_cons hlt, hget] at hT1
      cases b with
      | nil => cases hT1
      | cons t b =>
        obtain ⟨v', r', e2, hT2, hT3⟩ := hT1
        cases e2
        have dt : t.dep ≤ n ∧ b.dep ≤ n := by (have : max t.dep b.dep ≤ n := d1); omega
        have lsum : c.length + (cT t).length + (cB b).length ≤ 800000 := by
          have : (c ++ (cT t ++ cB b)).length = (cB b0).length := by rw [show cT t ++ cB b = cB (.cons t b) from rfl, e1]
          rw [List.length_append, List.length_append] at this
          omega
        have C0 : CdL K H1 ns L c := ⟨ws, hL1, m1⟩
        refine ⟨_, rfl, .inl ⟨rfl, _, SqL.of hL1⟩, by show 2 ≤ sizeLine; decide, fun u nu => ?_⟩
        obtain ⟨ws1, q1, q2, C1, K2, T2⟩ := C0.push .unit nL K1 nu
        refine ⟨L, ws1, _, rfl, rfl, q1, smallL (by omega), ?_⟩
        replace C1 : CdL K (upd (upd H1 u (.tup [.str "unit", .int 0])) L (.lst (ws1 ++ [.ref u]))) ns L (c ++ [.unit]) := C1
        replace K2 : Keep [] H (upd (upd H1 u (.tup [.str "unit", .int 0])) L (.lst (ws1 ++ [.ref u]))) := K2
        replace T2 : TK H1 (upd (upd H1 u (.tup [.str "unit", .int 0])) L (.lst (ws1 ++ [.ref u]))) := T2
        have hT2' := TV.tk T2 t hT2
        have hT3' := TVs.tk T2 b hT3
        generalize upd (upd H1 u (.tup [.str "unit", .int 0])) L (.lst (ws1 ++ [.ref u])) = H2 at C1 K2 T2 hT2' hT3' ⊢
        have S2 := S.keep K2 (by simp)
        have fin : ∀ {H' : Hp} {p3 p4 p5 p6 : Option V}, CdL K H' ns L (c ++ cT t) → TK H2 H' → Keep [] H H' → (∃ o3 o4 o5 o6 : Option V, ([some (.ref bk), some (.ref sl), some (.ref L), p3, p4, p5, p6] : List (Option V)) = [some (.ref bk), some (.ref sl), some (.ref L), o3, o4, o5, o6]) ∧ ∃ (b : Bl) (c : List MI) (ws : List V), TVs K H' b (xs.drop (i + 1)) ∧ b.Ok ns ∧ b.dep ≤ n ∧ H' L = some (.lst ws) ∧ ML K H' ns ws c ∧ c ++ cB b = cB b0 ∧ Keep [] H H' :=
          fun ⟨ws', g1, g2⟩ tk kk => ⟨⟨_, _, _, _, rfl⟩, b, _, ws', TVs.tk tk b hT3', ok1.2, dt.2, g1, g2, by rw [List.append_assoc]; exact e1, kk⟩
        cases t with
        | set x e =>
          obtain ⟨a, v2, rfl, h1, h2⟩ := hT2'
          have lt : (cT (.set x e)).length = (ec e).length + 2 := by show (MI.unit :: (ec e ++ [.store x])).length = _; simp
          refine ⟨_, rfl, _, _, _, _, rfl, rfl, h1.sq, rfl, ?_⟩
          refine ⟨_, rfl, rfl, _, rfl, iteDF (nes (by decide +kernel)) ?_⟩
          refine ⟨_, rfl, rfl, _, rfl, iteDF (nes (by decide +kernel)) ?_⟩
          obtain ⟨ws2, hL2, _⟩ := id C1
          refine ⟨_, rfl, .inl ⟨rfl, _, SqL.of hL2⟩, _, rfl, _, _, _, _, rfl, rfl, h1.sq, rfl, _, rfl, fun od nod => ?_⟩
          have kd := Keep.new (W := []) (o := .dK []) nod
          refine ⟨v2, sl, od, e, ns, [], offs, rfl, h2.tk kd.tk, ok1.1.2.1, ok1.1.2.2, by omega, S2.keep kd (by simp), off0 upd_same, fun l1 zs H3 hl1 c3 K3 => ?_⟩
          have K23 := kd.trans K3
          have hz : zs.length = (ec e).length := c3.ml.len
          obtain ⟨ws4, q3, q4, C4, K4, T4⟩ := (C1.keep K23).cat nL (K2.trans K23) hl1 c3.ml
          rw [List.length_append, List.length_singleton] at q4
          refine ⟨L, l1, ws4, zs, rfl, rfl, q3, hl1, smallM (by omega), ?_⟩
          have T24 := K23.tk.trans T4
          generalize upd H3 L (.lst (ws4 ++ zs)) = H4 at C4 K4 T4 T24 ⊢
          refine ⟨_, rfl, rfl, _, rfl, iteDF (nes (by decide +kernel)) ?_⟩
          have hi := idx_get ok1.1.1
          have S4 := S.keep K4 (by simp)
          have h14 := h1.tk T24
          obtain ⟨ws5, hL5, m5⟩ := id C4
          have w5 : ws5.length = c.length + 1 + (ec e).length := by rw [m5.len, List.length_append, List.length_append]; unfold ec; rw [List.length_map]; rfl
          refine ⟨_, rfl, .inl ⟨rfl, _, SqL.of hL5⟩, _, rfl, _, _, rfl, S4, _, rfl, _, _, _, _, rfl, rfl, h14.sq, rfl, _, ns, _, _, rfl, rfl, S4.sq, hi.1, hi.2, by show 2 ≤ sizeLine; decide, fun u2 nu2 => ?_⟩
          obtain ⟨ws6, r1, r2, C6, K6, T6⟩ := C4.push (.store x) nL K4 nu2
          refine ⟨L, ws6, _, rfl, rfl, r1, smallL (by rw [r2, ← m5.len, w5]; omega), fin ?_ (T24.trans T6) K6⟩
          have e3 : c ++ [MI.unit] ++ (code offs e).map MI.e ++ [MI.store x] = c ++ cT (.set x e) := by
            show _ = c ++ (MI.unit :: (ec e ++ [.store x]))
            unfold ec; simp
          rw [← e3]; exact C6
        | lot x e =>
          obtain ⟨a, v2, rfl, h1, h2⟩ := hT2'
          have lt : (cT (.lot x e)).length = (ec e).length + 3 := by show (MI.unit :: (ec e ++ [.lot, .store x])).length = _; simp
          refine ⟨_, rfl, _, _, _, _, rfl, rfl, h1.sq, rfl, ?_⟩
          refine ⟨_, rfl, rfl, _, rfl, iteDF (nes (by decide +kernel)) ?_⟩
          refine ⟨_, rfl, rfl, _, rfl, iteDF (nes (by decide +kernel)) ?_⟩
          obtain ⟨ws2, hL2, _⟩ := id C1
          refine ⟨_, rfl, .inl ⟨rfl, _, SqL.of hL2⟩, _, rfl, _, _, _, _, rfl, rfl, h1.sq, rfl, _, rfl, fun od nod => ?_⟩
          have kd := Keep.new (W := []) (o := .dK []) nod
          refine ⟨v2, sl, od, e, ns, [], offs, rfl, h2.tk kd.tk, ok1.1.2.1, ok1.1.2.2, by omega, S2.keep kd (by simp), off0 upd_same, fun l1 zs H3 hl1 c3 K3 => ?_⟩
          have K23 := kd.trans K3
          have hz : zs.length = (ec e).length := c3.ml.len
          obtain ⟨ws4, q3, q4, C4, K4, T4⟩ := (C1.keep K23).cat nL (K2.trans K23) hl1 c3.ml
          rw [List.length_append, List.length_singleton] at q4
          refine ⟨L, l1, ws4, zs, rfl, rfl, q3, hl1, smallM (by omega), ?_⟩
          have T24 := K23.tk.trans T4
          generalize upd H3 L (.lst (ws4 ++ zs)) = H4 at C4 K4 T4 T24 ⊢
          refine ⟨_, rfl, rfl, _, rfl, iteDT rfl ?_⟩
          obtain ⟨ws5, hL5, m5⟩ := id C4
          have w5 : ws5.length = c.length + 1 + (ec e).length := by rw [m5.len, List.length_append, List.length_append]; unfold ec; rw [List.length_map]; rfl
          refine ⟨_, rfl, .inl ⟨rfl, _, SqL.of hL5⟩, by show 2 ≤ sizeLine; decide, fun u3 nu3 => ?_⟩
          obtain ⟨ws7, t1, t2, C7, K7, T7⟩ := C4.push .lot nL K4 nu3
          refine ⟨L, ws7, _, rfl, rfl, t1, smallL (by rw [t2, ← m5.len, w5]; omega), ?_⟩
          replace C7 : CdL K (upd (upd H4 u3 (.tup [.str "lot", .int 0])) L (.lst (ws7 ++ [.ref u3]))) ns L (c ++ [.unit] ++ (code offs e).map MI.e ++ [.lot]) := C7
          replace K7 : Keep [] H (upd (upd H4 u3 (.tup [.str "lot", .int 0])) L (.lst (ws7 ++ [.ref u3]))) := K7
          have T27 : TK H2 (upd (upd H4 u3 (.tup [.str "lot", .int 0])) L (.lst (ws7 ++ [.ref u3]))) := T24.trans T7
          generalize upd (upd H4 u3 (.tup [.str "lot", .int 0])) L (.lst (ws7 ++ [.ref u3])) = H7 at C7 K7 T27 ⊢
          have hi := idx_get ok1.1.1
          have S7 := S.keep K7 (by simp)
          have h17 := h1.tk T27
          obtain ⟨ws8, hL8, m8⟩ := id C7
          have w8 : ws8.length = c.length + 1 + (ec e).length + 1 := by rw [m8.len, List.length_append, List.length_append, List.length_append]; unfold ec; rw [List.length_map]; rfl
          refine ⟨_, rfl, .inl ⟨rfl, _, SqL.of hL8⟩, _, rfl, _, _, rfl, S7, _, rfl, _, _, _, _, rfl, rfl, h17.sq, rfl, _, ns, _, _, rfl, rfl, S7.sq, hi.1, hi.2, by show 2 ≤ sizeLine; decide, fun u2 nu2 => ?_⟩
          obtain ⟨ws6, r1, r2, C6, K6, T6⟩ := C7.push (.store x) nL K7 nu2
          refine ⟨L, ws6, _, rfl, rfl, r1, smallL (by rw [r2, ← m8.len, w8]; omega), fin ?_ (T27.trans T6) K6⟩
          have e3 : c ++ [MI.unit] ++ (code offs e).map MI.e ++ [MI.lot] ++ [MI.store x] = c ++ cT (.lot x e) := by
            show _ = c ++ (MI.unit :: (ec e ++ [.lot, .store x]))
            unfold ec; simp
          rw [← e3]; exact C6
        | iff t a b2 =>
          obtain ⟨pp, v2, qa, ra, xs2, ys2, rfl, h1, h2, h3, h4, h5, h6⟩ := hT2'
          have d2 : max a.dep b2.dep + 1 ≤ n := dt.1
          have lt : (cT (.iff t a b2)).length = (brn (ec t) (cB a) (cB b2)).length + 1 := rfl
          have lb := brn_len (ec t) (cB a) (cB b2)
          refine ⟨_, rfl, _, _, _, _, rfl, rfl, h1.sq, rfl, ?_⟩
          refine ⟨_, rfl, rfl, _, rfl, iteDT rfl ?_⟩
          refine ⟨_, rfl, _, _, _, _, rfl, rfl, h1.sq, rfl, _, rfl, fun od nod => ?_⟩
          have kd := Keep.new (W := []) (o := .dK []) nod
          refine ⟨v2, sl, od, t, ns, [], offs, rfl, h2.tk kd.tk, ok1.1.1.1, ok1.1.1.2, by omega, S2.keep kd (by simp), off0 upd_same, fun l1 zs H3 hl1 c3 K3 => ?_⟩
          have K23 := kd.trans K3
          have C3 := C1.keep K23
          obtain ⟨ws3, hL3, _⟩ := id C3
          have T23 := K23.tk
          have h13 := h1.tk T23
          refine ⟨_, rfl, .inl ⟨rfl, _, SqL.of hL3⟩, _, rfl, _, rfl, _, _, _, _, rfl, rfl, h13.sq, rfl, _, rfl, qa, sl, a, ns, rfl, ⟨xs2, h3.tk T23, TVs.tk T23 a h4⟩, ok1.1.2.1, by omega, by omega, S2.keep K23 (by simp), fun l2 ys H4 hl2 m2 K4 => ?_⟩
          have K24 := K23.trans K4
          have T24 := K24.tk
          have h14 := h1.tk T24
          refine ⟨_, rfl, _, _, _, _, rfl, rfl, h14.sq, rfl, _, rfl, ra, sl, b2, ns, rfl, ⟨ys2, h5.tk T24, TVs.tk T24 b2 h6⟩, ok1.1.2.2, by omega, by omega, S2.keep K24 (by simp), fun l3 us H5 hl3 m3 K5 => ?_⟩
          refine ⟨l1, l2, l3, zs, ys, us, ns, ec t, cB a, cB b2, rfl, (K4.trans K5) _ _ hl1 (by simp), K5 _ _ hl2 (by simp), hl3, c3.ml.tk (K4.trans K5).tk, m2.tk K5.tk, m3, by omega, fun l6 ws6 H6 hl6 m6 K6 => ?_⟩
          have K26 := (K24.trans K5).trans K6
          obtain ⟨ws7, q3, q4, C7, K7, T7⟩ := (C1.keep K26).cat nL (K2.trans K26) hl6 m6
          rw [List.length_append, List.length_singleton] at q4
          refine ⟨L, l6, ws7, ws6, rfl, rfl, q3, hl6, smallM (by rw [q4, m6.len]; omega), fin ?_ (K26.tk.trans T7) K7⟩
          have e3 : c ++ [MI.unit] ++ brn (ec t) (cB a) (cB b2) = c ++ cT (.iff t a b2) := by
            show _ = c ++ (MI.unit :: brn (ec t) (cB a) (cB b2))
            simp
          rw [← e3]; exact C7
        | whl t b2 =>
          obtain ⟨pp, v2, qa, xs2, rfl, h1, h2, h3, h4⟩ := hT2'
          have d2 : b2.dep + 1 ≤ n := dt.1
          have lt : (cT (.whl t b2)).length = (ec t).length + (cB b2).length + 3 := by
            show (MI.unit :: (ec t ++ (.skip ((cB b2).length + 1) :: (cB b2 ++ [.back ((ec t).length + (cB b2).length + 2)])))).length = _
            simp; omega
          refine ⟨_, rfl, _, _, _, _, rfl, rfl, h1.sq, rfl, ?_⟩
          refine ⟨_, rfl, rfl, _, rfl, iteDF (nes (by decide +kernel)) ?_⟩
          refine ⟨_, rfl, rfl, _, rfl, iteDT rfl ?_⟩
          refine ⟨_, rfl, _, _, _, _, rfl, rfl, h1.sq, rfl, _, rfl, fun od nod => ?_⟩
          have kd := Keep.new (W := []) (o := .dK []) nod
          refine ⟨v2, sl, od, t, ns, [], offs, rfl, h2.tk kd.tk, ok1.1.1.1, ok1.1.1.2, by omega, S2.keep kd (by simp), off0 upd_same, fun l1 zs H3 hl1 c3 K3 => ?_⟩
          have K23 := kd.trans K3
          have T23 := K23.tk
          have h13 := h1.tk T23
          refine ⟨_, rfl, _, _, _, _, rfl, rfl, h13.sq, rfl, _, rfl, qa, sl, b2, ns, rfl, ⟨xs2, h3.tk T23, TVs.tk T23 b2 h4⟩, ok1.1.2, by omega, by omega, S2.keep K23 (by simp), fun l2 ys H4 hl2 m2 K4 => ?_⟩
          have K24 := K23.trans K4
          have C4 := C1.keep K24
          obtain ⟨ws4, hL4, _⟩ := id C4
          have hl1' := K4 _ _ hl1 (by simp)
          have hz : zs.length = (ec t).length := c3.ml.len
          have hy := m2.len
          refine ⟨_, rfl, .inl ⟨rfl, _, SqL.of hL4⟩, _, rfl, _, _, rfl, .inr (SqL.of hl1'), _, rfl, _, _, rfl, .inl (SqL.of hl2), _, _, rfl, rfl, by show 2 ≤ sizeLine; decide, fun u nu => ?_⟩
          have k5 : Keep [] H4 (upd H4 u (.tup [.str "skip", .int ((ys.length : Int) + 1)])) := Keep.new nu
          refine ⟨_, rfl, _, _, rfl, .inr (SqL.of (k5 _ _ hl2 (by simp))), _, rfl, _, _, rfl, .inl (SqL.of (k5 _ _ hl1' (by simp))), _, rfl, _, _, rfl, .inl (SqL.of (k5 _ _ hl2 (by simp))), _, _, rfl, rfl, _, _, rfl, rfl, by show 2 ≤ sizeLine; decide, fun u2 nu2 => ⟨?_, fun l nl => ?_⟩⟩
          · simp only [List.length_append, List.length_cons, List.length_nil]
            exact smallM (by omega)
          have k6 : Keep [] H4 (upd (upd H4 u (.tup [.str "skip", .int ((ys.length : Int) + 1)])) u2 (.tup [.str "back", .int ((zs.length : Int) + (ys.length : Int) + 2)])) := k5.then_new nu2
          have fin2 : ∀ Hf : Hp, TK H4 Hf → Hf u = some (.tup [.str "skip", .int ((ys.length : Int) + 1)]) → Hf u2 = some (.tup [.str "back", .int ((zs.length : Int) + (ys.length : Int) + 2)]) → ML K Hf ns (zs ++ (.ref u :: (ys ++ [.ref u2]))) (ec t ++ (.skip ((cB b2).length + 1) :: (cB b2 ++ [.back ((ec t).length + (cB b2).length + 2)]))) := fun Hf tk hu hu2 =>
            ((c3.ml.tk K4.tk).tk tk).app (.cons (.inl (by rw [hu, hy]; rfl)) ((m2.tk tk).app (.cons (.inl (by rw [hu2, hz, hy]; rfl)) .nil)))
          have k7 : Keep [] H4 (upd (upd (upd H4 u (.tup [.str "skip", .int ((ys.length : Int) + 1)])) u2 (.tup [.str "back", .int ((zs.length : Int) + (ys.length : Int) + 2)])) l (.lst (zs ++ (.ref u :: (ys ++ [.ref u2]))))) := k6.then_new nl
          have m7 := fin2 _ k7.tk (((Keep.new (W := []) nu2).then_new nl) _ _ upd_same (by simp)) (Keep.new (W := []) nl _ _ upd_same (by simp))
          have K27 := K24.trans k7
          obtain ⟨ws7, q3, q4, C7, K7, T7⟩ := (C1.keep K27).cat nL (K2.trans K27) upd_same m7
          rw [List.length_append, List.length_singleton] at q4
          refine ⟨L, l, ws7, _, rfl, rfl, q3, upd_same, ?_, fin ?_ (K27.tk.trans T7) K7⟩
          · simp only [List.length_append, List.length_cons, List.length_nil]
            exact smallM (by omega)
          have e3 : c ++ [MI.unit] ++ (ec t ++ (.skip ((cB b2).length + 1) :: (cB b2 ++ [.back ((ec t).length + (cB b2).length + 2)]))) = c ++ cT (.whl t b2) := by
            show _ = c ++ (MI.unit :: (ec t ++ (.skip ((cB b2).length + 1) :: (cB b2 ++ [.back ((ec t).length + (cB b2).length + 2)]))))
            simp
          rw [← e3]; exact C7
    · rintro σ H1 ⟨⟨o3, o4, o5, o6, rfl⟩, b, c, ws, hT1, ok1, d1, hL1, m1, e1, K1⟩
      rw [List.drop_length] at hT1
      cases b with
      | cons t b => obtain ⟨_, _, e2, _⟩ := hT1; cases e2
      | nil =>
        rw [show cB .nil = [] from rfl, List.append_nil] at e1
        exact ⟨_, rfl, k L ws H1 hL1 (e1 ▸ m1) K1⟩
end

def sp_names : Sp := fun vs H Q _ => ∃ (ce : Addr) (xs : List V) (ns : List Str) (ks : List Int), vs = [.ref ce] ∧ H ce = some (.tup xs) ∧ RL H xs ns ks ∧ ns.length ≤ 1000 ∧ ∀ t H', H t = none → TupD H' t (ns.map V.str) → Keep [] H H' → Q (.ref t) H'
def sp_start (CB : Addr) : Sp := fun vs H Q _ => ∃ (B ce bk : Addr) (u : Int) (an : V) (xs : List V) (ns : List Str) (ks : List Int), vs = [.ref B] ∧ BrA CB H B u ce bk an ∧ H ce = some (.tup xs) ∧ RL H xs ns ks ∧ ns.length ≤ 1000 ∧ ∀ t H', H t = none → H' t = some (.tup (ks.map V.int)) → Keep [] H H' → Q (.ref t) H'
/-- a compiled brain -/
def MdA (K : PySem.W.Frag) (C : Addr) (H : Hp) (M : Addr) (u : Int) (ca cd : Addr) (ks : List Int) (ns : List Str) (c : List MI) : Prop :=
  (∃ dx, H M = some (.ins C dx [("units", .int u), ("cells", .ref ca), ("code", .ref cd)])) ∧ H ca = some (.tup (ks.map V.int)) ∧ ∃ ws, H cd = some (.tup ws) ∧ ML K H ns ws c
theorem MdA.keep {K : PySem.W.Frag} {C : Addr} {H H' : Hp} {M ca cd : Addr} {u : Int} {ks : List Int} {ns : List Str} {c : List MI} (h : MdA K C H M u ca cd ks ns c) (k : Keep [] H H') : MdA K C H' M u ca cd ks ns c := by
  obtain ⟨⟨dx, h1⟩, h2, ws, h3, h4⟩ := h
  exact ⟨⟨dx, k _ _ h1 (by simp)⟩, k _ _ h2 (by simp), ws, k _ _ h3 (by simp), h4.tk k.tk⟩
def sp_minit (K : PySem.W.Frag) (C : Addr) : Sp := fun vs H Q _ => ∃ (x dx ct cl : Addr) (u : Int) (xs ys : List V), vs = [.ref x, .int u, .ref ct, .ref cl] ∧ H x = some (.ins C dx []) ∧ H ct = some (.tup xs) ∧ H cl = some (.lst ys) ∧
  ∀ cd H', H cd = none → H' x = some (.ins C dx [("units", .int u), ("cells", .ref ct), ("code", .ref cd)]) → H' cd = some (.tup ys) → Keep [x] H H' → Q .non H'
def sp_mindof (K : PySem.W.Frag) (CB CM : Addr) : Sp := fun vs H Q _ => ∃ (B ce bk : Addr) (u : Int) (an : V) (ns : List Str) (ks : List Int) (b : Bl) (e : Ex), vs = [.ref B] ∧ BrA CB H B u ce bk an ∧ Bd K H ce bk an ns ks b e ∧ b.Ok ns ∧ b.dep ≤ 8 ∧ ExOk ns e ∧ ns.length ≤ 1000 ∧ (cB b).length ≤ 800000 ∧
  ∀ M ca cd H', H M = none → MdA K CM H' M u ca cd ks ns (cM b e) → Keep [] H H' → Q (.ref M) H'
section
variable {P : Program} {w : World} {K : PySem.W.Frag} {mg : Str → Option Value} {base : Heap} {C_Tape : Addr} {C_Thinker : Addr} {C_Brain : Addr} {C_Mind : Addr} {C_Frame : Addr} {C_Thinking : Addr} {T_EVENTS : Addr} {T_SIGNS : Addr}
theorem tcode_all {f : Addr} {fd : FuncData} (D : C8.Def K mg "thoughts_code" s_thoughts_code f fd) (b : Binds K fd ["block", "slots"] []) (T : Txt K mg C_Tape C_Thinker C_Brain C_Mind C_Frame C_Thinking T_EVENTS T_SIGNS) (c1 : C8.Cal P w K mg base 13 "expression_code" (sp_code K 12) []) (c2 : C8.Cal P w K mg base 1 "branch_code" (sp_branch K) []) : ∀ n, C8.Cal P w K mg base (n + 13) "thoughts_code" (sp_tcode K n) []
  | 0 => ok_tcode0 D b
  | n + 1 => ok_tcode D b T (tcode_all D b T c1 c2 n) (calUp c1 (by omega)) (calUp c2 (by omega))
theorem ok_bcode {f : Addr} {fd : FuncData} (D : C8.Def K mg "brain_code" s_brain_code f fd) (b : Binds K fd ["block", "answer", "slots"] []) (T : Txt K mg C_Tape C_Thinker C_Brain C_Mind C_Frame C_Thinking T_EVENTS T_SIGNS) (c_thoughts_code : C8.Cal P w K mg base 22 "thoughts_code" (sp_tcode K 9) []) (c_expression_code : C8.Cal P w K mg base 13 "expression_code" (sp_code K 12) []) : C8.Cal P w K mg base 23 "brain_code" (sp_bcode K) [] := by
  refine cal0 D b .nil sc_brain_code (fun vs H Q E h => ?_) (fun cdv A outer s H vs Q E hr h => ?_)
  · obtain ⟨bk, sl, an, b, e, ns, rfl, _⟩ := h
    rfl
  · obtain ⟨bk, sl, an, b, e, ns, rfl, hB, ok, dp, ln, hE, eo, S, k⟩ := h
    refine ⟨_, (pss_one (ps_ret (pe_lst (StX.pa_star (pe_c c_thoughts_code hr (by first | exact Nat.le_refl _ | decide | omega) rfl (pa_cons (pv 0) (pa_cons (pv 2) pa_nil))) (StX.pa_star (pe_c c_expression_code hr (by first | exact Nat.le_refl _ | decide | omega) rfl (pa_cons (pv 1) (pa_cons (pv 2) (pa_cons pe_dnewK pa_nil)))) (pa_cons (pe_tup (pa_cons pe_str (pa_cons pe_int pa_nil))) pa_nil)))))), ?_⟩
    refine ⟨_, rfl, _, rfl, bk, sl, b, ns, rfl, hB, ok, by omega, ln, S, fun l ws H1 hl m K1 => ⟨_, _, rfl, .inr (SqL.of hl), ?_⟩⟩
    refine ⟨_, rfl, _, rfl, fun od nod => ?_⟩
    have kd := Keep.new (W := []) (o := .dK []) nod
    have K1d := K1.trans kd
    refine ⟨an, sl, od, e, ns, [], offs, rfl, hE.tk K1d.tk, eo.1, eo.2, by omega, S.keep K1d (by simp), off0 upd_same, fun l2 zs H2 hl2 c2 K2 => ⟨_, _, rfl, .inr (SqL.of hl2), by show 2 ≤ sizeLine; decide, fun u nu => ⟨?_, fun r nr => ?_⟩⟩⟩
    · simp only [List.length_append, List.length_cons, List.length_nil]
      have h1 := m.len
      have h2 := c2.ml.len
      have h3 := ec_len eo.2
      unfold ec at h3
      exact smallM (by omega)
    · have kk : Keep [] H1 H2 := kd.trans K2
      have k3 := (Keep.new (W := []) (o := .tup [.str "end", .int 0]) nu).then_new (o := .lst (ws ++ (zs ++ [.ref u]))) nr
      refine k r _ _ upd_same ?_ ((K1.trans kk).trans k3)
      exact ((m.tk kk.tk).tk k3.tk).app ((c2.ml.tk k3.tk).app (.cons (.inl (Keep.new (W := []) nr _ _ upd_same (by simp))) .nil))
theorem ok_names {f : Addr} {fd : FuncData} (D : C8.Def K mg "names_of" s_names_of f fd) (b : Binds K fd ["rows"] []) (T : Txt K mg C_Tape C_Thinker C_Brain C_Mind C_Frame C_Thinking T_EVENTS T_SIGNS) : C8.Cal P w K mg base 1 "names_of" sp_names [] := by
  refine cal0 D b .nil sc_names_of (fun vs H Q E h => ?_) (fun cdv A outer s H vs Q E hr h => ?_)
  · obtain ⟨ce, xs, ns, ks, rfl, _⟩ := h
    rfl
  · obtain ⟨ce, xs, ns, ks, rfl, hce, hR, hl, k⟩ := h
    refine ⟨_, (pss_one (ps_ret (pe_callTy call_tuple_ofZ (by rfl) T.n_tuple bo_tuple (pa_cons (pe_lc (own := [("row", 1)]) (g := gName 1) (tt := tYes) rfl sc_names_of.nd (pi_tup (pv 0)) (blkOk_by (N := ["rows", "row"]) (sc := fnScope s_names_of) (by decide +kernel)) (fun _ _ _ _ _ => pg_name (i := 1) sc_names_of.nd rfl (Or.inl rfl)) (fun _ _ _ _ _ => pts_nil) (fun _ _ _ _ _ => (pe_ix (ix_tupK (K := K)) (pv 1) pe_int (fun _ _ => rfl)))) pa_nil)))), ?_⟩
    have hrl := hR.len
    refine ⟨_, rfl, ce, rfl, ⟨_, SqT.of hce⟩, fun L hL => ?_⟩
    refine lc_tup (K := K) (a := ce) (xs := xs) (fun i H5 => H5 L = some (.lst ((ns.take i).map V.str)) ∧ Keep [] H H5) ⟨upd_same, Keep.new hL⟩ (fun i H5 _ ⟨_, k5⟩ => SqT.of (k5 _ _ hce (by simp))) ?_ ?_
    · rintro i v H5 hv ⟨hL5, K5⟩
      obtain ⟨pp, n, c, rfl, hn, _, hp⟩ := hR.get hv
      obtain ⟨hlt, hget⟩ := List.getElem?_eq_some_iff.mp hn
      refine ⟨rfl, yes_then ⟨_, rfl, _, _, _, _, rfl, rfl, SqT.of (K5 _ _ hp (by simp)), rfl, ?_⟩⟩
      refine ⟨_, hL5, by rw [List.length_map, List.length_take]; exact smallL (by omega), ?_, K5.then_own hL⟩
      rw [List.take_succ_eq_append_getElem hlt, hget, List.map_append]
      exact upd_same
    · rintro H5 ⟨hL5, K5⟩
      rw [hrl.1, List.take_length] at hL5
      exact ⟨_, _, rfl, SqL.of hL5, fun t o nt e1 e2 => k t _ (K5.free nt) ⟨o, upd_same, e1, e2⟩ (K5.then_new nt)⟩
theorem ok_start {f : Addr} {fd : FuncData} (me : Meth K C_Brain "start" f) (F : C8.Fun K "start" "Brain.start" s_Brain_start f fd) (b : Binds K fd ["self"] []) (T : Txt K mg C_Tape C_Thinker C_Brain C_Mind C_Frame C_Thinking T_EVENTS T_SIGNS) : C8.Met P w K mg base 1 C_Brain "start" (sp_start C_Brain) [] := by
  refine met0 T.cl_Brain me F b sc_Brain_start (fun vs H Q E h => ?_) (fun cdv A outer s H vs Q E hr h => ?_)
  · obtain ⟨B, ce, bk, u, an, xs, ns, ks, rfl, _⟩ := h
    rfl
  · obtain ⟨B, ce, bk, u, an, xs, ns, ks, rfl, ⟨dB, oB⟩, hce, hR, hl, k⟩ := h
    refine ⟨_, (pss_one (ps_ret (pe_callTy call_tuple_of (by rfl) T.n_tuple bo_tuple (pa_cons (pe_lc (own := [("row", 1)]) (g := gName 1) (tt := tYes) rfl sc_Brain_start.nd (pi_tup (pe_fld (pv 0) rfl)) (blkOk_by (N := ["self", "row"]) (sc := fnScope s_Brain_start) (by decide +kernel)) (fun _ _ _ _ _ => pg_name (i := 1) sc_Brain_start.nd rfl (Or.inl rfl)) (fun _ _ _ _ _ => pts_nil) (fun _ _ _ _ _ => (pe_ix (ix_tupK (K := K)) (pv 1) pe_int (fun _ _ => rfl)))) pa_nil)))), ?_⟩
    have hrl := hR.len
    refine ⟨_, rfl, B, C_Brain, dB, _, _, rfl, oB, T.cl_Brain, T.a_Brain_cells, rfl, ce, rfl, ⟨_, SqT.of hce⟩, fun L hL => ?_⟩
    refine lc_tup (K := K) (a := ce) (xs := xs) (fun i H5 => H5 L = some (.lst ((ks.take i).map V.int)) ∧ Keep [] H H5) ⟨upd_same, Keep.new hL⟩ (fun i H5 _ ⟨_, k5⟩ => SqT.of (k5 _ _ hce (by simp))) ?_ ?_
    · rintro i v H5 hv ⟨hL5, K5⟩
      obtain ⟨pp, n, c, rfl, _, hn, hp⟩ := hR.get hv
      obtain ⟨hlt, hget⟩ := List.getElem?_eq_some_iff.mp hn
      refine ⟨rfl, yes_then ⟨_, rfl, _, _, _, _, rfl, rfl, SqT.of (K5 _ _ hp (by simp)), rfl, ?_⟩⟩
      refine ⟨_, hL5, by rw [List.length_map, List.length_take]; exact smallL (by omega), ?_, K5.then_own hL⟩
      rw [List.take_succ_eq_append_getElem hlt, hget, List.map_append]
      exact upd_same
    · rintro H5 ⟨hL5, K5⟩
      rw [hrl.1, ← hrl.2, List.take_length] at hL5
      exact ⟨_, _, rfl, .inl ⟨SqL.of hL5, fun t nt => k t _ (K5.free nt) upd_same (K5.then_new nt)⟩⟩
theorem ok_minit {f : Addr} {fd : FuncData} (M : Mk K C_Mind f) (F : C8.Fun K "__init__" "Mind.__init__" s_Mind___init f fd) (b : Binds K fd ["self", "units", "cells", "code"] []) (T : Txt K mg C_Tape C_Thinker C_Brain C_Mind C_Frame C_Thinking T_EVENTS T_SIGNS) : C8.Mak P w K mg base 1 "Mind" C_Mind (sp_minit K C_Mind) [] := by
  refine mak0 M T.m_Mind F b .nil sc_Mind___init (fun vs H Q E h => ?_) (fun cdv A outer s H vs Q E hr h => ?_)
  · obtain ⟨x, dx, ct, cl, u, xs, ys, rfl, _⟩ := h
    rfl
  · obtain ⟨x, dx, ct, cl, u, xs, ys, rfl, hx, hct, hcl, k⟩ := h
    refine ⟨_, (pss_cons (ps_fld (pv 0) (pv 1) rfl)
(pss_cons (ps_fld (pv 0) (pe_callTy call_tuple_of (by rfl) T.n_tuple bo_tuple (pa_cons (pv 2) pa_nil)) rfl)
(pss_one (ps_fld (pv 0) (pe_callTy call_tuple_of (by rfl) T.n_tuple bo_tuple (pa_cons (pv 3) pa_nil)) rfl)))), ?_⟩
    have mx : x ∈ [x] := List.mem_singleton.mpr rfl
    have tku : ∀ {H1 : Hp} {fs gs : List (Str × V)}, H1 x = some (.ins C_Mind dx fs) → TK H1 (upd H1 x (.ins C_Mind dx gs)) := fun h b zs q => by rw [upd_ne (ne_of q h (by intro z; cases z))]; exact q
    have ncx : cl ≠ x := ne_of hcl hx (by intro z; cases z)
    refine ⟨_, rfl, _, rfl, x, C_Mind, dx, [], rfl, hx, T.cl_Mind, T.a_Mind_units, by show 0 < 1000; decide, ?_⟩
    have t1 := tku (gs := [("units", V.int u)]) hx
    refine ⟨_, rfl, _, _, rfl, .inr ⟨(SqT.of (t1 _ _ hct)), _, rfl, x, C_Mind, dx, _, rfl, upd_same, T.cl_Mind, T.a_Mind_cells, by show 1 < 1000; decide, ?_⟩⟩
    refine ⟨_, rfl, _, _, rfl, .inl ⟨SqL.of (by rw [upd_ne ncx, upd_ne ncx]; exact hcl), fun cd ncd => ?_⟩⟩
    have nxc : x ≠ cd := ne_of_none (H := upd (upd H x _) x _) upd_same ncd
    refine ⟨_, rfl, x, C_Mind, dx, _, rfl, by rw [upd_ne nxc]; exact upd_same, T.cl_Mind, T.a_Mind_code, by show 2 < 1000; decide, ?_⟩
    have ncd0 : H cd = none := by rw [upd_ne nxc.symm, upd_ne nxc.symm] at ncd; exact ncd
    exact k cd _ ncd0 upd_same (by rw [upd_ne nxc.symm]; exact upd_same) ((((Keep.at_ mx).then_at mx).then_own ncd0).then_at mx)
theorem ok_mindof {f : Addr} {fd : FuncData} (D : C8.Def K mg "mind_of" s_mind_of f fd) (b : Binds K fd ["brain"] []) (T : Txt K mg C_Tape C_Thinker C_Brain C_Mind C_Frame C_Thinking T_EVENTS T_SIGNS) (c_brain_code : C8.Cal P w K mg base 23 "brain_code" (sp_bcode K) []) (c_names_of : C8.Cal P w K mg base 1 "names_of" sp_names []) (c_Brain_start : C8.Met P w K mg base 1 C_Brain "start" (sp_start C_Brain) []) (c_Mind : C8.Mak P w K mg base 1 "Mind" C_Mind (sp_minit K C_Mind) []) :
    C8.Cal P w K mg base 24 "mind_of" (sp_mindof K C_Brain C_Mind) [] := by
  refine cal0 D b .nil sc_mind_of (fun vs H Q E h => ?_) (fun cdv A outer s H vs Q E hr h => ?_)
  · obtain ⟨B, ce, bk, u, an, ns, ks, b, e, rfl, _⟩ := h
    rfl
  · obtain ⟨B, ce, bk, u, an, ns, ks, b, e, rfl, ⟨dB, oB⟩, hBd, ok, dp, eo, nl, ln, k⟩ := h
    refine ⟨_, (pss_cons (ps_set (i := 1) sc_mind_of.nd rfl (by first | exact Or.inl rfl | exact Or.inr rfl) (pe_c c_brain_code hr (by first | exact Nat.le_refl _ | decide | omega) rfl (pa_cons (pe_fld (pv 0) rfl) (pa_cons (pe_fld (pv 0) rfl) (pa_cons (pe_c c_names_of hr (by first | exact Nat.le_refl _ | decide | omega) rfl (pa_cons (pe_fld (pv 0) rfl) pa_nil)) pa_nil)))))
(pss_one (ps_ret (pe_mk c_Mind hr (by first | exact Nat.le_refl _ | decide | omega) rfl (pa_cons (pe_fld (pv 0) rfl) (pa_cons (pe_mt0 c_Brain_start hr (by first | exact Nat.le_refl _ | decide | omega) (pv 0)) (pa_cons (pv 1) pa_nil))))))), ?_⟩
    obtain ⟨xs, hce, hR⟩ := id hBd.ce
    refine ⟨_, rfl, B, C_Brain, dB, _, _, rfl, oB, T.cl_Brain, T.a_Brain_block, rfl, _, rfl, B, C_Brain, dB, _, _, rfl, oB, T.cl_Brain, T.a_Brain_answer, rfl, _, rfl, B, C_Brain, dB, _, _, rfl, oB, T.cl_Brain, T.a_Brain_cells, rfl, ce, xs, ns, ks, rfl, hce, hR, nl, fun sl H1 nsl S K1 => ?_⟩
    refine ⟨bk, sl, an, b, e, ns, rfl, hBd.bk.tk K1.tk, ok, dp, ln, hBd.an.tk K1.tk, eo, S, fun l ws H2 hl m K2 => ?_⟩
    have K02 := K1.trans K2
    have oB2 := K02 _ _ oB (by simp)
    refine ⟨_, rfl, B, C_Brain, dB, _, _, rfl, oB2, T.cl_Brain, T.a_Brain_units, rfl, _, rfl, B, dB, _, rfl, oB2, rfl, B, ce, bk, u, an, xs, ns, ks, rfl, ⟨dB, oB2⟩, K02 _ _ hce (by simp), hR.tk K02.tk, nl, fun ca H3 nca hca K3 => ⟨_, rfl, fun M dM nM ndM neM => ?_⟩⟩
    have km : Keep [] H3 (upd (upd H3 dM (.own M)) M (.ins C_Mind dM [])) := Keep.made nM ndM
    refine ⟨M, dM, ca, l, u, _, ws, rfl, upd_same, km _ _ hca (by simp), km _ _ (K3 _ _ hl (by simp)) (by simp), fun cd H4 ncd hM hcd K4 => ⟨rfl, ?_⟩⟩
    have K34 : Keep [] H3 H4 := keep_made nM ndM K4
    exact k M ca cd H4 ((K02.trans K3).free nM) ⟨⟨dM, hM⟩, K34 _ _ hca (by simp), ws, hcd, (m.tk K3.tk).tk K34.tk⟩ ((K02.trans K3).trans K34)
end

/-! the machine -/
structure MC where
  at_ : Nat
  st : List Int
  cells : List Int
  left : Int
  silent : Bool
  done : Bool
  tk : List (Int × Int)
def exec (ns : List Str) (seen rs : List Int) : MI → MC → Option MC
  | .e (.push n), m => some { m with st := n :: m.st }
  | .e (.load x), m => if x ∈ ns ∧ m.cells.length = ns.length then some { m with st := m.cells.getD (idx ns x) 0 :: m.st } else none
  | .e .long, m => some { m with st := (if (65535 : Int) < (seen.length : Int) then 65535 else (seen.length : Int)) :: m.st }
  | .e .view, m => match m.st with
    | a :: r => if 0 ≤ a then some { m with st := vw seen a :: r } else none
    | [] => none
  | .e (.sign s), m => match m.st with
    | b :: a :: r => if s ∈ sgL ∧ 0 ≤ a ∧ a < 65536 ∧ 0 ≤ b ∧ b < 65536 then some { m with st := comb s a b :: r } else none
    | _ => none
  | .skip n, m => match m.st with
    | v :: r => some { m with st := r, at_ := if v = 0 then m.at_ + n else m.at_ }
    | [] => none
  | .jump n, m => some { m with at_ := m.at_ + n }
  | .back n, m => if n + 1 ≤ m.at_ then some { m with at_ := m.at_ - 1 - n } else none
  | .unit, m => some { m with silent := decide (V.int m.left = V.int 0), done := decide (V.int m.left = V.int 0), left := m.left - 1 }
  | .lot, m => match m.st with
    | c :: r => if c < 65536 ∧ m.tk.length ≤ 90000 then some (if c > 0 then { m with st := nextR rs m.tk c :: r, tk := m.tk ++ [(nextR rs m.tk c, c)] } else { m with st := 0 :: r }) else none
    | [] => none
  | .store x, m => match m.st with
    | v :: r => if x ∈ ns ∧ m.cells.length = ns.length then some { m with st := r, cells := m.cells.set (idx ns x) v } else none
    | [] => none
  | .fin, m => some { m with done := true }
def stepM (ns : List Str) (seen rs : List Int) (c : List MI) (m : MC) : Option MC :=
  if m.st.length ≤ 100000 then (c[m.at_]?).bind fun i => exec ns seen rs i { m with at_ := m.at_ + 1 } else none
inductive Pth (ns : List Str) (seen rs : List Int) (c : List MI) : Nat → MC → MC → Prop
  | refl (m : MC) : Pth ns seen rs c 0 m m
  | step {n : Nat} {m m' r : MC} : m.done = false → stepM ns seen rs c m = some m' → Pth ns seen rs c n m' r → Pth ns seen rs c (n + 1) m r
/-! the object -/
def thkF (cd tb tp sk sn : Addr) (at_ steps : Int) (left : Int) (silent done : Bool) : List (Str × V) := [("code", .ref cd), ("table", .ref tb), ("tape", .ref tp), ("at", .int at_), ("stack", .ref sk), ("steps", .int steps), ("left", .int left), ("seen", .ref sn), ("silent", .bl silent), ("done", .bl done)]
structure KAt (K : PySem.W.Frag) (C CT : Addr) (H : Hp) (x cd tb tp rx tx sk sn : Addr) (ns : List Str) (seen rs : List Int) (c : List MI) (m : MC) (n : Nat) : Prop where
  o : ∃ dx, H x = some (.ins C dx (thkF cd tb tp sk sn m.at_ n m.left m.silent m.done))
  hcd : ∃ ws, H cd = some (.tup ws) ∧ ML K H ns ws c
  htb : H tb = some (.lst (m.cells.map V.int))
  hsk : H sk = some (.lst (m.st.reverse.map V.int))
  hsn : H sn = some (.tup (seen.map V.int))
  hta : TapeAt CT H tp rx tx rs m.tk
  n1 : tb ≠ sk
  n2 : tb ≠ rx
  n3 : tb ≠ tx
  n4 : sk ≠ rx
  n5 : sk ≠ tx
  n6 : x ≠ tp
theorem ixN_n {n j : Nat} (hj : j < n) : ixN n (j : Int) = some j := by
  unfold ixN
  rw [if_pos (by omega), if_pos (by omega)]
  rfl
section
variable {K : PySem.W.Frag} {C CT : Addr} {H H' : Hp} {x cd tb tp rx tx sk sn : Addr} {ns : List Str} {seen rs : List Int} {c : List MI} {m : MC} {n : Nat}
theorem KAt.keep0 (h : KAt K C CT H x cd tb tp rx tx sk sn ns seen rs c m n) (k : Keep [] H H') : KAt K C CT H' x cd tb tp rx tx sk sn ns seen rs c m n := by
  obtain ⟨dx, o⟩ := h.o
  obtain ⟨ws, h1, h2⟩ := h.hcd
  exact ⟨⟨dx, k _ _ o (by simp)⟩, ⟨ws, k _ _ h1 (by simp), h2.tk k.tk⟩, k _ _ h.htb (by simp), k _ _ h.hsk (by simp), k _ _ h.hsn (by simp), h.hta.keep k k.tk (by simp) (by simp) (by simp), h.n1, h.n2, h.n3, h.n4, h.n5, h.n6⟩
/-- its own object changes -/
theorem KAt.setO (h : KAt K C CT H x cd tb tp rx tx sk sn ns seen rs c m n) {dx : Addr} {fs : List (Str × V)} (hx : H x = some (.ins C dx fs)) (m' : MC) (n' : Nat) (e1 : m'.st = m.st) (e2 : m'.cells = m.cells) (e3 : m'.tk = m.tk) :
    KAt K C CT (upd H x (.ins C dx (thkF cd tb tp sk sn m'.at_ n' m'.left m'.silent m'.done))) x cd tb tp rx tx sk sn ns seen rs c m' n' ∧ Keep [x] H (upd H x (.ins C dx (thkF cd tb tp sk sn m'.at_ n' m'.left m'.silent m'.done))) ∧ TK H (upd H x (.ins C dx (thkF cd tb tp sk sn m'.at_ n' m'.left m'.silent m'.done))) := by
  have ne : ∀ {a : Addr} {o : HO}, H a = some o → (∀ d gs, o ≠ .ins C d gs) → a ≠ x := fun h1 h2 z => by rw [z, hx] at h1; exact h2 _ _ (Option.some.inj h1).symm
  have k : Keep [x] H (upd H x (.ins C dx (thkF cd tb tp sk sn m'.at_ n' m'.left m'.silent m'.done))) := Keep.at_ (List.mem_singleton.mpr rfl)
  have t : TK H (upd H x (.ins C dx (thkF cd tb tp sk sn m'.at_ n' m'.left m'.silent m'.done))) := fun b xs q => by rw [upd_ne (ne q (by intro _ _ z; cases z))]; exact q
  obtain ⟨ws, h1, h2⟩ := h.hcd
  obtain ⟨ys, t1, t2⟩ := h.hta.t
  refine ⟨⟨⟨dx, upd_same⟩, ⟨ws, t _ _ h1, h2.tk t⟩, ?_, ?_, t _ _ h.hsn, ?_, h.n1, h.n2, h.n3, h.n4, h.n5, h.n6⟩, k, t⟩
  · rw [e2]; exact k _ _ h.htb (by have := ne h.htb (by intro _ _ z; cases z); simpa using this)
  · rw [e1]; exact k _ _ h.hsk (by have := ne h.hsk (by intro _ _ z; cases z); simpa using this)
  · rw [e3]
    exact h.hta.keep k t (by simpa using h.n6.symm) (by have := ne h.hta.r (by intro _ _ z; cases z); simpa using this) (by have := ne t1 (by intro _ _ z; cases z); simpa using this)
/-- the stack changes -/
theorem KAt.setS (h : KAt K C CT H x cd tb tp rx tx sk sn ns seen rs c m n) (st : List Int) : KAt K C CT (upd H sk (.lst (st.reverse.map V.int))) x cd tb tp rx tx sk sn ns seen rs c { m with st := st } n ∧ Keep [sk] H (upd H sk (.lst (st.reverse.map V.int))) ∧ TK H (upd H sk (.lst (st.reverse.map V.int))) := by
  have k : Keep [sk] H (upd H sk (.lst (st.reverse.map V.int))) := Keep.at_ (List.mem_singleton.mpr rfl)
  have t : TK H (upd H sk (.lst (st.reverse.map V.int))) := TK.lst h.hsk
  obtain ⟨dx, o⟩ := h.o
  obtain ⟨ws, h1, h2⟩ := h.hcd
  obtain ⟨dt, ot⟩ := h.hta.o
  have nx : x ≠ sk := ne_of o h.hsk (by intro z; cases z)
  have nt : tp ≠ sk := ne_of ot h.hsk (by intro z; cases z)
  exact ⟨⟨⟨dx, k _ _ o (by simpa using nx)⟩, ⟨ws, t _ _ h1, h2.tk t⟩, k _ _ h.htb (by simpa using h.n1), upd_same, t _ _ h.hsn, h.hta.keep k t (by simpa using nt) (by simpa using h.n4.symm) (by simpa using h.n5.symm), h.n1, h.n2, h.n3, h.n4, h.n5, h.n6⟩, k, t⟩
/-- the table changes -/
theorem KAt.setT (h : KAt K C CT H x cd tb tp rx tx sk sn ns seen rs c m n) (cs : List Int) : KAt K C CT (upd H tb (.lst (cs.map V.int))) x cd tb tp rx tx sk sn ns seen rs c { m with cells := cs } n ∧ Keep [tb] H (upd H tb (.lst (cs.map V.int))) ∧ TK H (upd H tb (.lst (cs.map V.int))) := by
  have k : Keep [tb] H (upd H tb (.lst (cs.map V.int))) := Keep.at_ (List.mem_singleton.mpr rfl)
  have t : TK H (upd H tb (.lst (cs.map V.int))) := TK.lst h.htb
  obtain ⟨dx, o⟩ := h.o
  obtain ⟨ws, h1, h2⟩ := h.hcd
  obtain ⟨dt, ot⟩ := h.hta.o
  have nx : x ≠ tb := ne_of o h.htb (by intro z; cases z)
  have nt : tp ≠ tb := ne_of ot h.htb (by intro z; cases z)
  exact ⟨⟨⟨dx, k _ _ o (by simpa using nx)⟩, ⟨ws, t _ _ h1, h2.tk t⟩, upd_same, k _ _ h.hsk (by simpa using h.n1.symm), t _ _ h.hsn, h.hta.keep k t (by simpa using nt) (by simpa using h.n2.symm) (by simpa using h.n3.symm), h.n1, h.n2, h.n3, h.n4, h.n5, h.n6⟩, k, t⟩
/-- the tape goes on -/
theorem KAt.setK (h : KAt K C CT H x cd tb tp rx tx sk sn ns seen rs c m n) (k : Keep [tx] H H') {tk : List (Int × Int)} (ta : TapeAt CT H' tp rx tx rs tk) : KAt K C CT H' x cd tb tp rx tx sk sn ns seen rs c { m with tk := tk } n ∧ TK H H' := by
  obtain ⟨dx, o⟩ := h.o
  obtain ⟨ws, h1, h2⟩ := h.hcd
  obtain ⟨ys, t1, t2⟩ := h.hta.t
  have t : TK H H' := k.tk1 t1
  have nx : x ≠ tx := ne_of o t1 (by intro z; cases z)
  exact ⟨⟨⟨dx, k _ _ o (by simpa using nx)⟩, ⟨ws, t _ _ h1, h2.tk t⟩, k _ _ h.htb (by simpa using h.n3), k _ _ h.hsk (by simpa using h.n5), t _ _ h.hsn, ta, h.n1, h.n2, h.n3, h.n4, h.n5, h.n6⟩, t⟩
theorem KAt.push (h : KAt K C CT H x cd tb tp rx tx sk sn ns seen rs c m n) (v : Int) : KAt K C CT (upd H sk (.lst (m.st.reverse.map V.int ++ [.int v]))) x cd tb tp rx tx sk sn ns seen rs c { m with st := v :: m.st } n ∧ Keep [sk] H (upd H sk (.lst (m.st.reverse.map V.int ++ [.int v]))) := by
  have q := h.setS (v :: m.st)
  have e : (v :: m.st).reverse.map V.int = m.st.reverse.map V.int ++ [.int v] := by rw [List.reverse_cons, List.map_append]; rfl
  rw [e] at q
  exact ⟨q.1, q.2.1⟩
theorem KAt.pop (h : KAt K C CT H x cd tb tp rx tx sk sn ns seen rs c m n) {v : Int} {r : List Int} (e : m.st = v :: r) : (m.st.reverse.map V.int)[(m.st.reverse.map V.int).length - 1]? = some (.int v) ∧ KAt K C CT (upd H sk (.lst (m.st.reverse.map V.int).dropLast)) x cd tb tp rx tx sk sn ns seen rs c { m with st := r } n ∧ Keep [sk] H (upd H sk (.lst (m.st.reverse.map V.int).dropLast)) := by
  have q := h.setS r
  have e2 : m.st.reverse.map V.int = r.reverse.map V.int ++ [.int v] := by rw [e, List.reverse_cons, List.map_append]; rfl
  have e3 : (m.st.reverse.map V.int).dropLast = r.reverse.map V.int := by rw [e2, List.dropLast_concat]
  rw [← e3] at q
  exact ⟨by rw [e2]; simp, q.1, q.2.1⟩
end
/-- what special runs -/
def IsSp : MI → Prop
  | .back _ => True
  | .unit => True
  | .lot => True
  | .store _ => True
  | .fin => True
  | .e .view => True
  | .e .long => True
  | _ => False
def sp_frinit (C : Addr) : Sp := fun vs H Q _ => ∃ (x dx cd tb tp : Addr), vs = [.ref x, .ref cd, .ref tb, .ref tp] ∧ H x = some (.ins C dx []) ∧
  ∀ sk H', H sk = none → H' sk = some (.lst []) → H' x = some (.ins C dx [("code", .ref cd), ("table", .ref tb), ("tape", .ref tp), ("at", .int 0), ("stack", .ref sk), ("steps", .int 0)]) → Keep [x] H H' → Q .non H'
def sp_special (K : PySem.W.Frag) (C CT : Addr) : Sp := fun vs H Q _ => ∃ (x cd tb tp rx tx sk sn : Addr) (ns : List Str) (seen rs : List Int) (c : List MI) (m m' : MC) (n : Nat) (i : MI), vs = [.ref x, .str (tagM i), .int (numM ns i)] ∧ KAt K C CT H x cd tb tp rx tx sk sn ns seen rs c m n ∧ m.st.length ≤ 100000 ∧
  IsSp i ∧ exec ns seen rs i m = some m' ∧ ∀ H', KAt K C CT H' x cd tb tp rx tx sk sn ns seen rs c m' n → Keep [x, tb, sk, tx] H H' → Q .non H'
def sp_adv (K : PySem.W.Frag) (C CT : Addr) : Sp := fun vs H Q _ => ∃ (x cd tb tp rx tx sk sn : Addr) (ns : List Str) (seen rs : List Int) (c : List MI) (m m' : MC) (n : Nat), vs = [.ref x] ∧ KAt K C CT H x cd tb tp rx tx sk sn ns seen rs c m n ∧ stepM ns seen rs c m = some m' ∧
  ∀ H', KAt K C CT H' x cd tb tp rx tx sk sn ns seen rs c m' (n + 1) → Keep [x, tb, sk, tx] H H' → Q .non H'
section
variable {P : Program} {w : World} {K : PySem.W.Frag} {mg : Str → Option Value} {base : Heap} {C_Tape : Addr} {C_Thinker : Addr} {C_Brain : Addr} {C_Mind : Addr} {C_Frame : Addr} {C_Thinking : Addr} {T_EVENTS : Addr} {T_SIGNS : Addr}
theorem ok_special {f : Addr} {fd : FuncData} (me : Meth K C_Thinking "special" f) (F : C8.Fun K "special" "Thinking.special" s_Thinking_special f fd) (b : Binds K fd ["self", "name", "argument"] []) (T : Txt K mg C_Tape C_Thinker C_Brain C_Mind C_Frame C_Thinking T_EVENTS T_SIGNS) (c_Tape_take : C8.Met P w K mg base 1 C_Tape "take" (sp_take C_Tape) []) : C8.Met P w K mg base 2 C_Thinking "special" (sp_special K C_Thinking C_Tape) [] := by
  refine met0 T.cl_Thinking me F b sc_Thinking_special (fun vs H Q E h => ?_) (fun cdv A outer s H vs Q E hr h => ?_)
  · obtain ⟨x, cd, tb, tp, rx, tx, sk, sn, ns, seen, rs, c, m, m', n, i, rfl, _⟩ := h
    rfl
  · obtain ⟨x, cd, tb, tp, rx, tx, sk, sn, ns, seen, rs, c, m, m', n, i, rfl, hA, hsz, hi, he, k⟩ := h
    refine ⟨_, (pss_one (ps_if (pt_cmpR op_eq (pv 1) pe_str (nomark _))
  (pss_cons (ps_fld (pv 0) (pe_cmpR op_eq (pe_fld (pv 0) rfl) pe_int (nomark _)) rfl)
  (pss_cons (ps_fld (pv 0) (pe_fld (pv 0) rfl) rfl)
  (pss_one (ps_fldaug (pv 0) pe_int in_sub))))
  (pss_one (ps_if (pt_cmpR op_eq (pv 1) pe_str (nomark _))
    (pss_one (ps_fld (pv 0) (pe_op op_sub (pe_op op_sub (pe_fld (pv 0) rfl) pe_int) (pv 2)) rfl))
    (pss_one (ps_if (pt_cmpR op_eq (pv 1) pe_str (nomark _))
      (pss_one (ps_asg (pe_bm0 PySem.F.plainAttrs_list PySem.F.slot_list_pop PySem.F.type_list_pop mt_pop (pe_fld (pv 0) rfl)) (pg_sub (pe_fld (pv 0) rfl) (pv 2) set_list)))
      (pss_one (ps_if (pt_cmpR op_eq (pv 1) pe_str (nomark _))
        (pss_cons (ps_set (i := 3) sc_Thinking_special.nd rfl (by first | exact Or.inl rfl | exact Or.inr rfl) (pe_bm0 PySem.F.plainAttrs_list PySem.F.slot_list_pop PySem.F.type_list_pop mt_pop (pe_fld (pv 0) rfl)))
        (pss_one (ps_expr (pe_bm PySem.F.plainAttrs_list PySem.F.slot_list_append PySem.F.type_list_append mt_append (pe_fld (pv 0) rfl) (pa_cons (pe_ifExp (pt_cmpR op_gt (pv 3) pe_int (nomark _)) (pe_mt c_Tape_take hr (by first | exact Nat.le_refl _ | decide | omega) (pe_fld (pv 0) rfl) (pa_cons (pv 3) pa_nil)) pe_int) pa_nil)))))
        (pss_one (ps_if (pt_cmpR op_eq (pv 1) pe_str (nomark _))
          (pss_cons (ps_set (i := 4) sc_Thinking_special.nd rfl (by first | exact Or.inl rfl | exact Or.inr rfl) (pe_bm0 PySem.F.plainAttrs_list PySem.F.slot_list_pop PySem.F.type_list_pop mt_pop (pe_fld (pv 0) rfl)))
          (pss_one (ps_expr (pe_bm PySem.F.plainAttrs_list PySem.F.slot_list_append PySem.F.type_list_append mt_append (pe_fld (pv 0) rfl) (pa_cons (pe_ifExp (pt_cmpR op_lt (pv 4) (pe_callB call_len_seq (by rfl) T.n_len bo_len (pa_cons (pe_fld (pv 0) rfl) pa_nil)) (nomark _)) (pe_ix ix_tup (pe_fld (pv 0) rfl) (pv 4) (fun _ _ => rfl)) pe_int) pa_nil)))))
          (pss_one (ps_if (pt_cmpR op_eq (pv 1) pe_str (nomark _))
            (pss_one (ps_expr (pe_bm PySem.F.plainAttrs_list PySem.F.slot_list_append PySem.F.type_list_append mt_append (pe_fld (pv 0) rfl) (pa_cons (pe_callB (call_min2 rfl) (by rfl) T.n_min bo_min (pa_cons (pe_callB call_len_seq (by rfl) T.n_len bo_len (pa_cons (pe_fld (pv 0) rfl) pa_nil)) (pa_cons pe_int pa_nil))) pa_nil))))
            (pss_one (ps_fld (pv 0) pe_bl rfl)))))))))))))), ?_⟩
    obtain ⟨dx, ho⟩ := hA.o
    cases i with
    | unit =>
      cases he
      refine ⟨_, rfl, rfl, _, rfl, iteDT rfl ?_⟩
      refine ⟨_, rfl, x, C_Thinking, dx, _, _, rfl, ho, T.cl_Thinking, T.a_Thinking_left, rfl, rfl, _, rfl, x, C_Thinking, dx, _, rfl, ho, T.cl_Thinking, T.a_Thinking_silent, by show 10 < 1000; decide, ?_⟩
      refine ⟨_, rfl, x, C_Thinking, dx, _, _, rfl, upd_same, T.cl_Thinking, T.a_Thinking_silent, rfl, _, rfl, x, C_Thinking, dx, _, rfl, upd_same, T.cl_Thinking, T.a_Thinking_done, by show 10 < 1000; decide, ?_⟩
      refine ⟨_, rfl, x, C_Thinking, dx, _, _, rfl, upd_same, T.cl_Thinking, T.a_Thinking_left, rfl, _, _, rfl, rfl, dx, _, upd_same, by show 10 < 1000; decide, ?_⟩
      rw [upd_upd, upd_upd]
      have q := hA.setO ho { m with silent := decide (V.int m.left = V.int 0), done := decide (V.int m.left = V.int 0), left := m.left - 1 } n rfl rfl rfl
      exact k _ q.1 (q.2.1.mono (by simp))
    | back a =>
      have he' : (if a + 1 ≤ m.at_ then some { m with at_ := m.at_ - 1 - a } else none) = some m' := he
      split at he'
      case isFalse => cases he'
      cases he'
      rename_i hle
      refine ⟨_, rfl, rfl, _, rfl, iteDF (nes (show ("back" : Str) ≠ "unit" by decide +kernel)) ?_⟩
      refine ⟨_, rfl, rfl, _, rfl, iteDT rfl ?_⟩
      refine ⟨_, rfl, x, C_Thinking, dx, _, _, rfl, ho, T.cl_Thinking, T.a_Thinking_at, rfl, _, _, rfl, rfl, _, rfl, _, _, rfl, rfl, _, rfl, x, C_Thinking, dx, _, rfl, ho, T.cl_Thinking, T.a_Thinking_at, by show 10 < 1000; decide, ?_⟩
      have q := hA.setO ho { m with at_ := m.at_ - 1 - a } n rfl rfl rfl
      have e : ((m.at_ - 1 - a : Nat) : Int) = (m.at_ : Int) - 1 - (a : Int) := by omega
      have q1 := q.1
      have q2 := q.2.1
      change KAt K C_Thinking C_Tape (upd H x (.ins C_Thinking dx (thkF cd tb tp sk sn ((m.at_ - 1 - a : Nat) : Int) n m.left m.silent m.done))) x cd tb tp rx tx sk sn ns seen rs c _ n at q1
      change Keep [x] H (upd H x (.ins C_Thinking dx (thkF cd tb tp sk sn ((m.at_ - 1 - a : Nat) : Int) n m.left m.silent m.done))) at q2
      rw [e] at q1 q2
      exact k _ q1 (q2.mono (by simp))
    | fin =>
      cases he
      refine ⟨_, rfl, rfl, _, rfl, iteDF (nes (by decide +kernel)) ?_⟩
      refine ⟨_, rfl, rfl, _, rfl, iteDF (nes (by decide +kernel)) ?_⟩
      refine ⟨_, rfl, rfl, _, rfl, iteDF (nes (by decide +kernel)) ?_⟩
      refine ⟨_, rfl, rfl, _, rfl, iteDF (nes (by decide +kernel)) ?_⟩
      refine ⟨_, rfl, rfl, _, rfl, iteDF (nes (by decide +kernel)) ?_⟩
      refine ⟨_, rfl, rfl, _, rfl, iteDF (nes (by decide +kernel)) ?_⟩
      refine ⟨_, rfl, x, C_Thinking, dx, _, rfl, ho, T.cl_Thinking, T.a_Thinking_done, by show 10 < 1000; decide, ?_⟩
      have q := hA.setO ho { m with done := true } n rfl rfl rfl
      exact k _ q.1 (q.2.1.mono (by simp))
    | store y =>
      cases hst : m.st with
      | nil => have he' : (match m.st with | v :: r => if y ∈ ns ∧ m.cells.length = ns.length then some { m with st := r, cells := m.cells.set (idx ns y) v } else none | [] => none) = some m' := he
               rw [hst] at he'; cases he'
      | cons v r =>
        have he' : (match m.st with | v :: r => if y ∈ ns ∧ m.cells.length = ns.length then some { m with st := r, cells := m.cells.set (idx ns y) v } else none | [] => none) = some m' := he
        rw [hst] at he'
        dsimp only at he'
        split at he'
        case isFalse => cases he'
        cases he'
        rename_i hy
        have hp := hA.pop hst
        have q := hp.2.1.setT (m.cells.set (idx ns y) v)
        have q2 := hp.2.2
        obtain ⟨dx', ho2⟩ := hp.2.1.o
        refine ⟨_, rfl, rfl, _, rfl, iteDF (nes (show ("store" : Str) ≠ "unit" by decide +kernel)) ?_⟩
        refine ⟨_, rfl, rfl, _, rfl, iteDF (nes (show ("store" : Str) ≠ "back" by decide +kernel)) ?_⟩
        refine ⟨_, rfl, rfl, _, rfl, iteDT rfl ?_⟩
        refine ⟨_, rfl, x, C_Thinking, dx, _, _, rfl, ho, T.cl_Thinking, T.a_Thinking_stack, rfl, .inl ⟨rfl, _, SqL.of hA.hsk⟩, sk, _, _, rfl, rfl, hA.hsk, hp.1, ?_⟩
        refine ⟨_, rfl, x, C_Thinking, dx', _, _, rfl, ho2, T.cl_Thinking, T.a_Thinking_table, rfl, _, rfl, tb, _, _, _, rfl, rfl, hp.2.1.htb, ixN_n (by rw [List.length_map, hy.2]; exact idx_lt hy.1), ?_⟩
        have e : ((m.cells.set (idx ns y) v).map V.int) = (m.cells.map V.int).set (idx ns y) (.int v) := by rw [List.map_set]
        rw [e] at q
        exact k _ q.1 ((q2.mono (by simp)).trans (q.2.1.mono (by simp)))
    | lot =>
      cases hst : m.st with
      | nil => have he' : (match m.st with | c :: r => if c < 65536 ∧ m.tk.length ≤ 90000 then some (if c > 0 then { m with st := nextR rs m.tk c :: r, tk := m.tk ++ [(nextR rs m.tk c, c)] } else { m with st := 0 :: r }) else none | [] => none) = some m' := he
               rw [hst] at he'; cases he'
      | cons cc r =>
        have he' : (match m.st with | c :: r => if c < 65536 ∧ m.tk.length ≤ 90000 then some (if c > 0 then { m with st := nextR rs m.tk c :: r, tk := m.tk ++ [(nextR rs m.tk c, c)] } else { m with st := 0 :: r }) else none | [] => none) = some m' := he
        rw [hst] at he'
        dsimp only at he'
        split at he'
        case isFalse => cases he'
        have he2 := Option.some.inj he'
        rename_i hc
        have hp := hA.pop hst
        have q2 := hp.2.2
        have hB := hp.2.1
        obtain ⟨dx', ho2⟩ := hB.o
        refine ⟨_, rfl, rfl, _, rfl, iteDF (nes (by decide +kernel)) ?_⟩
        refine ⟨_, rfl, rfl, _, rfl, iteDF (nes (by decide +kernel)) ?_⟩
        refine ⟨_, rfl, rfl, _, rfl, iteDF (nes (by decide +kernel)) ?_⟩
        refine ⟨_, rfl, rfl, _, rfl, iteDT rfl ?_⟩
        refine ⟨_, rfl, x, C_Thinking, dx, _, _, rfl, ho, T.cl_Thinking, T.a_Thinking_stack, rfl, .inl ⟨rfl, _, SqL.of hA.hsk⟩, sk, _, _, rfl, rfl, hA.hsk, hp.1, ?_⟩
        generalize upd H sk (.lst (m.st.reverse.map V.int).dropLast) = H1 at *
        have hsz' : r.length ≤ 100000 := by rw [hst, List.length_cons] at hsz; omega
        refine ⟨_, rfl, x, C_Thinking, dx', _, _, rfl, ho2, T.cl_Thinking, T.a_Thinking_stack, rfl, .inl ⟨rfl, _, SqL.of hB.hsk⟩, _, rfl, _, _, rfl, rfl, _, rfl, iteD (fun h => ?_) (fun h => ?_)⟩
        · have h' : cc > 0 := h
          rw [if_pos h'] at he2
          obtain ⟨dt, ot⟩ := hB.hta.o
          refine ⟨_, rfl, x, C_Thinking, dx', _, _, rfl, ho2, T.cl_Thinking, T.a_Thinking_tape, rfl, tp, dt, _, rfl, ot, rfl, _, rfl, tp, rx, tx, rs, m.tk, cc, rfl, h', by omega, by omega, hB.hta, fun H2 K2 TA2 => ?_⟩
          have hC := (hB.setK K2 TA2).1
          have q := hC.push (nextR rs m.tk cc)
          refine ⟨sk, _, _, rfl, rfl, hC.hsk, smallL (by rw [List.length_map, List.length_reverse]; show r.length ≤ 1000000; omega), ?_⟩
          rw [he2] at q
          exact k _ q.1 (((q2.mono (by simp)).trans (K2.mono (by simp))).trans (q.2.mono (by simp)))
        · have h' : ¬ cc > 0 := h
          rw [if_neg h'] at he2
          have q := hB.push 0
          refine ⟨sk, _, _, rfl, rfl, hB.hsk, smallL (by rw [List.length_map, List.length_reverse]; show r.length ≤ 1000000; omega), ?_⟩
          rw [he2] at q
          exact k _ q.1 ((q2.mono (by simp)).trans (q.2.mono (by simp)))
    | e i =>
      cases i with
      | view =>
        cases hst : m.st with
        | nil => have he' : (match m.st with | a :: r => if 0 ≤ a then some { m with st := vw seen a :: r } else none | [] => none) = some m' := he
                 rw [hst] at he'; cases he'
        | cons a r =>
          have he' : (match m.st with | a :: r => if 0 ≤ a then some { m with st := vw seen a :: r } else none | [] => none) = some m' := he
          rw [hst] at he'
          dsimp only at he'
          split at he'
          case isFalse => cases he'
          have he2 := Option.some.inj he'
          rename_i ha0
          have hp := hA.pop hst
          have q2 := hp.2.2
          have hB := hp.2.1
          obtain ⟨dx', ho2⟩ := hB.o
          refine ⟨_, rfl, rfl, _, rfl, iteDF (nes (by decide +kernel)) ?_⟩
          refine ⟨_, rfl, rfl, _, rfl, iteDF (nes (by decide +kernel)) ?_⟩
          refine ⟨_, rfl, rfl, _, rfl, iteDF (nes (by decide +kernel)) ?_⟩
          refine ⟨_, rfl, rfl, _, rfl, iteDF (nes (by decide +kernel)) ?_⟩
          refine ⟨_, rfl, rfl, _, rfl, iteDT rfl ?_⟩
          refine ⟨_, rfl, x, C_Thinking, dx, _, _, rfl, ho, T.cl_Thinking, T.a_Thinking_stack, rfl, .inl ⟨rfl, _, SqL.of hA.hsk⟩, sk, _, _, rfl, rfl, hA.hsk, hp.1, ?_⟩
          generalize upd H sk (.lst (m.st.reverse.map V.int).dropLast) = H1 at *
          have hsz' : r.length ≤ 100000 := by rw [hst, List.length_cons] at hsz; omega
          have q := hB.push (vw seen a)
          rw [he2] at q
          refine ⟨_, rfl, x, C_Thinking, dx', _, _, rfl, ho2, T.cl_Thinking, T.a_Thinking_stack, rfl, .inl ⟨rfl, _, SqL.of hB.hsk⟩, _, rfl, _, rfl, x, C_Thinking, dx', _, _, rfl, ho2, T.cl_Thinking, T.a_Thinking_seen, rfl, _, _, rfl, .inr (SqT.of hB.hsn), _, _, rfl, rfl, _, rfl, iteD (fun h => ?_) (fun h => ?_)⟩
          · rw [List.length_map] at h
            have ev : vw seen a = seen.getD a.toNat 0 := by unfold vw; rw [if_pos h]
            refine ⟨_, rfl, x, C_Thinking, dx', _, _, rfl, ho2, T.cl_Thinking, T.a_Thinking_seen, rfl, _, rfl, _, _, _, _, rfl, rfl, SqT.of hB.hsn, seen_at ha0 h, sk, _, _, rfl, rfl, hB.hsk, smallL (by rw [List.length_map, List.length_reverse]; show r.length ≤ 1000000; omega), ?_⟩
            rw [ev] at q
            exact k _ q.1 ((q2.mono (by simp)).trans (q.2.mono (by simp)))
          · rw [List.length_map] at h
            have ev : vw seen a = 0 := by unfold vw; rw [if_neg h]
            refine ⟨sk, _, _, rfl, rfl, hB.hsk, smallL (by rw [List.length_map, List.length_reverse]; show r.length ≤ 1000000; omega), ?_⟩
            rw [ev] at q
            exact k _ q.1 ((q2.mono (by simp)).trans (q.2.mono (by simp)))
      | long =>
        cases he
        refine ⟨_, rfl, rfl, _, rfl, iteDF (nes (by decide +kernel)) ?_⟩
        refine ⟨_, rfl, rfl, _, rfl, iteDF (nes (by decide +kernel)) ?_⟩
        refine ⟨_, rfl, rfl, _, rfl, iteDF (nes (by decide +kernel)) ?_⟩
        refine ⟨_, rfl, rfl, _, rfl, iteDF (nes (by decide +kernel)) ?_⟩
        refine ⟨_, rfl, rfl, _, rfl, iteDF (nes (by decide +kernel)) ?_⟩
        refine ⟨_, rfl, rfl, _, rfl, iteDT rfl ?_⟩
        refine ⟨_, rfl, x, C_Thinking, dx, _, _, rfl, ho, T.cl_Thinking, T.a_Thinking_stack, rfl, .inl ⟨rfl, _, SqL.of hA.hsk⟩, ?_⟩
        refine ⟨_, rfl, x, C_Thinking, dx, _, _, rfl, ho, T.cl_Thinking, T.a_Thinking_seen, rfl, _, _, rfl, .inr (SqT.of hA.hsn), _, _, rfl, sk, _, _, rfl, rfl, hA.hsk, smallL (by rw [List.length_map, List.length_reverse]; omega), ?_⟩
        rw [List.length_map]
        have q := hA.push (if (65535 : Int) < (seen.length : Int) then 65535 else (seen.length : Int))
        exact k _ q.1 (q.2.mono (by simp))
      | push a => exact hi.elim
      | load y => exact hi.elim
      | sign z => exact hi.elim
    | skip a => exact hi.elim
    | jump a => exact hi.elim
end

theorem strs_at {ys : List Str} {i : Nat} {z : Str} (h : ys[i]? = some z) : (ys.map V.str)[i]? = some (.str z) := by rw [List.getElem?_map, h]; rfl
section
variable {P : Program} {w : World} {K : PySem.W.Frag} {mg : Str → Option Value} {base : Heap} {C_Tape : Addr} {C_Thinker : Addr} {C_Brain : Addr} {C_Mind : Addr} {C_Frame : Addr} {C_Thinking : Addr} {T_EVENTS : Addr} {T_SIGNS : Addr}
theorem ok_adv {f : Addr} {fd : FuncData} (me : Meth K C_Thinking "advance" f) (F : C8.Fun K "advance" "Frame.advance" s_Frame_advance f fd) (b : Binds K fd ["self"] []) (T : Txt K mg C_Tape C_Thinker C_Brain C_Mind C_Frame C_Thinking T_EVENTS T_SIGNS) (c_Thinking_special : C8.Met P w K mg base 2 C_Thinking "special" (sp_special K C_Thinking C_Tape) []) (c_combine : C8.Cal P w K mg base 1 "combine" sp_combine []) : C8.Met P w K mg base 3 C_Thinking "advance" (sp_adv K C_Thinking C_Tape) [] := by
  refine met0 T.cl_Thinking me F b sc_Frame_advance (fun vs H Q E h => ?_) (fun cdv A outer s H vs Q E hr h => ?_)
  · obtain ⟨x, cd, tb, tp, rx, tx, sk, sn, ns, seen, rs, c, m, m', n, rfl, _⟩ := h
    rfl
  · obtain ⟨x, cd, tb, tp, rx, tx, sk, sn, ns, seen, rs, c, m, m', n, rfl, hA, hs, k⟩ := h
    refine ⟨_, (pss_cons (ps_asg (pe_ix ix_tup (pe_fld (pv 0) rfl) (pe_fld (pv 0) rfl) (fun _ _ => rfl)) (pg_tup (by rfl) (pgs_cons (pg_name (i := 1) sc_Frame_advance.nd rfl (by first | exact Or.inl rfl | exact Or.inr rfl)) (pgs_cons (pg_name (i := 2) sc_Frame_advance.nd rfl (by first | exact Or.inl rfl | exact Or.inr rfl)) pgs_nil))))
(pss_cons (ps_fldaug (pv 0) pe_int in_add)
(pss_cons (ps_fldaug (pv 0) pe_int in_add)
(pss_one (ps_if (pt_cmpR op_eq (pv 1) pe_str (nomark _))
  (pss_one (ps_expr (pe_bm PySem.F.plainAttrs_list PySem.F.slot_list_append PySem.F.type_list_append mt_append (pe_fld (pv 0) rfl) (pa_cons (pv 2) pa_nil))))
  (pss_one (ps_if (pt_cmpR op_eq (pv 1) pe_str (nomark _))
    (pss_one (ps_expr (pe_bm PySem.F.plainAttrs_list PySem.F.slot_list_append PySem.F.type_list_append mt_append (pe_fld (pv 0) rfl) (pa_cons (pe_ix ix_list (pe_fld (pv 0) rfl) (pv 2) (fun _ _ => rfl)) pa_nil))))
    (pss_one (ps_if (pt_cmpR op_eq (pv 1) pe_str (nomark _))
      (pss_cons (ps_set (i := 3) sc_Frame_advance.nd rfl (by first | exact Or.inl rfl | exact Or.inr rfl) (pe_bm0 PySem.F.plainAttrs_list PySem.F.slot_list_pop PySem.F.type_list_pop mt_pop (pe_fld (pv 0) rfl)))
      (pss_cons (ps_set (i := 4) sc_Frame_advance.nd rfl (by first | exact Or.inl rfl | exact Or.inr rfl) (pe_bm0 PySem.F.plainAttrs_list PySem.F.slot_list_pop PySem.F.type_list_pop mt_pop (pe_fld (pv 0) rfl)))
      (pss_one (ps_expr (pe_bm PySem.F.plainAttrs_list PySem.F.slot_list_append PySem.F.type_list_append mt_append (pe_fld (pv 0) rfl) (pa_cons (pe_c c_combine hr (by first | exact Nat.le_refl _ | decide | omega) rfl (pa_cons (pe_ix ix_tup (pe_gc rfl T.v_SIGNS) (pv 2) (fun _ _ => rfl)) (pa_cons (pv 4) (pa_cons (pv 3) pa_nil)))) pa_nil))))))
      (pss_one (ps_if (pt_cmpR op_eq (pv 1) pe_str (nomark _))
        (pss_one (ps_fldaug (pv 0) (pv 2) in_add))
        (pss_one (ps_if (pt_cmpR op_eq (pv 1) pe_str (nomark _))
          (pss_one (ps_if (pt_cmpR op_eq (pe_bm0 PySem.F.plainAttrs_list PySem.F.slot_list_pop PySem.F.type_list_pop mt_pop (pe_fld (pv 0) rfl)) pe_int (nomark _))
            (pss_one (ps_fldaug (pv 0) (pv 2) in_add))
            pss_nil))
          (pss_one (ps_expr (pe_mt c_Thinking_special hr (by first | exact Nat.le_refl _ | decide | omega) (pv 0) (pa_cons (pv 1) (pa_cons (pv 2) pa_nil)))))))))))))))))), ?_⟩
    obtain ⟨dx, ho⟩ := hA.o
    obtain ⟨ws, hcd, hml⟩ := hA.hcd
    unfold stepM at hs
    split at hs
    case isFalse => cases hs
    rename_i hsz
    cases hi : c[m.at_]? with
    | none => rw [hi] at hs; cases hs
    | some i =>
      rw [hi] at hs
      replace hs : exec ns seen rs i { m with at_ := m.at_ + 1 } = some m' := hs
      obtain ⟨t, hv, hat⟩ := hml.get hi
      refine ⟨_, rfl, x, C_Thinking, dx, _, _, rfl, ho, T.cl_Thinking, T.a_Thinking_code, rfl, _, rfl, x, C_Thinking, dx, _, _, rfl, ho, T.cl_Thinking, T.a_Thinking_at, rfl, _, _, _, _, rfl, rfl, SqT.of hcd, atI_nat hv, t, _, rfl, hat.sq, rfl, _, _, rfl, _, _, rfl, rfl, ?_⟩
      refine ⟨_, rfl, x, C_Thinking, dx, _, _, rfl, ho, T.cl_Thinking, T.a_Thinking_at, rfl, _, _, rfl, rfl, dx, _, ho, by show 10 < 1000; decide, ?_⟩
      refine ⟨_, rfl, x, C_Thinking, dx, _, _, rfl, upd_same, T.cl_Thinking, T.a_Thinking_steps, rfl, _, _, rfl, rfl, dx, _, upd_same, by show 10 < 1000; decide, ?_⟩
      rw [upd_upd]
      have q := hA.setO ho { m with at_ := m.at_ + 1 } (n + 1) rfl rfl rfl
      generalize hG : upd H x _ = H1
      have A1 : KAt K C_Thinking C_Tape H1 x cd tb tp rx tx sk sn ns seen rs c { m with at_ := m.at_ + 1 } (n + 1) := by rw [← hG]; exact q.1
      have K1 : Keep [x] H H1 := by rw [← hG]; exact q.2.1
      obtain ⟨dx1, ho1⟩ := A1.o
      clear q hG
      have hsz1 : ({ m with at_ := m.at_ + 1 } : MC).st.length ≤ 100000 := hsz
      generalize hm1 : ({ m with at_ := m.at_ + 1 } : MC) = m1 at *
      have lz : (m1.st.reverse.map V.int).length < sizeLine := smallL (by rw [List.length_map, List.length_reverse]; omega)
      have fin : ∀ H', KAt K C_Thinking C_Tape H' x cd tb tp rx tx sk sn ns seen rs c m' (n + 1) → Keep [x, tb, sk, tx] H1 H' → Q .non H' := fun H' a kk => k H' a ((K1.mono (by simp)).trans kk)
      have spec : IsSp i → sp_special K C_Thinking C_Tape [.ref x, .str (tagM i), .int (numM ns i)] H1 (fun _ H' => Q .non H') C8.E0 := fun hi => ⟨x, cd, tb, tp, rx, tx, sk, sn, ns, seen, rs, c, m1, m', n + 1, i, rfl, A1, hsz1, hi, hs, fun H2 A2 K2 => fin H2 A2 K2⟩
      cases i with
      | e i =>
        cases i with
        | push a =>
          cases hs
          refine ⟨_, rfl, rfl, _, rfl, iteDT rfl ?_⟩
          have q := A1.push a
          exact ⟨_, rfl, x, C_Thinking, dx1, _, _, rfl, ho1, T.cl_Thinking, T.a_Thinking_stack, rfl, .inl ⟨rfl, _, SqL.of A1.hsk⟩, _, rfl, sk, _, _, rfl, rfl, A1.hsk, lz, fin _ q.1 (q.2.mono (by simp))⟩
        | load y =>
          have hs' : (if y ∈ ns ∧ m1.cells.length = ns.length then some { m1 with st := m1.cells.getD (idx ns y) 0 :: m1.st } else none) = some m' := hs
          split at hs'
          case isFalse => cases hs'
          rename_i hy
          cases hs'
          refine ⟨_, rfl, rfl, _, rfl, iteDF (nes (show ("load" : Str) ≠ "push" by decide +kernel)) ?_⟩
          refine ⟨_, rfl, rfl, _, rfl, iteDT rfl ?_⟩
          have hl : idx ns y < m1.cells.length := by rw [hy.2]; exact idx_lt hy.1
          have hg : (m1.cells.map V.int)[idx ns y]? = some (.int (m1.cells.getD (idx ns y) 0)) := by rw [List.getElem?_map, List.getD_eq_getElem?_getD, List.getElem?_eq_getElem hl]; rfl
          have q := A1.push (m1.cells.getD (idx ns y) 0)
          exact ⟨_, rfl, x, C_Thinking, dx1, _, _, rfl, ho1, T.cl_Thinking, T.a_Thinking_stack, rfl, .inl ⟨rfl, _, SqL.of A1.hsk⟩, _, rfl, x, C_Thinking, dx1, _, _, rfl, ho1, T.cl_Thinking, T.a_Thinking_table, rfl, _, rfl, _, _, _, _, rfl, rfl, SqL.of A1.htb, atI_nat hg, sk, _, _, rfl, rfl, A1.hsk, lz, fin _ q.1 (q.2.mono (by simp))⟩
        | sign z =>
          cases hst : m1.st with
          | nil => have hs' : (match m1.st with | b :: a :: r => if z ∈ sgL ∧ 0 ≤ a ∧ a < 65536 ∧ 0 ≤ b ∧ b < 65536 then some { m1 with st := comb z a b :: r } else none | _ => none) = some m' := hs
                   rw [hst] at hs'; cases hs'
          | cons b2 r0 =>
            cases r0 with
            | nil => have hs' : (match m1.st with | b :: a :: r => if z ∈ sgL ∧ 0 ≤ a ∧ a < 65536 ∧ 0 ≤ b ∧ b < 65536 then some { m1 with st := comb z a b :: r } else none | _ => none) = some m' := hs
                     rw [hst] at hs'; cases hs'
            | cons a2 r =>
              have hs' : (match m1.st with | b :: a :: r => if z ∈ sgL ∧ 0 ≤ a ∧ a < 65536 ∧ 0 ≤ b ∧ b < 65536 then some { m1 with st := comb z a b :: r } else none | _ => none) = some m' := hs
              rw [hst] at hs'
              dsimp only at hs'
              split at hs'
              case isFalse => cases hs'
              rename_i hg
              cases hs'
              obtain ⟨g1, g2, g3, g4, g5⟩ := hg
              refine ⟨_, rfl, rfl, _, rfl, iteDF (nes (show ("sign" : Str) ≠ "push" by decide +kernel)) ?_⟩
              refine ⟨_, rfl, rfl, _, rfl, iteDF (nes (show ("sign" : Str) ≠ "load" by decide +kernel)) ?_⟩
              refine ⟨_, rfl, rfl, _, rfl, iteDT rfl ?_⟩
              have p1 := A1.pop hst
              have p2 := p1.2.1.pop rfl
              have q := p2.2.1.push (comb z a2 b2)
              obtain ⟨dx2, ho2⟩ := p1.2.1.o
              obtain ⟨dx3, ho3⟩ := p2.2.1.o
              refine ⟨_, rfl, x, C_Thinking, dx1, _, _, rfl, ho1, T.cl_Thinking, T.a_Thinking_stack, rfl, .inl ⟨rfl, _, SqL.of A1.hsk⟩, sk, _, _, rfl, rfl, A1.hsk, p1.1, ?_⟩
              refine ⟨_, rfl, x, C_Thinking, dx2, _, _, rfl, ho2, T.cl_Thinking, T.a_Thinking_stack, rfl, .inl ⟨rfl, _, SqL.of p1.2.1.hsk⟩, sk, _, _, rfl, rfl, p1.2.1.hsk, p2.1, ?_⟩
              refine ⟨_, rfl, x, C_Thinking, dx3, _, _, rfl, ho3, T.cl_Thinking, T.a_Thinking_stack, rfl, .inl ⟨rfl, _, SqL.of p2.2.1.hsk⟩, _, rfl, _, _, _, _, rfl, rfl, T.q_SIGNS _, atI_nat (strs_at (idx_get g1).1), _, rfl, _, rfl, z, a2, b2, rfl, g1, g2, g3, g4, g5, ?_⟩
              refine ⟨sk, _, _, rfl, rfl, p2.2.1.hsk, smallL (by rw [List.length_map, List.length_reverse]; show r.length ≤ 1000000; rw [hst, List.length_cons, List.length_cons] at hsz1; omega), fin _ q.1 ?_⟩
              exact ((p1.2.2.mono (by simp)).trans (p2.2.2.mono (by simp))).trans (q.2.mono (by simp))
        | view =>
          refine ⟨_, rfl, rfl, _, rfl, iteDF (nes (show ("view" : Str) ≠ "push" by decide +kernel)) ?_⟩
          refine ⟨_, rfl, rfl, _, rfl, iteDF (nes (show ("view" : Str) ≠ "load" by decide +kernel)) ?_⟩
          refine ⟨_, rfl, rfl, _, rfl, iteDF (nes (show ("view" : Str) ≠ "sign" by decide +kernel)) ?_⟩
          refine ⟨_, rfl, rfl, _, rfl, iteDF (nes (show ("view" : Str) ≠ "jump" by decide +kernel)) ?_⟩
          refine ⟨_, rfl, rfl, _, rfl, iteDF (nes (show ("view" : Str) ≠ "skip" by decide +kernel)) ?_⟩
          exact ⟨_, rfl, x, dx1, _, rfl, ho1, rfl, _, rfl, _, rfl, spec trivial⟩
        | long =>
          refine ⟨_, rfl, rfl, _, rfl, iteDF (nes (show ("long" : Str) ≠ "push" by decide +kernel)) ?_⟩
          refine ⟨_, rfl, rfl, _, rfl, iteDF (nes (show ("long" : Str) ≠ "load" by decide +kernel)) ?_⟩
          refine ⟨_, rfl, rfl, _, rfl, iteDF (nes (show ("long" : Str) ≠ "sign" by decide +kernel)) ?_⟩
          refine ⟨_, rfl, rfl, _, rfl, iteDF (nes (show ("long" : Str) ≠ "jump" by decide +kernel)) ?_⟩
          refine ⟨_, rfl, rfl, _, rfl, iteDF (nes (show ("long" : Str) ≠ "skip" by decide +kernel)) ?_⟩
          exact ⟨_, rfl, x, dx1, _, rfl, ho1, rfl, _, rfl, _, rfl, spec trivial⟩
      | skip a =>
        refine ⟨_, rfl, rfl, _, rfl, iteDF (nes (show ("skip" : Str) ≠ "push" by decide +kernel)) ?_⟩
        refine ⟨_, rfl, rfl, _, rfl, iteDF (nes (show ("skip" : Str) ≠ "load" by decide +kernel)) ?_⟩
        refine ⟨_, rfl, rfl, _, rfl, iteDF (nes (show ("skip" : Str) ≠ "sign" by decide +kernel)) ?_⟩
        refine ⟨_, rfl, rfl, _, rfl, iteDF (nes (show ("skip" : Str) ≠ "jump" by decide +kernel)) ?_⟩
        refine ⟨_, rfl, rfl, _, rfl, iteDT rfl ?_⟩
        cases hst : m1.st with
        | nil => have hs' : (match m1.st with | v :: r => some { m1 with st := r, at_ := if v = 0 then m1.at_ + a else m1.at_ } | [] => none) = some m' := hs
                 rw [hst] at hs'; cases hs'
        | cons v r =>
          have hs' : (match m1.st with | v :: r => some { m1 with st := r, at_ := if v = 0 then m1.at_ + a else m1.at_ } | [] => none) = some m' := hs
          rw [hst] at hs'
          have hs2 := Option.some.inj hs'
          have p1 := A1.pop hst
          obtain ⟨dx2, ho2⟩ := p1.2.1.o
          refine ⟨_, rfl, x, C_Thinking, dx1, _, _, rfl, ho1, T.cl_Thinking, T.a_Thinking_stack, rfl, .inl ⟨rfl, _, SqL.of A1.hsk⟩, sk, _, _, rfl, rfl, A1.hsk, p1.1, rfl, _, rfl, iteD (fun h => ?_) (fun h => ?_)⟩
          · rw [if_pos (V.int.inj h)] at hs2
            refine ⟨_, rfl, x, C_Thinking, dx2, _, _, rfl, ho2, T.cl_Thinking, T.a_Thinking_at, rfl, _, rfl, _, _, rfl, rfl, dx2, _, ho2, by show 10 < 1000; decide, ?_⟩
            have q := p1.2.1.setO ho2 { m1 with st := r, at_ := m1.at_ + a } (n + 1) rfl rfl rfl
            rw [hs2] at q
            rw [← hs2] at q
            refine fin _ (hs2 ▸ q.1) ((p1.2.2.mono (by simp)).trans (q.2.1.mono (by simp)))
          · rw [if_neg (fun z => h (congrArg V.int z))] at hs2
            exact fin _ (hs2 ▸ p1.2.1) (p1.2.2.mono (by simp))
      | jump a =>
        refine ⟨_, rfl, rfl, _, rfl, iteDF (nes (show ("jump" : Str) ≠ "push" by decide +kernel)) ?_⟩
        refine ⟨_, rfl, rfl, _, rfl, iteDF (nes (show ("jump" : Str) ≠ "load" by decide +kernel)) ?_⟩
        refine ⟨_, rfl, rfl, _, rfl, iteDF (nes (show ("jump" : Str) ≠ "sign" by decide +kernel)) ?_⟩
        refine ⟨_, rfl, rfl, _, rfl, iteDT rfl ?_⟩
        cases hs
        refine ⟨_, rfl, x, C_Thinking, dx1, _, _, rfl, ho1, T.cl_Thinking, T.a_Thinking_at, rfl, _, rfl, _, _, rfl, rfl, dx1, _, ho1, by show 10 < 1000; decide, ?_⟩
        have q := A1.setO ho1 { m1 with at_ := m1.at_ + a } (n + 1) rfl rfl rfl
        exact fin _ q.1 (q.2.1.mono (by simp))
      | back a =>
        refine ⟨_, rfl, rfl, _, rfl, iteDF (nes (show ("back" : Str) ≠ "push" by decide +kernel)) ?_⟩
        refine ⟨_, rfl, rfl, _, rfl, iteDF (nes (show ("back" : Str) ≠ "load" by decide +kernel)) ?_⟩
        refine ⟨_, rfl, rfl, _, rfl, iteDF (nes (show ("back" : Str) ≠ "sign" by decide +kernel)) ?_⟩
        refine ⟨_, rfl, rfl, _, rfl, iteDF (nes (show ("back" : Str) ≠ "jump" by decide +kernel)) ?_⟩
        refine ⟨_, rfl, rfl, _, rfl, iteDF (nes (show ("back" : Str) ≠ "skip" by decide +kernel)) ?_⟩
        exact ⟨_, rfl, x, dx1, _, rfl, ho1, rfl, _, rfl, _, rfl, spec trivial⟩
      | unit =>
        refine ⟨_, rfl, rfl, _, rfl, iteDF (nes (show ("unit" : Str) ≠ "push" by decide +kernel)) ?_⟩
        refine ⟨_, rfl, rfl, _, rfl, iteDF (nes (show ("unit" : Str) ≠ "load" by decide +kernel)) ?_⟩
        refine ⟨_, rfl, rfl, _, rfl, iteDF (nes (show ("unit" : Str) ≠ "sign" by decide +kernel)) ?_⟩
        refine ⟨_, rfl, rfl, _, rfl, iteDF (nes (show ("unit" : Str) ≠ "jump" by decide +kernel)) ?_⟩
        refine ⟨_, rfl, rfl, _, rfl, iteDF (nes (show ("unit" : Str) ≠ "skip" by decide +kernel)) ?_⟩
        exact ⟨_, rfl, x, dx1, _, rfl, ho1, rfl, _, rfl, _, rfl, spec trivial⟩
      | lot =>
        refine ⟨_, rfl, rfl, _, rfl, iteDF (nes (show ("lot" : Str) ≠ "push" by decide +kernel)) ?_⟩
        refine ⟨_, rfl, rfl, _, rfl, iteDF (nes (show ("lot" : Str) ≠ "load" by decide +kernel)) ?_⟩
        refine ⟨_, rfl, rfl, _, rfl, iteDF (nes (show ("lot" : Str) ≠ "sign" by decide +kernel)) ?_⟩
        refine ⟨_, rfl, rfl, _, rfl, iteDF (nes (show ("lot" : Str) ≠ "jump" by decide +kernel)) ?_⟩
        refine ⟨_, rfl, rfl, _, rfl, iteDF (nes (show ("lot" : Str) ≠ "skip" by decide +kernel)) ?_⟩
        exact ⟨_, rfl, x, dx1, _, rfl, ho1, rfl, _, rfl, _, rfl, spec trivial⟩
      | store y =>
        refine ⟨_, rfl, rfl, _, rfl, iteDF (nes (show ("store" : Str) ≠ "push" by decide +kernel)) ?_⟩
        refine ⟨_, rfl, rfl, _, rfl, iteDF (nes (show ("store" : Str) ≠ "load" by decide +kernel)) ?_⟩
        refine ⟨_, rfl, rfl, _, rfl, iteDF (nes (show ("store" : Str) ≠ "sign" by decide +kernel)) ?_⟩
        refine ⟨_, rfl, rfl, _, rfl, iteDF (nes (show ("store" : Str) ≠ "jump" by decide +kernel)) ?_⟩
        refine ⟨_, rfl, rfl, _, rfl, iteDF (nes (show ("store" : Str) ≠ "skip" by decide +kernel)) ?_⟩
        exact ⟨_, rfl, x, dx1, _, rfl, ho1, rfl, _, rfl, _, rfl, spec trivial⟩
      | fin =>
        refine ⟨_, rfl, rfl, _, rfl, iteDF (nes (show ("end" : Str) ≠ "push" by decide +kernel)) ?_⟩
        refine ⟨_, rfl, rfl, _, rfl, iteDF (nes (show ("end" : Str) ≠ "load" by decide +kernel)) ?_⟩
        refine ⟨_, rfl, rfl, _, rfl, iteDF (nes (show ("end" : Str) ≠ "sign" by decide +kernel)) ?_⟩
        refine ⟨_, rfl, rfl, _, rfl, iteDF (nes (show ("end" : Str) ≠ "jump" by decide +kernel)) ?_⟩
        refine ⟨_, rfl, rfl, _, rfl, iteDF (nes (show ("end" : Str) ≠ "skip" by decide +kernel)) ?_⟩
        exact ⟨_, rfl, x, dx1, _, rfl, ho1, rfl, _, rfl, _, rfl, spec trivial⟩
end

def mc0 (cs : List Int) (u : Int) (tk : List (Int × Int)) : MC := ⟨0, [], cs, u, false, false, tk⟩
/-- what the machine is told -/
structure MIn (K : PySem.W.Frag) (CM CT : Addr) (H : Hp) (M ca vw tp rx tx cd : Addr) (u : Int) (ns : List Str) (c : List MI) (cs : List Int) (es : List Ev) (rs : List Int) (tk : List (Int × Int)) : Prop where
  m : ∃ ca0 ks, MdA K CM H M u ca0 cd ks ns c
  ca : H ca = some (.tup (cs.map V.int))
  vw : ∃ xs, H vw = some (.tup xs) ∧ Evs H xs es
  eo : EvsOk es
  el : es.length ≤ 10000
  ta : TapeAt CT H tp rx tx rs tk
def sp_tkinit (K : PySem.W.Frag) (C CM CT : Addr) : Sp := fun vs H Q _ => ∃ (x dx M ca vw tp rx tx cd : Addr) (u : Int) (ns : List Str) (c : List MI) (cs : List Int) (es : List Ev) (rs : List Int) (tk : List (Int × Int)), vs = [.ref x, .ref M, .ref ca, .ref vw, .ref tp] ∧ H x = some (.ins C dx []) ∧ MIn K CM CT H M ca vw tp rx tx cd u ns c cs es rs tk ∧ x ≠ tp ∧ M ≠ x ∧
  ∀ tb sk sn H', H tb = none → H sk = none → KAt K C CT H' x cd tb tp rx tx sk sn ns (nums es) rs c (mc0 cs u tk) 0 → Keep [x] H H' → Q .non H'
def sp_tbc (K : PySem.W.Frag) (CM CT : Addr) : Sp := fun vs H Q _ => ∃ (M ca vw tp rx tx cd : Addr) (u : Int) (ns : List Str) (c : List MI) (cs : List Int) (es : List Ev) (rs : List Int) (tk : List (Int × Int)) (count : Int) (N : Nat) (mF : MC), vs = [.ref M, .ref ca, .ref vw, .int count, .ref tp] ∧ MIn K CM CT H M ca vw tp rx tx cd u ns c cs es rs tk ∧
  Pth ns (nums es) rs c N (mc0 cs u tk) mF ∧ mF.done = true ∧ (mF.silent = false → mF.st ≠ []) ∧
  ∀ t ct H', H t = none → H' t = some (.tup [.int (if mF.silent = true then 0 else if mF.st.headD 0 ≥ count then 0 else mF.st.headD 0), .ref ct, .int (N : Nat)]) → H' ct = some (.tup ((if mF.silent = true then cs else mF.cells).map V.int)) → TapeAt CT H' tp rx tx rs mF.tk → Keep [tx] H H' → Q (.ref t) H'
section
variable {P : Program} {w : World} {K : PySem.W.Frag} {mg : Str → Option Value} {base : Heap} {C_Tape : Addr} {C_Thinker : Addr} {C_Brain : Addr} {C_Mind : Addr} {C_Frame : Addr} {C_Thinking : Addr} {T_EVENTS : Addr} {T_SIGNS : Addr}
theorem ok_frinit {f : Addr} {fd : FuncData} (F : C8.Fun K "__init__" "Frame.__init__" s_Frame___init f fd) (T : Txt K mg C_Tape C_Thinker C_Brain C_Mind C_Frame C_Thinking T_EVENTS T_SIGNS) : FnOk P w K mg base C8.CX0 1 f fd ["self", "code", "table", "tape"] (sp_frinit C_Thinking) := by
  refine C8.fn0 F sc_Frame___init (fun vs H Q E h => ?_) (fun cdv A outer s H vs Q E hr h => ?_)
  · obtain ⟨x, dx, cd, tb, tp, rfl, _⟩ := h
    rfl
  · obtain ⟨x, dx, cd, tb, tp, rfl, hx, k⟩ := h
    refine ⟨_, (pss_cons (ps_fld (pv 0) (pv 1) rfl)
(pss_cons (ps_fld (pv 0) (pv 2) rfl)
(pss_cons (ps_fld (pv 0) (pv 3) rfl)
(pss_cons (ps_fld (pv 0) pe_int rfl)
(pss_cons (ps_fld (pv 0) (pe_lst pa_nil) rfl)
(pss_one (ps_fld (pv 0) pe_int rfl))))))), ?_⟩
    have mx : x ∈ [x] := List.mem_singleton.mpr rfl
    refine ⟨_, rfl, _, rfl, x, C_Thinking, dx, [], rfl, hx, T.cl_Thinking, T.a_Thinking_code, by show 0 < 1000; decide, ?_⟩
    refine ⟨_, rfl, _, rfl, x, C_Thinking, dx, _, rfl, upd_same, T.cl_Thinking, T.a_Thinking_table, by show 1 < 1000; decide, ?_⟩
    refine ⟨_, rfl, _, rfl, x, C_Thinking, dx, _, rfl, upd_same, T.cl_Thinking, T.a_Thinking_tape, by show 2 < 1000; decide, ?_⟩
    refine ⟨_, rfl, x, C_Thinking, dx, _, rfl, upd_same, T.cl_Thinking, T.a_Thinking_at, by show 3 < 1000; decide, ?_⟩
    rw [upd_upd, upd_upd, upd_upd]
    refine And.intro (by show 0 ≤ sizeLine; decide) <| fun sk nsk => ?_
    have nx : x ≠ sk := ne_of_none (H := upd H x _) upd_same nsk
    refine ⟨_, rfl, x, C_Thinking, dx, _, rfl, by rw [upd_ne nx]; exact upd_same, T.cl_Thinking, T.a_Thinking_stack, by show 4 < 1000; decide, ?_⟩
    refine ⟨_, rfl, x, C_Thinking, dx, _, rfl, upd_same, T.cl_Thinking, T.a_Thinking_steps, by show 5 < 1000; decide, ?_⟩
    rw [upd_upd]
    have nsk0 : H sk = none := by rw [upd_ne nx.symm] at nsk; exact nsk
    exact k sk _ nsk0 (by rw [upd_ne nx.symm]; exact upd_same) upd_same (((Keep.at_ mx).then_own nsk0).then_at mx)
theorem ok_tkinit {f f0 : Addr} {fd fd0 : FuncData} (M : Mk K C_Thinking f) (F : FunS P K "Thinking.__init__" s_Thinking___init f fd C_Thinking) (b : Binds K fd ["self", "mind", "cells", "view", "tape"] []) (U : SupOk P K mg C_Thinking f0) (F0 : FnOk P w K mg base C8.CX0 1 f0 fd0 ["self", "code", "table", "tape"] (sp_frinit C_Thinking)) (b0 : Binds K fd0 ["self", "code", "table", "tape"] []) (T : Txt K mg C_Tape C_Thinker C_Brain C_Mind C_Frame C_Thinking T_EVENTS T_SIGNS)
    (c_view_numbers : C8.Cal P w K mg base 1 "view_numbers" sp_views []) : C8.Mak P w K mg base 2 "Thinking" C_Thinking (sp_tkinit K C_Thinking C_Mind C_Tape) [] := by
  refine ⟨f, fd, ["self", "mind", "cells", "view", "tape"], [], M, ?_, T.m_Thinking, b, .nil⟩
  refine fn_super (k := 1) F sc_Thinking___init (fun vs H Q E h => ?_) U F0 b0 .nil (Nat.le_refl 1) rfl rfl rfl (by decide +kernel) (by decide +kernel) (fun _ => rfl) (fun _ => rfl) (fun _ => rfl) (fun cdv cc A outer s H vs Q E hr h => ?_)
  · obtain ⟨x, dx, M, ca, vw, tp, rx, tx, cd, u, ns, c, cs, es, rs, tk, rfl, _⟩ := h
    rfl
  · obtain ⟨x, dx, M, ca, vw, tp, rx, tx, cd, u, ns, c, cs, es, rs, tk, rfl, hx, hI, nxt, nMx, k⟩ := h
    refine ⟨_, _, x, dx, [], _, rfl, hx, (pa_cons (pe_fld (pv 1) rfl) (pa_cons (pe_callTy call_list_of (by rfl) T.n_list bo_list (pa_cons (pv 2) pa_nil)) (pa_cons (pv 4) pa_nil))), (pss_cons (ps_fld (pv 0) (pe_fld (pv 1) rfl) rfl)
(pss_cons (ps_fld (pv 0) (pe_c c_view_numbers hr (by first | exact Nat.le_refl _ | decide | omega) rfl (pa_cons (pv 3) pa_nil)) rfl)
(pss_cons (ps_fld (pv 0) pe_bl rfl)
(pss_one (ps_fld (pv 0) pe_bl rfl))))), fun q nq => ?_⟩
    obtain ⟨ca0, ks, ⟨dM, oM⟩, hca0, ws, hcd, hml⟩ := id hI.m
    obtain ⟨xs, hvw, hE⟩ := hI.vw
    have kq : Keep [] H (upd H q (.met f0 x)) := Keep.new nq
    refine ⟨_, rfl, M, C_Mind, dM, _, _, rfl, kq _ _ oM (by simp), T.cl_Mind, T.a_Mind_code, rfl, _, rfl, _, _, rfl, .inr (SqT.of (kq _ _ hI.ca (by simp))), fun tb ntb => ⟨_, rfl, ?_⟩⟩
    have k1 : Keep [] H (upd (upd H q (.met f0 x)) tb (.lst (cs.map V.int))) := kq.then_new ntb
    have hq1 : upd (upd H q (.met f0 x)) tb (.lst (cs.map V.int)) q = some (.met f0 x) := Keep.new (W := []) ntb _ _ upd_same (by simp)
    refine ⟨hq1, x, dx, cd, tb, tp, rfl, k1 _ _ hx (by simp), fun sk H2 nsk hsk hx2 K2 => ?_⟩
    have ntb0 : H tb = none := kq.free ntb
    have nsk0 : H sk = none := k1.free nsk
    have htb2 : H2 tb = some (.lst (cs.map V.int)) := K2 _ _ upd_same (by have := ne_of_none hx ntb0; simpa using this.symm)
    have ntk : tb ≠ sk := ne_of_none (H := upd (upd H q (.met f0 x)) tb (.lst (cs.map V.int))) upd_same nsk
    have K02 : Keep [x] H H2 := (k1.mono (by simp)).trans K2
    have tk02 : TK H H2 := fun b zs e => K02 _ _ e (by have := ne_of e hx (by intro z; cases z); simpa using this)
    have mx : x ∈ [x] := List.mem_singleton.mpr rfl
    have oM2 := K02 _ _ oM (by simpa using nMx)
    refine ⟨_, rfl, M, C_Mind, dM, _, _, rfl, oM2, T.cl_Mind, T.a_Mind_units, rfl, _, rfl, x, C_Thinking, dx, _, rfl, hx2, T.cl_Thinking, T.a_Thinking_left, by show 6 < 1000; decide, ?_⟩
    generalize hH3 : upd H2 x _ = H3
    have hx3 : H3 x = some (.ins C_Thinking dx [("code", .ref cd), ("table", .ref tb), ("tape", .ref tp), ("at", .int 0), ("stack", .ref sk), ("steps", .int 0), ("left", .int u)]) := by rw [← hH3]; exact upd_same
    have K23 : Keep [x] H2 H3 := by rw [← hH3]; exact Keep.at_ mx
    have K03 := K02.trans K23
    have tk03 : TK H H3 := fun b zs e => K03 _ _ e (by have := ne_of e hx (by intro z; cases z); simpa using this)
    refine ⟨_, rfl, vw, xs, es, rfl, tk03 _ _ hvw, hE.tk tk03, hI.eo, hI.el, fun sn H4 nsn hsn K4 => ⟨_, rfl, x, C_Thinking, dx, _, rfl, K4 _ _ hx3 (by simp), T.cl_Thinking, T.a_Thinking_seen, by show 7 < 1000; decide, ?_⟩⟩
    refine ⟨_, rfl, x, C_Thinking, dx, _, rfl, upd_same, T.cl_Thinking, T.a_Thinking_silent, by show 8 < 1000; decide, ?_⟩
    refine ⟨_, rfl, x, C_Thinking, dx, _, rfl, upd_same, T.cl_Thinking, T.a_Thinking_done, by show 9 < 1000; decide, ?_⟩
    rw [upd_upd, upd_upd]
    have K04 := K03.trans (K4.mono (by simp))
    have ex : ∀ {a : Addr} {o : HO}, H4 a = some o → (∀ d gs, o ≠ .ins C_Thinking d gs) → ∀ u, upd H4 x u a = some o := fun h1 h2 u => by
      rw [upd_ne (fun z => by rw [z, K4 _ _ hx3 (by simp)] at h1; exact h2 _ _ (Option.some.inj h1).symm)]; exact h1
    have htb4 := K4 _ _ (K23 _ _ htb2 (by have := ne_of_none hx ntb0; simpa using this.symm)) (by simp)
    have hsk4 := K4 _ _ (K23 _ _ hsk (by have := ne_of_none hx nsk0; simpa using this.symm)) (by simp)
    generalize hH5 : upd H4 x _ = H5
    have K45 : Keep [x] H4 H5 := by rw [← hH5]; exact Keep.at_ mx
    have K05 := K04.trans K45
    have tk05 : TK H H5 := fun b zs e => K05 _ _ e (by have := ne_of e hx (by intro z; cases z); simpa using this)
    have tk45 : TK H4 H5 := fun b zs e => by rw [← hH5]; exact ex e (by intro _ _ z; cases z) _
    obtain ⟨ys, ty, _⟩ := hI.ta.t
    obtain ⟨dt, ot⟩ := hI.ta.o
    refine k tb sk sn _ ntb0 nsk0 ⟨⟨dx, by rw [← hH5]; exact upd_same⟩, ⟨ws, tk05 _ _ hcd, hml.tk tk05⟩, ?_, ?_, tk45 _ _ hsn, ?_, ntk, ?_, ?_, ?_, ?_, nxt⟩ K05
    · rw [← hH5]; exact ex htb4 (by intro _ _ z; cases z) _
    · rw [← hH5]; exact ex hsk4 (by intro _ _ z; cases z) _
    · refine hI.ta.keep K05 tk05 (by simpa using nxt.symm) ?_ ?_
      · have := ne_of hI.ta.r hx (by intro z; cases z); simpa using this
      · have := ne_of ty hx (by intro z; cases z); simpa using this
    · exact (ne_of_none hI.ta.r ntb0).symm
    · exact (ne_of_none ty ntb0).symm
    · exact (ne_of_none hI.ta.r nsk0).symm
    · exact (ne_of_none ty nsk0).symm
theorem ok_tbc {f : Addr} {fd : FuncData} (D : C8.Def K mg "think_by_code" s_think_by_code f fd) (b : Binds K fd ["mind", "cells", "view", "count", "tape"] []) (T : Txt K mg C_Tape C_Thinker C_Brain C_Mind C_Frame C_Thinking T_EVENTS T_SIGNS) (c_Thinking : C8.Mak P w K mg base 2 "Thinking" C_Thinking (sp_tkinit K C_Thinking C_Mind C_Tape) []) (c_Thinking_advance : C8.Met P w K mg base 3 C_Thinking "advance" (sp_adv K C_Thinking C_Tape) []) : C8.Cal P w K mg base 4 "think_by_code" (sp_tbc K C_Mind C_Tape) [] := by
  refine cal0 D b .nil sc_think_by_code (fun vs H Q E h => ?_) (fun cdv A outer s H vs Q E hr h => ?_)
  · obtain ⟨M, ca, vw, tp, rx, tx, cd, u, ns, c, cs, es, rs, tk, count, N, mF, rfl, _⟩ := h
    rfl
  · obtain ⟨M, ca, vw, tp, rx, tx, cd, u, ns, c, cs, es, rs, tk, count, N, mF, rfl, hI, hP, hdone, hne, k⟩ := h
    refine ⟨_, (pss_cons (ps_set (i := 5) sc_think_by_code.nd rfl (by first | exact Or.inl rfl | exact Or.inr rfl) (pe_mk c_Thinking hr (by first | exact Nat.le_refl _ | decide | omega) rfl (pa_cons (pv 0) (pa_cons (pv 1) (pa_cons (pv 2) (pa_cons (pv 4) pa_nil))))))
(pss_cons (ps_while PassesOwn.never (pt_not (pt_truth (pe_fld (pv 5) rfl) (by intro _; rfl)))
  (pss_one (ps_expr (pe_mt0 c_Thinking_advance hr (by first | exact Nat.le_refl _ | decide | omega) (pv 5)))))
(pss_cons (ps_if (pt_truth (pe_fld (pv 5) rfl) (by intro _; rfl))
  (pss_one (ps_ret (pe_tup (pa_cons pe_int (pa_cons (pe_callTy call_tuple_of (by rfl) T.n_tuple bo_tuple (pa_cons (pv 1) pa_nil)) (pa_cons (pe_fld (pv 5) rfl) pa_nil))))))
  pss_nil)
(pss_cons (ps_set (i := 6) sc_think_by_code.nd rfl (by first | exact Or.inl rfl | exact Or.inr rfl) (pe_bm0 PySem.F.plainAttrs_list PySem.F.slot_list_pop PySem.F.type_list_pop mt_pop (pe_fld (pv 5) rfl)))
(pss_cons (ps_if (pt_cmpR op_ge (pv 6) (pv 3) (nomark _))
  (pss_one (ps_set (i := 6) sc_think_by_code.nd rfl (by first | exact Or.inl rfl | exact Or.inr rfl) pe_int))
  pss_nil)
(pss_one (ps_ret (pe_tup (pa_cons (pv 6) (pa_cons (pe_callTy call_tuple_of (by rfl) T.n_tuple bo_tuple (pa_cons (pe_fld (pv 5) rfl) pa_nil)) (pa_cons (pe_fld (pv 5) rfl) pa_nil))))))))))), ?_⟩
    obtain ⟨ca0, ks, ⟨dM, oM⟩, hca0, ws, hcd, hml⟩ := id hI.m
    obtain ⟨xs, hvw, hE⟩ := id hI.vw
    obtain ⟨dt, ot⟩ := hI.ta.o
    obtain ⟨ys, ty, _⟩ := id hI.ta.t
    refine ⟨_, rfl, _, rfl, _, rfl, _, rfl, fun x dx nx nd ne => ?_⟩
    have km : Keep [] H (upd (upd H dx (.own x)) x (.ins C_Thinking dx [])) := Keep.made nx nd
    refine ⟨x, dx, M, ca, vw, tp, rx, tx, cd, u, ns, c, cs, es, rs, tk, rfl, upd_same, ⟨⟨ca0, ks, ⟨dM, km _ _ oM (by simp)⟩, km _ _ hca0 (by simp), ws, km _ _ hcd (by simp), hml.tk km.tk⟩, km _ _ hI.ca (by simp), ⟨xs, km _ _ hvw (by simp), hE.tk km.tk⟩, hI.eo, hI.el, hI.ta.keep km km.tk (by simp) (by simp) (by simp)⟩, (ne_of_none ot nx).symm, ne_of_none oM nx, fun tb sk sn H1 ntb nsk A1 K1 => ⟨rfl, ?_⟩⟩
    have k01 : Keep [] H H1 := keep_made nx nd K1
    have ntb0 := km.free ntb
    have nsk0 := km.free nsk
    have lose : ∀ {H2 : Hp}, Keep [x, tb, sk, tx] H1 H2 → Keep [tx] H H2 := fun K2 a o h w => K2 _ _ (k01 _ _ h (by simp)) (by
      have h1 := ne_of_none h nx
      have h2 := ne_of_none h ntb0
      have h3 := ne_of_none h nsk0
      have h4 : a ≠ tx := by simpa using w
      simp [h1, h2, h3, h4])
    refine ⟨fun n σ H' => ∃ (m : MC) (j : Nat), σ = [some (.ref M), some (.ref ca), some (.ref vw), some (.int count), some (.ref tp), some (.ref x), none] ∧ KAt K C_Thinking C_Tape H' x cd tb tp rx tx sk sn ns (nums es) rs c m j ∧ Pth ns (nums es) rs c n m mF ∧ j + n = N ∧ Keep [x, tb, sk, tx] H1 H', ⟨N, _, 0, rfl, A1, hP, by omega, Keep.refl _ _⟩, ?_⟩
    rintro n σ H2 ⟨m, j, rfl, A2, P2, hj, K2⟩
    obtain ⟨dx2, ho2⟩ := A2.o
    cases P2 with
    | step hd hs P3 =>
      refine ⟨_, rfl, x, C_Thinking, dx2, _, _, rfl, ho2, T.cl_Thinking, T.a_Thinking_done, rfl, false, hd.symm, iteT ⟨_, fun _ _ z => z, ?_⟩⟩
      exact ⟨_, rfl, x, dx2, _, rfl, ho2, rfl, x, cd, tb, tp, rx, tx, sk, sn, ns, nums es, rs, c, m, _, j, rfl, A2, hs, fun H3 A3 K3 => ⟨_, Nat.lt_succ_self _, _, j + 1, rfl, A3, P3, by omega, K2.trans K3⟩⟩
    | refl _ =>
      refine ⟨_, rfl, x, C_Thinking, dx2, _, _, rfl, ho2, T.cl_Thinking, T.a_Thinking_done, rfl, true, hdone.symm, iteF ?_⟩
      have ej : j = N := hj
      subst ej
      have kx := lose K2
      have hca2 := kx _ _ hI.ca (by have := ne_of hI.ca ty (by intro z; cases z); simpa using this)
      cases hsi : mF.silent with
      | true =>
        refine ⟨_, rfl, x, C_Thinking, dx2, _, _, rfl, ho2, T.cl_Thinking, T.a_Thinking_silent, rfl, true, hsi.symm, iteT ?_⟩
        refine ⟨_, rfl, _, _, rfl, .inr ⟨SqT.of hca2, _, rfl, x, C_Thinking, dx2, _, _, rfl, ho2, T.cl_Thinking, T.a_Thinking_steps, rfl, by show 3 ≤ sizeLine; decide, fun t nt => ?_⟩⟩
        have kt : Keep [] H2 (upd H2 t (.tup [.int 0, .ref ca, .int (j : Nat)])) := Keep.new nt
        rw [hsi] at k
        obtain ⟨ws2, w1, _⟩ := id A2.hta.t
        exact k t ca _ (kx.free1 w1 nt) upd_same (kt _ _ hca2 (by simp)) (A2.hta.keep kt kt.tk (by simp) (by simp) (by simp)) (kx.trans (kt.mono (by simp)))
      | false =>
        rw [hsi] at k
        refine ⟨_, rfl, x, C_Thinking, dx2, _, _, rfl, ho2, T.cl_Thinking, T.a_Thinking_silent, rfl, false, hsi.symm, iteF ?_⟩
        obtain ⟨v, r, hst⟩ : ∃ v r, mF.st = v :: r := by
          cases e : mF.st with
          | nil => exact absurd e (hne hsi)
          | cons v r => exact ⟨v, r, rfl⟩
        have p1 := A2.pop hst
        rw [hst] at k
        refine ⟨_, rfl, x, C_Thinking, dx2, _, _, rfl, ho2, T.cl_Thinking, T.a_Thinking_stack, rfl, .inl ⟨rfl, _, SqL.of A2.hsk⟩, sk, _, _, rfl, rfl, A2.hsk, p1.1, ?_⟩
        have K3 : Keep [x, tb, sk, tx] H1 (upd H2 sk (.lst (mF.st.reverse.map V.int).dropLast)) := K2.trans (p1.2.2.mono (by simp))
        have A3 := p1.2.1
        generalize upd H2 sk (.lst (mF.st.reverse.map V.int).dropLast) = H3 at *
        have kx3 := lose K3
        obtain ⟨dx3, ho3⟩ := A3.o
        obtain ⟨ws2, w1, _⟩ := id A3.hta.t
        have fin : ∀ (z : Int), z = (if v ≥ count then 0 else v) → ∀ l, H3 l = none → ∀ t, upd H3 l (.tup (mF.cells.map V.int)) t = none → Q (.ref t) (upd (upd H3 l (.tup (mF.cells.map V.int))) t (.tup [.int z, .ref l, .int (j : Nat)])) := by
          intro z hz l nl t nt
          have k6 : Keep [] H3 (upd H3 l (.tup (mF.cells.map V.int))) := Keep.new nl
          have k7 := k6.then_new (o := .tup [.int z, .ref l, .int (j : Nat)]) nt
          subst hz
          exact k t l _ (kx3.free1 w1 (k6.free nt)) upd_same (Keep.new (W := []) nt _ _ upd_same (by simp)) (A3.hta.keep k7 k7.tk (by simp) (by simp) (by simp)) (kx3.trans (k7.mono (by simp)))
        refine ⟨_, rfl, _, rfl, _, _, rfl, rfl, _, rfl, iteD (fun h => ?_) (fun h => ?_)⟩
        · have h' : v ≥ count := h
          refine ⟨_, rfl, _, rfl, x, C_Thinking, dx3, _, _, rfl, ho3, T.cl_Thinking, T.a_Thinking_table, rfl, _, _, rfl, .inl ⟨SqL.of A3.htb, fun l nl => ?_⟩⟩
          refine ⟨_, rfl, x, C_Thinking, dx3, _, _, rfl, Keep.new (W := []) nl _ _ ho3 (by simp), T.cl_Thinking, T.a_Thinking_steps, rfl, by show 3 ≤ sizeLine; decide, fun t nt => ?_⟩
          exact fin 0 (by rw [if_pos h']) l nl t nt
        · have h' : ¬ v ≥ count := h
          refine ⟨_, rfl, _, rfl, x, C_Thinking, dx3, _, _, rfl, ho3, T.cl_Thinking, T.a_Thinking_table, rfl, _, _, rfl, .inl ⟨SqL.of A3.htb, fun l nl => ?_⟩⟩
          refine ⟨_, rfl, x, C_Thinking, dx3, _, _, rfl, Keep.new (W := []) nl _ _ ho3 (by simp), T.cl_Thinking, T.a_Thinking_steps, rfl, by show 3 ≤ sizeLine; decide, fun t nt => ?_⟩
          exact fin v (by rw [if_neg h']) l nl t nt
end

/-! what a code does is what its statements do -/
section
variable {ns : List Str} {seen rs : List Int} {c : List MI}
theorem Pth.trans {n k : Nat} {a b r : MC} (h : Pth ns seen rs c n a b) (g : Pth ns seen rs c k b r) : Pth ns seen rs c (n + k) a r := by
  induction h with
  | refl m => rw [Nat.zero_add]; exact g
  | @step n m m' r' hd hs _ ih =>
    rw [show n + 1 + k = (n + k) + 1 by omega]
    exact .step hd hs (ih g)
/-- the machine at p, with the stack R, in the state s of the brain -/
def mcA (ns : List Str) (p : Nat) (R : List Int) (s : MS) : MC := ⟨p, R, ns.map s.tb, s.left, false, false, s.tk⟩
theorem Pth.one {i : MI} {p : Nat} {R : List Int} {s : MS} {m' : MC} (hi : c[p]? = some i) (hR : R.length ≤ 100000) (he : exec ns seen rs i (mcA ns (p + 1) R s) = some m') : Pth ns seen rs c 1 (mcA ns p R s) m' := by
  refine .step rfl ?_ (.refl _)
  unfold stepM
  show (if R.length ≤ 100000 then (c[p]?).bind _ else none) = _
  rw [if_pos hR, hi]
  exact he
theorem map_getD {tb : Str → Int} {x : Str} (h : x ∈ ns) : (ns.map tb).getD (idx ns x) 0 = tb x := by
  rw [List.getD_eq_getElem?_getD, List.getElem?_map, (idx_get h).1]; rfl
theorem exec_step {p : Nat} {R R' : List Int} {s : MS} {i : Ins} (hs : seen.length ≤ 60000) (hi : i.Ok ns) (hR : InR R) (h : step s.tb seen i R = some R') : exec ns seen rs (.e i) (mcA ns p R s) = some (mcA ns p R' s) := by
  cases i with
  | push n => cases h; rfl
  | load x =>
    cases h
    show (if x ∈ ns ∧ (ns.map s.tb).length = ns.length then some _ else none) = _
    rw [if_pos ⟨hi, List.length_map _⟩]
    show some (MC.mk p ((ns.map s.tb).getD (idx ns x) 0 :: R) _ _ _ _ _) = _
    rw [map_getD hi]; rfl
  | long =>
    cases h
    show some (MC.mk p ((if (65535 : Int) < (seen.length : Int) then 65535 else (seen.length : Int)) :: R) _ _ _ _ _) = _
    rw [if_neg (by omega)]; rfl
  | view =>
    cases R with
    | nil => cases h
    | cons a r =>
      cases h
      show (if 0 ≤ a then some _ else none) = _
      rw [if_pos (hR a (List.mem_cons_self ..)).1]; rfl
  | sign z =>
    cases R with
    | nil => cases h
    | cons b r0 =>
      cases r0 with
      | nil => cases h
      | cons a r =>
        cases h
        have h1 := hR b (List.mem_cons_self ..)
        have h2 := hR a (List.mem_cons_of_mem _ (List.mem_cons_self ..))
        show (if z ∈ sgL ∧ 0 ≤ a ∧ a < 65536 ∧ 0 ≤ b ∧ b < 65536 then some _ else none) = _
        rw [if_pos ⟨hi, h2.1, h2.2, h1.1, h1.2⟩]; rfl
theorem at_app {pre post : List MI} {i : MI} (hc : c = pre ++ (i :: post)) : c[pre.length]? = some i := by
  rw [hc, List.getElem?_append_right (Nat.le_refl _), Nat.sub_self]; rfl
theorem ins_path {s : MS} (ht : TbOk ns s.tb) (hsk : SeenOk seen) (hs : seen.length ≤ 60000) : ∀ (l : List Ins) (pre post : List MI) (R R' : List Int), runI s.tb seen l R = some R' → (∀ i ∈ l, i.Ok ns) → InR R → R.length + l.length ≤ 100000 → c = pre ++ (l.map MI.e ++ post) →
    Pth ns seen rs c l.length (mcA ns pre.length R s) (mcA ns (pre.length + l.length) R' s)
  | [], pre, post, R, R', h, _, _, _, _ => by cases h; exact .refl _
  | i :: l, pre, post, R, R', h, ok, hR, hl, hc => by
    have h' : (step s.tb seen i R).bind (runI s.tb seen l) = some R' := h
    cases e : step s.tb seen i R with
    | none => rw [e] at h'; cases h'
    | some R1 =>
      rw [e] at h'
      have oki := ok i (List.mem_cons_self ..)
      have hR1 := step_range ht hsk (by omega) oki hR e
      have len1 : R1.length ≤ R.length + 1 := by
        cases i with
        | push n => cases e; exact Nat.le_refl _
        | load x => cases e; exact Nat.le_refl _
        | long => cases e; exact Nat.le_refl _
        | view =>
          cases R with
          | nil => cases e
          | cons a r => cases e; exact Nat.le_succ _
        | sign z =>
          cases R with
          | nil => cases e
          | cons b r0 =>
            cases r0 with
            | nil => cases e
            | cons a r => cases e; simp
      rw [List.length_cons] at hl
      have p1 : Pth ns seen rs c 1 (mcA ns pre.length R s) (mcA ns (pre.length + 1) R1 s) := Pth.one (i := .e i) (at_app (post := l.map MI.e ++ post) (by rw [hc]; rfl)) (by omega) (exec_step hs oki hR e)
      have p2 := ins_path (s := s) ht hsk hs l (pre ++ [.e i]) post R1 R' h' (fun j hj => ok j (List.mem_cons_of_mem _ hj)) hR1 (by omega) (by rw [hc]; simp)
      rw [List.length_append, List.length_singleton] at p2
      have := p1.trans p2
      rw [List.length_cons, show l.length + 1 = 1 + l.length by omega, ← Nat.add_assoc]
      exact this
theorem ex_path {s : MS} (hk : MOk ns s) (hsk : SeenOk seen) (hs : seen.length ≤ 60000) {e : Ex} (he : ExOk ns e) {pre post : List MI} {R : List Int} (hR : InR R) (hl : R.length ≤ 1000) (hc : c = pre ++ (ec e ++ post)) :
    Pth ns seen rs c (ec e).length (mcA ns pre.length R s) (mcA ns (pre.length + (ec e).length) (s.ev seen e :: R) s) := by
  have h := ins_path (rs := rs) (c := c) (s := s) hk.t hsk hs (code offs e) pre post R _ (run_code (by omega) e R) (code_ok offs e he.1) hR (by have := code_small offs (e := e) (by have := he.2; omega); omega) hc
  unfold ec
  rw [List.length_map]
  exact h
/-- from m0 the machine comes to what b says, at p -/
def Gs (ns : List Str) (seen rs : List Int) (c : List MI) (m0 : MC) (b : Bool × MS) (p : Nat) : Prop :=
  (b.1 = true → ∃ n, Pth ns seen rs c n m0 (mcA ns p [] b.2)) ∧ (b.1 = false → ∃ n m', Pth ns seen rs c n m0 m' ∧ m'.done = true ∧ m'.silent = true ∧ m'.tk = b.2.tk)
theorem Gs.pre {n : Nat} {m0 m1 : MC} {b : Bool × MS} {p : Nat} (h : Pth ns seen rs c n m0 m1) (g : Gs ns seen rs c m1 b p) : Gs ns seen rs c m0 b p :=
  ⟨fun e => let ⟨k, q⟩ := g.1 e; ⟨_, h.trans q⟩, fun e => let ⟨k, m', q, r⟩ := g.2 e; ⟨_, m', h.trans q, r⟩⟩
theorem Gs.post {m0 : MC} {b : Bool × MS} {p p' : Nat} (g : Gs ns seen rs c m0 b p) (h : ∀ s, ∃ n, Pth ns seen rs c n (mcA ns p [] s) (mcA ns p' [] s)) : Gs ns seen rs c m0 b p' :=
  ⟨fun e => let ⟨k, q⟩ := g.1 e; let ⟨k', q'⟩ := h b.2; ⟨_, q.trans q'⟩, g.2⟩
theorem Gs.bind {m0 : MC} {b d : Bool × MS} {p p' : Nat} (g : Gs ns seen rs c m0 b p) (h : b.1 = true → Gs ns seen rs c (mcA ns p [] b.2) d p') (hf : b.1 = false → d = b) : Gs ns seen rs c m0 d p' := by
  cases hb : b.1 with
  | true =>
    obtain ⟨n, q⟩ := g.1 hb
    exact (h hb).pre q
  | false =>
    rw [hf hb]
    exact ⟨(fun e => by rw [hb] at e; cases e), g.2⟩
/-- the first unit of a statement -/
theorem unit_gs {s : MS} {p p' : Nat} {d : Bool × MS} (hi : c[p]? = some .unit) (hz : s.left = 0 → d = (false, s)) (hn : s.left ≠ 0 → Gs ns seen rs c (mcA ns (p + 1) [] { s with left := s.left - 1 }) d p') : Gs ns seen rs c (mcA ns p [] s) d p' := by
  by_cases z : s.left = 0
  · rw [hz z]
    refine ⟨(fun e => by cases e), fun _ => ?_⟩
    refine ⟨1, ⟨p + 1, [], ns.map s.tb, s.left - 1, true, true, s.tk⟩, Pth.one hi (Nat.zero_le _) ?_, rfl, rfl, rfl⟩
    show some (MC.mk (p + 1) [] (ns.map s.tb) (s.left - 1) (decide (V.int s.left = V.int 0)) (decide (V.int s.left = V.int 0)) s.tk) = _
    rw [z, decide_eq_true rfl]
  · refine (hn z).pre (n := 1) (Pth.one hi (Nat.zero_le _) ?_)
    show some (MC.mk (p + 1) [] (ns.map s.tb) (s.left - 1) (decide (V.int s.left = V.int 0)) (decide (V.int s.left = V.int 0)) s.tk) = _
    rw [decide_eq_false (fun h => z (V.int.inj h))]; rfl
theorem map_set {tb : Str → Int} {x : Str} {v : Int} (nd : ns.Nodup) (h : x ∈ ns) : (ns.map tb).set (idx ns x) v = ns.map fun y => if y = x then v else tb y := by
  refine List.ext_getElem? fun j => ?_
  rw [List.getElem?_set, List.getElem?_map, List.getElem?_map]
  have hx := (idx_get h).1
  by_cases e : idx ns x = j
  · subst e
    rw [if_pos rfl, if_pos (by rw [List.length_map]; exact idx_lt h), hx]
    show some v = some (if x = x then v else tb x)
    rw [if_pos rfl]
  · rw [if_neg e]
    cases q : ns[j]? with
    | none => rfl
    | some y =>
      have ne : y ≠ x := fun z => e (by
        subst z
        obtain ⟨h1, h2⟩ := List.getElem?_eq_some_iff.mp hx
        obtain ⟨h3, h4⟩ := List.getElem?_eq_some_iff.mp q
        exact (List.getElem_inj nd).mp (h2.trans h4.symm))
      show some (tb y) = some (if y = x then v else tb y)
      rw [if_neg ne]
theorem store_path {s : MS} {p : Nat} {x : Str} {v : Int} (nd : ns.Nodup) (hx : x ∈ ns) (hi : c[p]? = some (.store x)) : Pth ns seen rs c 1 (mcA ns p [v] s) (mcA ns (p + 1) [] (s.put x v)) := by
  refine Pth.one hi (by simp) ?_
  show (if x ∈ ns ∧ (ns.map s.tb).length = ns.length then some _ else none) = _
  rw [if_pos ⟨hx, List.length_map _⟩]
  show some (MC.mk (p + 1) [] ((ns.map s.tb).set (idx ns x) v) s.left false false s.tk) = _
  rw [map_set nd hx]; rfl
theorem skip_path {s : MS} {p n : Nat} {v : Int} (hi : c[p]? = some (.skip n)) : Pth ns seen rs c 1 (mcA ns p [v] s) (mcA ns (if v = 0 then p + 1 + n else p + 1) [] s) := by
  exact Pth.one hi (by simp) rfl
theorem cB_nil : ∀ {b : Bl}, cB b = [] → b = .nil
  | .nil, _ => rfl
  | .cons t b, h => by
    have h' : cT t ++ cB b = [] := h
    cases t <;> cases h'
theorem getR {pre post : List MI} {i : MI} {n : Nat} (hc : c = pre ++ (i :: post)) (hn : n = pre.length) : c[n]? = some i := by
  subst hn; exact at_app hc
theorem loop_gs {t : Ex} {b : Bl} {pre post : List MI} (hsk : SeenOk seen) (hs : seen.length ≤ 60000) (ht : ExOk ns t) (bok : b.Ok ns) (hc : c = pre ++ (cT (.whl t b) ++ post))
    (hb : ∀ s, MOk ns s → s.left.toNat + s.tk.length ≤ 90000 → Gs ns seen rs c (mcA ns (pre.length + 1 + (ec t).length + 1) [] s) (runB seen rs b s) (pre.length + 1 + (ec t).length + 1 + (cB b).length)) :
    ∀ (n : Nat) (s : MS), s.left.toNat < n → MOk ns s → s.left.toNat + s.tk.length ≤ 90000 → Gs ns seen rs c (mcA ns (pre.length + 1) [] s) (loopM (fun s => decide (s.ev seen t ≠ 0)) (fun s => runB seen rs b s) n s) (pre.length + (cT (.whl t b)).length)
  | 0, s, h, _, _ => absurd h (Nat.not_lt_zero _)
  | n + 1, s, h, hm, hbd => by
    have lt : (cT (.whl t b)).length = (ec t).length + (cB b).length + 3 := by
      show (MI.unit :: (ec t ++ (.skip ((cB b).length + 1) :: (cB b ++ [.back ((ec t).length + (cB b).length + 2)])))).length = _
      simp; omega
    have hc1 : c = (pre ++ [.unit]) ++ (ec t ++ (.skip ((cB b).length + 1) :: (cB b ++ (.back ((ec t).length + (cB b).length + 2) :: post)))) := by
      rw [hc]
      show pre ++ ((MI.unit :: (ec t ++ (.skip ((cB b).length + 1) :: (cB b ++ [.back ((ec t).length + (cB b).length + 2)])))) ++ post) = _
      simp
    have p1 := ex_path (rs := rs) (R := []) hm hsk hs ht (fun x hx => by cases hx) (Nat.zero_le _) hc1
    rw [List.length_append, List.length_singleton] at p1
    have hsk1 : c[pre.length + 1 + (ec t).length]? = some (.skip ((cB b).length + 1)) := getR (pre := (pre ++ [.unit]) ++ ec t) (post := cB b ++ (.back ((ec t).length + (cB b).length + 2) :: post)) (by rw [hc1]; simp) (by simp; omega)
    have p2 := p1.trans (skip_path (rs := rs) (ns := ns) (seen := seen) (s := s) (v := s.ev seen t) hsk1)
    refine Gs.pre p2 ?_
    unfold loopM
    by_cases z : s.ev seen t = 0
    · rw [if_pos z, if_pos (decide_eq_false (not_not_intro z)), lt]
      exact ⟨fun _ => ⟨0, by rw [show pre.length + ((ec t).length + (cB b).length + 3) = pre.length + 1 + (ec t).length + 1 + ((cB b).length + 1) by omega]; exact .refl _⟩, fun e => by cases e⟩
    · rw [if_neg z, if_neg (by simpa using z)]
      have mv := runB_mv (rs := rs) hsk b bok s hm
      have mvk := mv.k
      refine (hb s hm hbd).bind (fun e1 => ?_) (fun e1 => by rw [if_pos e1]; exact Prod.ext e1.symm rfl)
      rw [if_neg (by rw [e1]; decide)]
      generalize (runB seen rs b s).2 = s2 at *
      have hbk : c[pre.length + 1 + (ec t).length + 1 + (cB b).length]? = some (.back ((ec t).length + (cB b).length + 2)) := getR (pre := (pre ++ [.unit]) ++ (ec t ++ (.skip ((cB b).length + 1) :: cB b))) (post := post) (by rw [hc1]; simp) (by simp; omega)
      have p3 : Pth ns seen rs c 1 (mcA ns (pre.length + 1 + (ec t).length + 1 + (cB b).length) [] s2) (mcA ns pre.length [] s2) := by
        refine Pth.one hbk (Nat.zero_le _) ?_
        show (if (ec t).length + (cB b).length + 2 + 1 ≤ pre.length + 1 + (ec t).length + 1 + (cB b).length + 1 then some _ else none) = _
        rw [if_pos (by omega)]
        show some (MC.mk (pre.length + 1 + (ec t).length + 1 + (cB b).length + 1 - 1 - ((ec t).length + (cB b).length + 2)) _ _ _ _ _ _) = _
        rw [show pre.length + 1 + (ec t).length + 1 + (cB b).length + 1 - 1 - ((ec t).length + (cB b).length + 2) = pre.length by omega]; rfl
      refine Gs.pre p3 ?_
      refine unit_gs (at_app (post := (ec t ++ (.skip ((cB b).length + 1) :: (cB b ++ (.back ((ec t).length + (cB b).length + 2) :: post))))) (by rw [hc1]; simp)) (fun e2 => by rw [if_pos e2]) (fun e2 => ?_)
      rw [if_neg e2]
      have hl2 := mv.ok.l
      have hl3 := mv.l
      exact loop_gs hsk hs ht bok hc hb n { s2 with left := s2.left - 1 } (by show (s2.left - 1).toNat < n; have := hm.l; omega) (mv.ok.dec e2) (by show (s2.left - 1).toNat + s2.tk.length ≤ 90000; omega)
theorem app2 (a b d : List MI) : (a ++ b) ++ d = a ++ (b ++ d) := List.append_assoc a b d
mutual
theorem gT (nd : ns.Nodup) (hsk : SeenOk seen) (hs : seen.length ≤ 60000) : ∀ (t : Th), t.Ok ns → ∀ (pre post : List MI), c = pre ++ (cT t ++ post) → ∀ s, MOk ns s → s.left.toNat + s.tk.length ≤ 90000 → Gs ns seen rs c (mcA ns (pre.length + 1) [] s) (runT seen rs t s) (pre.length + (cT t).length)
  | .set x e, ok, pre, post, hc, s, hm, hbd => by
    have lt : (cT (.set x e)).length = (ec e).length + 2 := by show (MI.unit :: (ec e ++ [.store x])).length = _; simp
    have hc1 : c = (pre ++ [.unit]) ++ (ec e ++ (.store x :: post)) := by
      rw [hc]
      show pre ++ ((MI.unit :: (ec e ++ [.store x])) ++ post) = _
      simp
    have p1 := ex_path (rs := rs) (R := []) hm hsk hs ok.2 (fun x hx => by cases hx) (Nat.zero_le _) hc1
    rw [List.length_append, List.length_singleton] at p1
    have hi : c[pre.length + 1 + (ec e).length]? = some (.store x) := getR (pre := (pre ++ [.unit]) ++ ec e) (post := post) (by rw [hc1]; simp) (by simp; omega)
    have p2 := p1.trans (store_path (rs := rs) (seen := seen) (s := s) (v := s.ev seen e) nd ok.1 hi)
    rw [lt, show pre.length + ((ec e).length + 2) = pre.length + 1 + (ec e).length + 1 by omega]
    unfold runT
    exact ⟨fun _ => ⟨_, p2⟩, fun e => by cases e⟩
  | .lot x e, ok, pre, post, hc, s, hm, hbd => by
    have lt : (cT (.lot x e)).length = (ec e).length + 3 := by show (MI.unit :: (ec e ++ [.lot, .store x])).length = _; simp
    have hc1 : c = (pre ++ [.unit]) ++ (ec e ++ (.lot :: (.store x :: post))) := by
      rw [hc]
      show pre ++ ((MI.unit :: (ec e ++ [.lot, .store x])) ++ post) = _
      simp
    have p1 := ex_path (rs := rs) (R := []) hm hsk hs ok.2 (fun x hx => by cases hx) (Nat.zero_le _) hc1
    rw [List.length_append, List.length_singleton] at p1
    have hi1 : c[pre.length + 1 + (ec e).length]? = some .lot := getR (pre := (pre ++ [.unit]) ++ ec e) (post := .store x :: post) (by rw [hc1]; simp) (by simp; omega)
    have hi2 : c[pre.length + 1 + (ec e).length + 1]? = some (.store x) := getR (pre := (pre ++ [.unit]) ++ (ec e ++ [.lot])) (post := post) (by rw [hc1]; simp) (by simp; omega)
    have hv := hm.ev hsk ok.2
    rw [lt, show pre.length + ((ec e).length + 3) = pre.length + 1 + (ec e).length + 1 + 1 by omega]
    unfold runT
    refine ⟨fun _ => ?_, fun e => by cases e⟩
    unfold lotS
    by_cases h : s.ev seen e > 0
    · rw [if_pos h]
      have p2 : Pth ns seen rs c 1 (mcA ns (pre.length + 1 + (ec e).length) [s.ev seen e] s) (mcA ns (pre.length + 1 + (ec e).length + 1) [nextR rs s.tk (s.ev seen e)] { s with tk := s.tk ++ [(nextR rs s.tk (s.ev seen e), s.ev seen e)] }) := by
        refine Pth.one hi1 (by simp) ?_
        show (if s.ev seen e < 65536 ∧ s.tk.length ≤ 90000 then some (if s.ev seen e > 0 then _ else _) else none) = _
        rw [if_pos ⟨hv.2, by omega⟩, if_pos h]; rfl
      exact ⟨_, (p1.trans p2).trans (store_path (rs := rs) (seen := seen) nd ok.1 hi2)⟩
    · rw [if_neg h]
      have hz : s.ev seen e = 0 := by omega
      have p2 : Pth ns seen rs c 1 (mcA ns (pre.length + 1 + (ec e).length) [s.ev seen e] s) (mcA ns (pre.length + 1 + (ec e).length + 1) [s.ev seen e] s) := by
        refine Pth.one hi1 (by simp) ?_
        show (if s.ev seen e < 65536 ∧ s.tk.length ≤ 90000 then some (if s.ev seen e > 0 then _ else _) else none) = _
        rw [if_pos ⟨hv.2, by omega⟩, if_neg h, hz]; rfl
      exact ⟨_, (p1.trans p2).trans (store_path (rs := rs) (seen := seen) nd ok.1 hi2)⟩
  | .whl t b, ok, pre, post, hc, s, hm, hbd => by
    unfold runT
    refine loop_gs hsk hs ok.1 ok.2 hc (fun s' hm' hbd' => ?_) _ s (Nat.lt_succ_self _) hm hbd
    have h := gB nd hsk hs b ok.2 ((pre ++ [.unit]) ++ (ec t ++ [.skip ((cB b).length + 1)])) (.back ((ec t).length + (cB b).length + 2) :: post) (by
      rw [hc]
      show pre ++ ((MI.unit :: (ec t ++ (.skip ((cB b).length + 1) :: (cB b ++ [.back ((ec t).length + (cB b).length + 2)])))) ++ post) = _
      simp) s' hm' hbd'
    rw [show ((pre ++ [MI.unit]) ++ (ec t ++ [MI.skip ((cB b).length + 1)])).length = pre.length + 1 + (ec t).length + 1 by simp; omega] at h
    exact h
  | .iff t a b, ok, pre, post, hc, s, hm, hbd => by
    have hc0 : c = (pre ++ [.unit]) ++ (brn (ec t) (cB a) (cB b) ++ post) := by
      rw [hc]
      show pre ++ ((MI.unit :: brn (ec t) (cB a) (cB b)) ++ post) = _
      simp
    have lt : (cT (.iff t a b)).length = (brn (ec t) (cB a) (cB b)).length + 1 := rfl
    unfold runT
    by_cases hb0 : cB b = []
    · have eb : brn (ec t) (cB a) (cB b) = ec t ++ (.skip (cB a).length :: cB a) := by unfold brn; rw [if_pos hb0]
      rw [eb] at hc0 lt
      have hc1 : c = (pre ++ [.unit]) ++ (ec t ++ (.skip (cB a).length :: (cB a ++ post))) := by rw [hc0]; simp
      have p1 := ex_path (rs := rs) (R := []) hm hsk hs ok.1 (fun x hx => by cases hx) (Nat.zero_le _) hc1
      rw [List.length_append, List.length_singleton] at p1
      have hi : c[pre.length + 1 + (ec t).length]? = some (.skip (cB a).length) := getR (pre := (pre ++ [.unit]) ++ ec t) (post := cB a ++ post) (by rw [hc1]; simp) (by simp; omega)
      refine Gs.pre (p1.trans (skip_path (rs := rs) (ns := ns) (seen := seen) (s := s) (v := s.ev seen t) hi)) ?_
      rw [List.length_append, List.length_cons] at lt
      by_cases z : s.ev seen t = 0
      · rw [if_pos z, if_neg (not_not_intro z), lt, cB_nil hb0]
        have er : runB seen rs .nil s = (true, s) := by unfold runB; rfl
        rw [er]
        exact ⟨fun _ => ⟨0, by rw [show pre.length + ((ec t).length + ((cB a).length + 1) + 1) = pre.length + 1 + (ec t).length + 1 + (cB a).length by omega]; exact .refl _⟩, fun e => by cases e⟩
      · rw [if_neg z, if_pos z, lt]
        have h := gB nd hsk hs a ok.2.1 ((pre ++ [.unit]) ++ (ec t ++ [.skip (cB a).length])) post (by rw [hc1]; simp) s hm hbd
        rw [show ((pre ++ [MI.unit]) ++ (ec t ++ [MI.skip (cB a).length])).length = pre.length + 1 + (ec t).length + 1 by simp; omega] at h
        rw [show pre.length + ((ec t).length + ((cB a).length + 1) + 1) = pre.length + 1 + (ec t).length + 1 + (cB a).length by omega]
        exact h
    · have eb : brn (ec t) (cB a) (cB b) = ec t ++ (.skip ((cB a).length + 1) :: (cB a ++ (.jump (cB b).length :: cB b))) := by unfold brn; rw [if_neg hb0]
      rw [eb] at hc0 lt
      have hc1 : c = (pre ++ [.unit]) ++ (ec t ++ (.skip ((cB a).length + 1) :: (cB a ++ (.jump (cB b).length :: (cB b ++ post))))) := by rw [hc0]; simp
      have p1 := ex_path (rs := rs) (R := []) hm hsk hs ok.1 (fun x hx => by cases hx) (Nat.zero_le _) hc1
      rw [List.length_append, List.length_singleton] at p1
      have hi : c[pre.length + 1 + (ec t).length]? = some (.skip ((cB a).length + 1)) := getR (pre := (pre ++ [.unit]) ++ ec t) (post := cB a ++ (.jump (cB b).length :: (cB b ++ post))) (by rw [hc1]; simp) (by simp; omega)
      refine Gs.pre (p1.trans (skip_path (rs := rs) (ns := ns) (seen := seen) (s := s) (v := s.ev seen t) hi)) ?_
      rw [List.length_append, List.length_cons, List.length_append, List.length_cons] at lt
      by_cases z : s.ev seen t = 0
      · rw [if_pos z, if_neg (not_not_intro z), lt]
        have h := gB nd hsk hs b ok.2.2 ((pre ++ [.unit]) ++ (ec t ++ (.skip ((cB a).length + 1) :: (cB a ++ [.jump (cB b).length])))) post (by rw [hc1]; simp) s hm hbd
        rw [show ((pre ++ [MI.unit]) ++ (ec t ++ (MI.skip ((cB a).length + 1) :: (cB a ++ [MI.jump (cB b).length])))).length = pre.length + 1 + (ec t).length + 1 + ((cB a).length + 1) by simp; omega] at h
        rw [show pre.length + ((ec t).length + ((cB a).length + ((cB b).length + 1) + 1) + 1) = pre.length + 1 + (ec t).length + 1 + ((cB a).length + 1) + (cB b).length by omega]
        exact h
      · rw [if_neg z, if_pos z, lt]
        have h := gB nd hsk hs a ok.2.1 ((pre ++ [.unit]) ++ (ec t ++ [.skip ((cB a).length + 1)])) (.jump (cB b).length :: (cB b ++ post)) (by rw [hc1]; simp) s hm hbd
        rw [show ((pre ++ [MI.unit]) ++ (ec t ++ [MI.skip ((cB a).length + 1)])).length = pre.length + 1 + (ec t).length + 1 by simp; omega] at h
        refine h.post fun s' => ⟨1, ?_⟩
        have hj : c[pre.length + 1 + (ec t).length + 1 + (cB a).length]? = some (.jump (cB b).length) := getR (pre := (pre ++ [.unit]) ++ (ec t ++ (.skip ((cB a).length + 1) :: cB a))) (post := cB b ++ post) (by rw [hc1]; simp) (by simp; omega)
        refine Pth.one hj (Nat.zero_le _) ?_
        show some (MC.mk (pre.length + 1 + (ec t).length + 1 + (cB a).length + 1 + (cB b).length) _ _ _ _ _ _) = _
        rw [show pre.length + ((ec t).length + ((cB a).length + ((cB b).length + 1) + 1) + 1) = pre.length + 1 + (ec t).length + 1 + (cB a).length + 1 + (cB b).length by omega]; rfl
theorem gB (nd : ns.Nodup) (hsk : SeenOk seen) (hs : seen.length ≤ 60000) : ∀ (b : Bl), b.Ok ns → ∀ (pre post : List MI), c = pre ++ (cB b ++ post) → ∀ s, MOk ns s → s.left.toNat + s.tk.length ≤ 90000 → Gs ns seen rs c (mcA ns pre.length [] s) (runB seen rs b s) (pre.length + (cB b).length)
  | .nil, _, pre, post, hc, s, hm, hbd => by
    unfold runB
    exact ⟨fun _ => ⟨0, .refl _⟩, fun e => by cases e⟩
  | .cons t b, ok, pre, post, hc, s, hm, hbd => by
    have hc1 : c = pre ++ (cT t ++ (cB b ++ post)) := by
      rw [hc]
      show pre ++ ((cT t ++ cB b) ++ post) = _
      simp
    have lt : (cB (.cons t b)).length = (cT t).length + (cB b).length := by show (cT t ++ cB b).length = _; simp
    have hu : c[pre.length]? = some .unit := by
      cases t <;> exact at_app hc1
    unfold runB
    refine unit_gs hu (fun z => by rw [if_pos z]) (fun z => ?_)
    rw [if_neg z]
    have h1 := hm.dec z
    have h2 := gT nd hsk hs t ok.1 pre (cB b ++ post) hc1 { s with left := s.left - 1 } h1 (by show (s.left - 1).toNat + s.tk.length ≤ 90000; have := hm.l; omega)
    have mv := runT_mv (rs := rs) hsk t ok.1 _ h1
    have mvk := mv.k
    refine h2.bind (fun e1 => ?_) (fun e1 => by rw [if_pos e1])
    rw [if_neg (by rw [e1]; decide)]
    have h3 := gB nd hsk hs b ok.2 (pre ++ cT t) post (by rw [hc1]; simp) (runT seen rs t { s with left := s.left - 1 }).2 mv.ok (by
      have := hm.l
      change _ ≤ (s.left - 1).toNat + s.tk.length + 1 at mvk
      omega)
    rw [List.length_append] at h3
    rw [lt, ← Nat.add_assoc]
    exact h3
end
end

theorem tbOf_map {ns : List Str} {cs : List Int} (nd : ns.Nodup) (h : cs.length = ns.length) : ns.map (tbOf ns cs) = cs := by
  refine List.ext_getElem? fun i => ?_
  rw [List.getElem?_map]
  cases hn : ns[i]? with
  | none =>
    rw [List.getElem?_eq_none_iff] at hn
    rw [List.getElem?_eq_none (by omega)]; rfl
  | some n =>
    have hlt := (List.getElem?_eq_some_iff.mp hn).1
    obtain ⟨v, hv⟩ : ∃ v, cs[i]? = some v := ⟨cs[i]'(by omega), List.getElem?_eq_getElem (by omega)⟩
    rw [hv]
    show some (tbOf ns cs n) = some v
    rw [tbOf_at nd hn hv]
theorem brain_path {ns : List Str} {seen rs : List Int} {b : Bl} {e : Ex} {cs : List Int} {u count : Int} {tk : List (Int × Int)} (nd : ns.Nodup) (hsk : SeenOk seen) (hs : seen.length ≤ 60000) (bok : b.Ok ns) (eo : ExOk ns e) (hl : cs.length = ns.length) (hc : CsOk cs) (u0 : 0 ≤ u) (hb : u.toNat + tk.length ≤ 90000) :
    ∃ N mF, Pth ns seen rs (cM b e) N (mc0 cs u tk) mF ∧ mF.done = true ∧ (mF.silent = false → mF.st ≠ []) ∧ (if mF.silent = true then 0 else if mF.st.headD 0 ≥ count then 0 else mF.st.headD 0) = (thk ns cs b e count seen rs u tk).1 ∧ (if mF.silent = true then cs else mF.cells) = (thk ns cs b e count seen rs u tk).2.1 ∧ mF.tk = (thk ns cs b e count seen rs u tk).2.2 := by
  have e0 : mc0 cs u tk = mcA ns 0 [] ⟨u, tbOf ns cs, tk⟩ := by
    show MC.mk 0 [] cs u false false tk = MC.mk 0 [] (ns.map (tbOf ns cs)) u false false tk
    rw [tbOf_map nd hl]
  have hm : MOk ns ⟨u, tbOf ns cs, tk⟩ := ⟨u0, fun y _ => tbOf_ok hc y⟩
  have g := gB (rs := rs) (c := cM b e) nd hsk hs b bok [] (ec e ++ [.fin]) rfl ⟨u, tbOf ns cs, tk⟩ hm hb
  have mv := runB_mv (rs := rs) hsk b bok _ hm
  rw [e0]
  unfold thk
  cases hr : (runB seen rs b ⟨u, tbOf ns cs, tk⟩).1 with
  | false =>
    obtain ⟨n, m', q, d1, d2, d3⟩ := g.2 hr
    rw [if_pos rfl]
    refine ⟨n, m', q, d1, fun z => ?_, ?_, ?_, d3⟩
    · rw [d2] at z; cases z
    · rw [if_pos d2]
    · rw [if_pos d2]
  | true =>
    obtain ⟨n, q⟩ := g.1 hr
    rw [if_neg (by decide)]
    generalize (runB seen rs b ⟨u, tbOf ns cs, tk⟩).2 = s2 at *
    rw [List.length_nil, Nat.zero_add] at q
    have p1 := ex_path (rs := rs) (c := cM b e) (R := []) (s := s2) mv.ok hsk hs eo (fun x hx => by cases hx) (Nat.zero_le _) (pre := cB b) (post := [.fin]) rfl
    have hi : (cM b e)[(cB b).length + (ec e).length]? = some .fin := getR (pre := cB b ++ ec e) (post := []) (by unfold cM; simp) (by simp)
    have p2 : Pth ns seen rs (cM b e) 1 (mcA ns ((cB b).length + (ec e).length) [s2.ev seen e] s2) { mcA ns ((cB b).length + (ec e).length + 1) [s2.ev seen e] s2 with done := true } := Pth.one hi (by simp) rfl
    refine ⟨_, _, (q.trans p1).trans p2, rfl, fun _ => by show [s2.ev seen e] ≠ []; simp, rfl, rfl, rfl⟩
def sp_both (K : PySem.W.Frag) (CB : Addr) : Sp := fun vs H Q _ => ∃ (B ce bk ca du dc : Addr) (an : V) (ns : List Str) (ks cs : List Int) (b : Bl) (e : Ex) (u d : Int) (ds : List Int), vs = [.ref B, .ref ca, .ref du] ∧ BrA CB H B u ce bk an ∧ Bd K H ce bk an ns ks b e ∧ BdOk ns b e ∧ (cB b).length ≤ 800000 ∧ 0 ≤ u ∧ u ≤ 65535 ∧ CsOk cs ∧ cs.length = ns.length ∧ H ca = some (.tup (cs.map V.int)) ∧
  H du = some (.tup [.int d, .ref dc]) ∧ H dc = some (.tup (ds.map V.int)) ∧ ds.length ≤ 1000 ∧ (∀ seen, (thk ns cs b e 3 seen [] u []).1 = d ∧ (thk ns cs b e 3 seen [] u []).2.1 = ds) ∧ ∀ H', Keep [] H H' → Q (.bl true) H'
section
variable {P : Program} {w : World} {K : PySem.W.Frag} {mg : Str → Option Value} {base : Heap} {C_Tape : Addr} {C_Thinker : Addr} {C_Brain : Addr} {C_Mind : Addr} {C_Frame : Addr} {C_Thinking : Addr} {T_EVENTS : Addr} {T_SIGNS : Addr}
theorem ok_both {f : Addr} {fd : FuncData} (D : C8.Def K mg "_law_both" s_law_both f fd) (b : Binds K fd ["brain", "cells", "due"] []) (T : Txt K mg C_Tape C_Thinker C_Brain C_Mind C_Frame C_Thinking T_EVENTS T_SIGNS) (c_think : C8.Cal P w K mg base 42 "think" (sp_think K C_Brain C_Tape) []) (c_Tape : C8.Mak P w K mg base 1 "Tape" C_Tape (sp_tape K C_Tape) []) (c_mind_of : C8.Cal P w K mg base 24 "mind_of" (sp_mindof K C_Brain C_Mind) [])
    (c_think_by_code : C8.Cal P w K mg base 4 "think_by_code" (sp_tbc K C_Mind C_Tape) []) (c_law_same : C8.Cal P w K mg base 5 "_law_same" (sp_law_same K 5) []) : C8.Cal P w K mg base 43 "_law_both" (sp_both K C_Brain) [] := by
  refine cal0 D b .nil sc_law_both (fun vs H Q E h => ?_) (fun cdv A outer s H vs Q E hr h => ?_)
  · obtain ⟨B, ce, bk, ca, du, dc, an, ns, ks, cs, b, e, u, d, ds, rfl, _⟩ := h
    rfl
  · obtain ⟨B, ce, bk, ca, du, dc, an, ns, ks, cs, b, e, u, d, ds, rfl, ⟨dB, oB⟩, hBd, hBo, hcl, u0, u1, co, cl, hca, hdu, hdc, dl, hth, k⟩ := h
    refine ⟨_, (pss_cons (ps_set (i := 3) sc_law_both.nd rfl (by first | exact Or.inl rfl | exact Or.inr rfl) (pe_tup (pa_cons (pe_tup (pa_cons pe_str (pa_cons pe_int pa_nil))) (pa_cons (pe_tup (pa_cons pe_str (pa_cons pe_int (pa_cons pe_int pa_nil)))) pa_nil))))
(pss_cons (ps_set (i := 4) sc_law_both.nd rfl (by first | exact Or.inl rfl | exact Or.inr rfl) (pe_c c_think hr (by first | exact Nat.le_refl _ | decide | omega) rfl (pa_cons (pv 0) (pa_cons (pv 1) (pa_cons (pv 3) (pa_cons pe_int (pa_cons (pe_mk c_Tape hr (by first | exact Nat.le_refl _ | decide | omega) rfl (pa_cons (pe_lst pa_nil) pa_nil)) pa_nil)))))))
(pss_cons (ps_set (i := 5) sc_law_both.nd rfl (by first | exact Or.inl rfl | exact Or.inr rfl) (pe_c c_think_by_code hr (by first | exact Nat.le_refl _ | decide | omega) rfl (pa_cons (pe_c c_mind_of hr (by first | exact Nat.le_refl _ | decide | omega) rfl (pa_cons (pv 0) pa_nil)) (pa_cons (pv 1) (pa_cons (pv 3) (pa_cons pe_int (pa_cons (pe_mk c_Tape hr (by first | exact Nat.le_refl _ | decide | omega) rfl (pa_cons (pe_lst pa_nil) pa_nil)) pa_nil)))))))
(pss_one (ps_ret (pe_and (pe_c c_law_same hr (by first | exact Nat.le_refl _ | decide | omega) rfl (pa_cons (pv 4) (pa_cons (pv 2) pa_nil))) (pe_one (pe_c c_law_same hr (by first | exact Nat.le_refl _ | decide | omega) rfl (pa_cons (pe_slice sl_tup (pv 5) po_none (po_some pe_int)) (pa_cons (pv 2) pa_nil)))))))))), ?_⟩
    refine And.intro (by show 2 ≤ sizeLine; decide) <| fun t1 n1 => And.intro (by show 3 ≤ sizeLine; decide) <| fun t2 n2 => And.intro (by show 2 ≤ sizeLine; decide) <| fun vw nvw => ?_
    have k3 := ((Keep.new (W := []) (o := .tup [.str "round", .int 0]) n1).then_new (o := .tup [.str "move", .int 0, .int 3]) n2).then_new (o := .tup [.ref t1, .ref t2]) nvw
    have h1 := ((Keep.new (W := []) (o := .tup [.str "move", .int 0, .int 3]) n2).then_new (o := .tup [.ref t1, .ref t2]) nvw) _ _ (upd_same (H := H) (a := t1) (o := .tup [.str "round", .int 0])) (by simp)
    have h2 := (Keep.new (W := []) (o := .tup [.ref t1, .ref t2]) nvw) _ _ (upd_same (H := upd H t1 (.tup [.str "round", .int 0])) (a := t2) (o := .tup [.str "move", .int 0, .int 3])) (by simp)
    have hv : upd (upd (upd H t1 (.tup [.str "round", .int 0])) t2 (.tup [.str "move", .int 0, .int 3])) vw (.tup [.ref t1, .ref t2]) vw = some (.tup [.ref t1, .ref t2]) := upd_same
    generalize upd (upd (upd H t1 (.tup [.str "round", .int 0])) t2 (.tup [.str "move", .int 0, .int 3])) vw (.tup [.ref t1, .ref t2]) = H3 at *
    have hE : Evs H3 [.ref t1, .ref t2] [⟨"round", 0, none⟩, ⟨"move", 0, some 3⟩] := .cons h1 (.cons h2 .nil)
    have hEo : EvsOk [⟨"round", 0, none⟩, ⟨"move", 0, some 3⟩] := (evok2 (by decide +kernel) (by decide +kernel) (by decide) (by decide)).app (evok3 (by decide +kernel) (by decide) (by decide) (by decide) (by decide))
    have k0 : Keep [] H H3 := k3
    have th := hth (nums [⟨"round", 0, none⟩, ⟨"move", 0, some 3⟩])
    generalize hes : ([⟨"round", 0, none⟩, ⟨"move", 0, some 3⟩] : List Ev) = es at *
    have hel : es.length ≤ 10000 := by rw [← hes]; decide
    clear k3 hes
    have tape : ∀ {H0 : Hp} {l tp dt : Addr} {R : Hp → Prop}, H0 l = none → upd H0 l (.lst []) tp = none → upd H0 l (.lst []) dt = none → (∀ (rx tx : Addr) H', H0 tp = none → H0 rx = none → H0 tx = none → TapeAt C_Tape H' tp rx tx [] [] → Keep [] H0 H' → R H') → sp_tape K C_Tape [.ref tp, .ref l] (upd (upd (upd H0 l (.lst [])) dt (.own tp)) tp (.ins C_Tape dt [])) (fun v H2 => v = .non ∧ R H2) C8.E0 :=
      fun {H0 l tp dt R} nl ntp ndt g => ⟨tp, dt, l, [], rfl, SqL.of (made_at ntp ndt upd_same), upd_same, fun rx tx H' nrx ntx K' TA => ⟨rfl, by
        have kl : Keep [] H0 (upd H0 l (.lst [])) := Keep.new nl
        have km := Keep.made (o := .ins C_Tape dt []) ntp ndt
        exact g rx tx H' (kl.free ntp) (kl.free (km.free nrx)) (kl.free (km.free ntx)) TA (kl.trans (keep_made ntp ndt K'))⟩⟩
    refine ⟨_, rfl, _, rfl, _, rfl, by show 0 ≤ sizeLine; decide, fun l nl tp dt ntp ndt ne => tape nl ntp ndt (fun rx tx H5 ntp0 nrx ntx TA5 K5 => ?_)⟩
    have K05 := k0.trans K5
    refine ⟨B, ce, bk, ca, vw, tp, rx, tx, an, ns, ks, cs, b, e, _, es, u, 3, [], [], rfl, ⟨dB, K05 _ _ oB (by simp)⟩, ⟨hBd.tk K05.tk, hBo, u0, u1, co, cl, K05 _ _ hca (by simp), K5 _ _ hv (by simp), hE.tk K5.tk, hEo, hel⟩, TA5, Nat.zero_le _, fun t ct H6 nt ht hct TA6 K6 => ?_⟩
    rw [th.1] at ht
    rw [th.2] at hct
    have K36 : Keep [] H3 H6 := fun a o h _ => K6 _ _ (K5 _ _ h (by simp)) (by have := ne_of_none h ntx; simpa using this)
    have K06 := k0.trans K36
    refine ⟨_, rfl, B, ce, bk, u, an, ns, ks, b, e, rfl, ⟨dB, K06 _ _ oB (by simp)⟩, hBd.tk K06.tk, hBo.bo, hBo.d, hBo.e, by have := hBo.nl; omega, hcl, fun M ca0 cd H7 nM hM K7 => ?_⟩
    have K07 := K06.trans K7
    refine ⟨_, rfl, _, rfl, by show 0 ≤ sizeLine; decide, fun l2 nl2 tp2 dt2 ntp2 ndt2 ne2 => tape nl2 ntp2 ndt2 (fun rx2 tx2 H8 ntp20 nrx2 ntx2 TA8 K8 => ?_)⟩
    have K78 := K7.trans K8
    have K38 := K36.trans K78
    have K08 := k0.trans K38
    have hsl : (nums es).length ≤ 60000 := by rw [nums_len]; omega
    obtain ⟨N, mF, hP, hd, hne, q1, q2, q3⟩ := brain_path (rs := []) (count := 3) (u := u) (tk := []) hBo.nd (nums_ok hEo) hsl hBo.bo hBo.e cl co u0 (by show u.toNat + 0 ≤ 90000; omega)
    refine ⟨M, ca, vw, tp2, rx2, tx2, cd, u, ns, cM b e, cs, es, [], [], 3, N, mF, rfl, ⟨⟨ca0, ks, hM.keep K8⟩, K08 _ _ hca (by simp), ⟨_, K38 _ _ hv (by simp), hE.tk K38.tk⟩, hEo, hel, TA8⟩, hP, hd, hne, fun t2 ct2 H9 nt2 ht2 hct2 TA9 K9 => ?_⟩
    rw [q1, th.1] at ht2
    rw [q2, th.2] at hct2
    have K69 : Keep [] H6 H9 := fun a o h _ => K9 _ _ (K78 _ _ h (by simp)) (by have := ne_of_none (K7 _ _ h (by simp)) ntx2; simpa using this)
    have K09 := K06.trans K69
    have ht9 := K69 _ _ ht (by simp)
    have hct9 := K69 _ _ hct (by simp)
    have hdu9 := K09 _ _ hdu (by simp)
    have hdc9 := K09 _ _ hdc (by simp)
    refine ⟨_, rfl, _, rfl, _, _, rfl, sameT (n := 4) (.inl ht9) (.inl hdu9) (.cons (sameV_atom (.inr (.inl ⟨_, rfl⟩))) (.cons (same_intsT (n := 2) hct9 hdc9 (by omega)) .nil)) (by simp), _, rfl, iteT ?_⟩
    refine ⟨_, rfl, _, rfl, _, _, rfl, SqT.of ht2, by show ¬ ((0 : Nat) = 0 ∧ (2 : Nat) = 3); decide, fun t3 nt3 => ?_⟩
    have k10 : Keep [] H9 (upd H9 t3 (.tup [.int d, .ref ct2])) := Keep.new nt3
    exact ⟨_, rfl, _, _, rfl, sameT (n := 4) (.inl upd_same) (.inl (k10 _ _ hdu9 (by simp))) (.cons (sameV_atom (.inr (.inl ⟨_, rfl⟩))) (.cons (same_intsT (n := 2) (k10 _ _ hct2 (by simp)) (k10 _ _ hdc9 (by simp)) (by omega)) .nil)) (by show 2 ≤ 1000000; decide), k _ (K09.trans k10)⟩
end
/-! the two brains -/
def lessT : Th := .set "c" (.op "-" (.var "c") (.num 1))
def b1 : Bl := .cons (.whl (.var "c") (.cons lessT .nil)) .nil
def b2 : Bl := .cons (.whl (.num 1) .nil) .nil
def an2 : Ex := .num 2
theorem cNm : (("c" : Str) ∈ (["c"] : List Str)) := by simp
theorem less_run {seen rs : List Int} {s : MS} (h : s.left ≠ 0) : runB seen rs (.cons lessT .nil) s = (true, ({ s with left := s.left - 1 } : MS).put "c" (comb "-" (s.tb "c") 1)) := by
  unfold runB
  rw [if_neg h]
  have e1 : runT seen rs lessT { s with left := s.left - 1 } = (true, ({ s with left := s.left - 1 } : MS).put "c" (comb "-" (s.tb "c") 1)) := by unfold lessT runT; rfl
  rw [e1]
  show (if true = false then _ else runB seen rs .nil _) = _
  rw [if_neg (by decide)]
  unfold runB; rfl
theorem less_run0 {seen rs : List Int} {s : MS} (h : s.left = 0) : (runB seen rs (.cons lessT .nil) s).1 = false := by
  unfold runB
  rw [if_pos h]
theorem put_c (s : MS) (v : Int) : (s.put "c" v).tb "c" = v := by
  show (if ("c" : Str) = "c" then v else s.tb "c") = v
  rw [if_pos rfl]
/-- the loop that counts down -/
theorem loop1 {seen rs : List Int} : ∀ (k n : Nat) (s : MS), s.tb "c" = (k : Int) → 0 ≤ s.left → s.left.toNat < n →
    (2 * (k : Int) ≤ s.left → ∃ s', loopM (fun s => decide (s.ev seen (.var "c") ≠ 0)) (fun s => runB seen rs (.cons lessT .nil) s) n s = (true, s') ∧ s'.tb "c" = 0) ∧
    (s.left < 2 * (k : Int) → (loopM (fun s => decide (s.ev seen (.var "c") ≠ 0)) (fun s => runB seen rs (.cons lessT .nil) s) n s).1 = false)
  | k, 0, s, _, _, h => absurd h (Nat.not_lt_zero _)
  | 0, n + 1, s, hc, h0, hn => by
    refine ⟨fun _ => ⟨s, ?_, hc⟩, fun h => by omega⟩
    unfold loopM
    have e : s.ev seen (.var "c") = 0 := hc
    rw [if_pos (by rw [e]; decide)]
  | k + 1, n + 1, s, hc, h0, hn => by
    have e : s.ev seen (.var "c") = ((k + 1 : Nat) : Int) := hc
    have en : s.ev seen (.var "c") ≠ 0 := by rw [e]; omega
    unfold loopM
    rw [if_neg (by simpa using en)]
    by_cases z : s.left = 0
    · refine ⟨fun h => by omega, fun _ => ?_⟩
      rw [if_pos (less_run0 z)]
    · rw [less_run z]
      have ec : comb "-" (s.tb "c") 1 = (k : Int) := by rw [hc, comb_sub]; split <;> omega
      rw [ec]
      have F0 : s.left - 1 = 0 → ¬ 2 * ((k + 1 : Nat) : Int) ≤ s.left := by omega
      have F1 : ¬ s.left - 1 = 0 → 0 ≤ s.left - 1 - 1 := by omega
      have F2 : ¬ s.left - 1 = 0 → (s.left - 1 - 1).toNat < n := by omega
      have F3 : 2 * ((k + 1 : Nat) : Int) ≤ s.left → 2 * (k : Int) ≤ s.left - 1 - 1 := by omega
      have F4 : s.left < 2 * ((k + 1 : Nat) : Int) → s.left - 1 - 1 < 2 * (k : Int) := by omega
      have ih := loop1 (seen := seen) (rs := rs) k n ({ (({ s with left := s.left - 1 } : MS).put "c" (k : Int)) with left := s.left - 1 - 1 }) (put_c ({ s with left := s.left - 1 } : MS) (k : Int))
      rw [if_neg (show ¬ (true, ({ s with left := s.left - 1 } : MS).put "c" (k : Int)).1 = false from fun h => by cases h)]
      by_cases z2 : s.left - 1 = 0
      · refine ⟨fun h => absurd h (F0 z2), fun _ => ?_⟩
        rw [if_pos (show (true, ({ s with left := s.left - 1 } : MS).put "c" (k : Int)).2.left = 0 from z2)]
      · rw [if_neg (show ¬ (true, ({ s with left := s.left - 1 } : MS).put "c" (k : Int)).2.left = 0 from z2)]
        have ih2 := ih (F1 z2) (F2 z2)
        exact ⟨fun h => ih2.1 (F3 h), fun h => ih2.2 (F4 h)⟩
theorem run_whl {seen rs : List Int} {t : Ex} {b : Bl} {s : MS} (h : s.left ≠ 0) : runB seen rs (.cons (.whl t b) .nil) s = loopM (fun s => decide (s.ev seen t ≠ 0)) (fun s => runB seen rs b s) ((s.left - 1).toNat + 1) { s with left := s.left - 1 } := by
  have e0 : runB seen rs (.cons (.whl t b) .nil) s = if s.left = 0 then (false, s) else if (runT seen rs (.whl t b) { s with left := s.left - 1 }).1 = false then runT seen rs (.whl t b) { s with left := s.left - 1 } else runB seen rs .nil (runT seen rs (.whl t b) { s with left := s.left - 1 }).2 := by
    conv => lhs; unfold runB
  have e1 : runT seen rs (.whl t b) { s with left := s.left - 1 } = loopM (fun s => decide (s.ev seen t ≠ 0)) (fun s => runB seen rs b s) ((s.left - 1).toNat + 1) { s with left := s.left - 1 } := by
    conv => lhs; unfold runT
  rw [e0, if_neg h, e1]
  generalize loopM (fun s => decide (s.ev seen t ≠ 0)) (fun s => runB seen rs b s) ((s.left - 1).toNat + 1) { s with left := s.left - 1 } = r
  by_cases hr : r.1 = false
  · rw [if_pos hr]
  · rw [if_neg hr]
    have e2 : runB seen rs .nil r.2 = (true, r.2) := by unfold runB; rfl
    rw [e2]
    exact Prod.ext (by cases h : r.1 with | false => exact absurd h hr | true => rfl) rfl
theorem tb_c (v : Int) : tbOf ["c"] [v] "c" = v := by
  show (if ("c" : Str) = "c" then v else _) = v
  rw [if_pos rfl]
theorem thk_b1 {k : Nat} {u : Int} {seen : List Int} (hu : 1 ≤ u) : (2 * (k : Int) + 1 ≤ u → (thk ["c"] [(k : Int)] b1 an2 3 seen [] u []).1 = 2 ∧ (thk ["c"] [(k : Int)] b1 an2 3 seen [] u []).2.1 = [0]) ∧ (u < 2 * (k : Int) + 1 → (thk ["c"] [(k : Int)] b1 an2 3 seen [] u []).1 = 0 ∧ (thk ["c"] [(k : Int)] b1 an2 3 seen [] u []).2.1 = [(k : Int)]) := by
  have e := run_whl (seen := seen) (rs := []) (t := .var "c") (b := .cons lessT .nil) (s := ⟨u, tbOf ["c"] [(k : Int)], []⟩) (show u ≠ 0 by omega)
  have L := loop1 (seen := seen) (rs := []) k ((u - 1).toNat + 1) ⟨u - 1, tbOf ["c"] [(k : Int)], []⟩ (tb_c _) (by show 0 ≤ u - 1; omega) (by show (u - 1).toNat < _; omega)
  unfold thk b1
  rw [e]
  refine ⟨fun h => ?_, fun h => ?_⟩
  · obtain ⟨s', h1, h2⟩ := L.1 (by show 2 * (k : Int) ≤ u - 1; omega)
    rw [h1, if_neg (show ¬ (true, s').1 = false from fun h => by cases h)]
    refine ⟨?_, ?_⟩
    · show (if (2 : Int) ≥ 3 then 0 else (2 : Int)) = 2
      rw [if_neg (by decide)]
    · show [s'.tb "c"] = [0]
      rw [h2]
  · have h1 := L.2 (by show u - 1 < 2 * (k : Int); omega)
    rw [if_pos h1]
    exact ⟨rfl, rfl⟩
theorem loop2 {seen rs : List Int} : ∀ (n : Nat) (s : MS), (loopM (fun s => decide (s.ev seen (.num 1) ≠ 0)) (fun s => runB seen rs .nil s) n s).1 = false
  | 0, _ => rfl
  | n + 1, s => by
    unfold loopM
    rw [if_neg (show ¬ decide (s.ev seen (.num 1) ≠ 0) = false by show ¬ decide ((1 : Int) ≠ 0) = false; decide)]
    have e : runB seen rs .nil s = (true, s) := by unfold runB; rfl
    rw [e, if_neg (show ¬ (true, s).1 = false from fun h => by cases h)]
    split
    · rfl
    · exact loop2 n _
theorem thk_b2 {v u : Int} {seen : List Int} (hu : 1 ≤ u) : (thk ["c"] [v] b2 an2 3 seen [] u []).1 = 0 ∧ (thk ["c"] [v] b2 an2 3 seen [] u []).2.1 = [v] := by
  have e := run_whl (seen := seen) (rs := []) (t := .num 1) (b := .nil) (s := ⟨u, tbOf ["c"] [v], []⟩) (show u ≠ 0 by omega)
  unfold thk b2
  rw [e, if_pos (loop2 _ _)]
  exact ⟨rfl, rfl⟩

theorem b1_code : (cB b1).length ≤ 800000 := by decide +kernel
theorem b2_code : (cB b2).length ≤ 800000 := by decide +kernel
theorem an2_ok : ExOk ["c"] an2 := ⟨⟨by decide, by decide⟩, by decide⟩
theorem b1_ok : BdOk ["c"] b1 an2 := ⟨by simp, by decide, ⟨⟨⟨cNm, by decide⟩, ⟨cNm, ⟨⟨by decide +kernel, cNm, ⟨by decide, by decide⟩⟩, by decide⟩⟩, trivial⟩, trivial⟩, by decide, an2_ok, ⟨⟨by decide, trivial, trivial⟩, trivial⟩, by decide⟩
theorem b2_ok : BdOk ["c"] b2 an2 := ⟨by simp, by decide, ⟨⟨⟨⟨by decide, by decide⟩, by decide⟩, trivial⟩, trivial⟩, by decide, an2_ok, ⟨⟨by decide, trivial⟩, trivial⟩, by decide⟩
def sp_law (K : PySem.W.Frag) : Sp := fun vs H Q _ => ∃ (a : Addr) (ns : List Int), vs = [.ref a] ∧ SqL K H a (ns.map V.int) ∧ ∀ H', Q (.bl true) H'
section
variable {P : Program} {w : World} {K : PySem.W.Frag} {mg : Str → Option Value} {base : Heap} {C_Tape : Addr} {C_Thinker : Addr} {C_Brain : Addr} {C_Mind : Addr} {C_Frame : Addr} {C_Thinking : Addr} {T_EVENTS : Addr} {T_SIGNS : Addr}
theorem ok_law {f : Addr} {fd : FuncData} (F : C8.Fun K "law" "law" s_law f fd) (T : Txt K mg C_Tape C_Thinker C_Brain C_Mind C_Frame C_Thinking T_EVENTS T_SIGNS) (c_law_pool : C8.Cal P w K mg base 1 "_law_pool" (sp_law_pool K) []) (c_law_draw : C8.Cal P w K mg base 1 "_law_draw" sp_law_draw []) (c_Brain : C8.Mak P w K mg base 1 "Brain" C_Brain (sp_brinit K C_Brain) []) (c_law_both : C8.Cal P w K mg base 43 "_law_both" (sp_both K C_Brain) []) :
    FnOk P w K mg base C8.CX0 44 f fd ["script"] (sp_law K) := by
  refine C8.fn0 F sc_law (fun vs H Q E h => ?_) (fun cdv A outer s H vs Q E hr h => ?_)
  · obtain ⟨a, ns, rfl, _⟩ := h
    rfl
  · obtain ⟨a, ns, rfl, hS, k⟩ := h
    refine ⟨_, (pss_cons (ps_set (i := 1) sc_law.nd rfl (by first | exact Or.inl rfl | exact Or.inr rfl) (pe_c c_law_pool hr (by first | exact Nat.le_refl _ | decide | omega) rfl (pa_cons (pv 0) (pa_cons pe_int pa_nil))))
(pss_cons (ps_set (i := 2) sc_law.nd rfl (by first | exact Or.inl rfl | exact Or.inr rfl) (pe_callTy call_int1 (by rfl) T.n_int bo_int (pa_cons (pe_cmpR op_eq (pe_c c_law_draw hr (by first | exact Nat.le_refl _ | decide | omega) rfl (pa_cons (pv 1) (pa_cons pe_int pa_nil))) pe_int (nomark _)) pa_nil)))
(pss_cons (ps_set (i := 3) sc_law.nd rfl (by first | exact Or.inl rfl | exact Or.inr rfl) (pe_c c_law_draw hr (by first | exact Nat.le_refl _ | decide | omega) rfl (pa_cons (pv 1) (pa_cons (pe_ix ix_tup (pe_tup (pa_cons pe_int (pa_cons pe_int pa_nil))) (pv 2) (fun _ _ => rfl)) pa_nil))))
(pss_cons (ps_set (i := 4) sc_law.nd rfl (by first | exact Or.inl rfl | exact Or.inr rfl) (pe_tup (pa_cons pe_str (pa_cons pe_str (pa_cons (pe_tup (pa_cons pe_str (pa_cons (pe_tup (pa_cons pe_str (pa_cons pe_str pa_nil))) (pa_cons (pe_tup (pa_cons pe_str (pa_cons pe_int pa_nil))) pa_nil)))) pa_nil)))))
(pss_cons (ps_set (i := 5) sc_law.nd rfl (by first | exact Or.inl rfl | exact Or.inr rfl) (pe_tup (pa_cons pe_str (pa_cons (pe_tup (pa_cons pe_str (pa_cons pe_str pa_nil))) (pa_cons (pe_tup (pa_cons (pv 4) pa_nil)) pa_nil)))))
(pss_cons (ps_set (i := 6) sc_law.nd rfl (by first | exact Or.inl rfl | exact Or.inr rfl) (pe_op op_sub (pe_c c_law_draw hr (by first | exact Nat.le_refl _ | decide | omega) rfl (pa_cons (pv 1) (pa_cons pe_int pa_nil))) pe_int))
(pss_cons (ps_set (i := 7) sc_law.nd rfl (by first | exact Or.inl rfl | exact Or.inr rfl) (pe_callB (call_max2 rfl) (by rfl) T.n_max bo_max (pa_cons pe_int (pa_cons (pe_op op_add (pe_op op_add (pe_op op_mul pe_int (pv 3)) pe_int) (pv 6)) pa_nil))))
(pss_cons (ps_set (i := 8) sc_law.nd rfl (by first | exact Or.inl rfl | exact Or.inr rfl) (pe_mk c_Brain hr (by first | exact Nat.le_refl _ | decide | omega) rfl (pa_cons (pv 7) (pa_cons (pe_tup (pa_cons (pe_tup (pa_cons pe_str (pa_cons pe_int pa_nil))) pa_nil)) (pa_cons (pe_tup (pa_cons (pv 5) pa_nil)) (pa_cons (pe_tup (pa_cons pe_str (pa_cons pe_int pa_nil))) pa_nil))))))
(pss_cons (ps_set (i := 9) sc_law.nd rfl (by first | exact Or.inl rfl | exact Or.inr rfl) (pe_tup (pa_cons pe_int (pa_cons (pe_tup (pa_cons pe_int pa_nil)) pa_nil))))
(pss_cut (ps_if (pt_cmpR op_lt (pv 7) (pe_op op_add (pe_op op_mul pe_int (pv 3)) pe_int) (nomark _))
  (pss_one (ps_set (i := 9) sc_law.nd rfl (by first | exact Or.inl rfl | exact Or.inr rfl) (pe_tup (pa_cons pe_int (pa_cons (pe_tup (pa_cons (pv 3) pa_nil)) pa_nil)))))
  pss_nil)
(pss_cons (ps_if (pt_not (pt_val (pe_c c_law_both hr (by first | exact Nat.le_refl _ | decide | omega) rfl (pa_cons (pv 8) (pa_cons (pe_tup (pa_cons (pv 3) pa_nil)) (pa_cons (pv 9) pa_nil))))))
  (pss_one (ps_ret pe_bl))
  pss_nil)
(pss_cons (ps_set (i := 7) sc_law.nd rfl (by first | exact Or.inl rfl | exact Or.inr rfl) (pe_op op_add pe_int (pe_c c_law_draw hr (by first | exact Nat.le_refl _ | decide | omega) rfl (pa_cons (pv 1) (pa_cons (pe_ix ix_tup (pe_tup (pa_cons pe_int (pa_cons pe_int pa_nil))) (pv 2) (fun _ _ => rfl)) pa_nil)))))
(pss_cons (ps_set (i := 8) sc_law.nd rfl (by first | exact Or.inl rfl | exact Or.inr rfl) (pe_mk c_Brain hr (by first | exact Nat.le_refl _ | decide | omega) rfl (pa_cons (pv 7) (pa_cons (pe_tup (pa_cons (pe_tup (pa_cons pe_str (pa_cons pe_int pa_nil))) pa_nil)) (pa_cons (pe_tup (pa_cons (pe_tup (pa_cons pe_str (pa_cons (pe_tup (pa_cons pe_str (pa_cons pe_int pa_nil))) (pa_cons (pe_tup pa_nil) pa_nil)))) pa_nil)) (pa_cons (pe_tup (pa_cons pe_str (pa_cons pe_int pa_nil))) pa_nil))))))
(pss_one (ps_ret (pe_c c_law_both hr (by first | exact Nat.le_refl _ | decide | omega) rfl (pa_cons (pv 8) (pa_cons (pe_tup (pa_cons (pv 3) pa_nil)) (pa_cons (pe_tup (pa_cons pe_int (pa_cons (pe_tup (pa_cons (pv 3) pa_nil)) pa_nil))) pa_nil))))))))))))))))))), ?_⟩
    refine ⟨_, rfl, a, ns, 0, rfl, hS, fun p q H1 np P1 K1 => ?_⟩
    refine ⟨_, rfl, p, q, ns, 16, rfl, by decide, by decide, P1, fun z0 H2 _ _ P2 K2 => ⟨rfl, .inr ⟨_, rfl, ?_⟩⟩⟩
    generalize hlg : (if decide (V.int z0 = V.int 0) = true then (1 : Int) else 0) = lg
    have lg01 : lg = 0 ∨ lg = 1 := by rw [← hlg]; split <;> simp
    clear hlg
    refine ⟨_, rfl, And.intro (by show 2 ≤ sizeLine; decide) <| fun u1 nu1 => ?_⟩
    obtain ⟨sz, hsz, sz0, sz1⟩ : ∃ sz : Int, atI [V.int 3001, V.int 32767] lg = some (.int sz) ∧ 0 < sz ∧ sz ≤ 32767 := by
      rcases lg01 with rfl | rfl
      · exact ⟨3001, rfl, by decide, by decide⟩
      · exact ⟨32767, rfl, by decide, by decide⟩
    refine ⟨_, rfl, _, _, _, _, rfl, rfl, SqT.of upd_same, hsz, ?_⟩
    refine ⟨p, q, ns, sz, rfl, sz0, by omega, P2.new nu1, fun num H3 m0 m1 P3 K3 => ?_⟩
    obtain ⟨nm, rfl⟩ : ∃ nm : Nat, num = (nm : Int) := ⟨num.toNat, by omega⟩
    refine And.intro (by show 2 ≤ sizeLine; decide) <| fun uv nuv => ?_
    have kuv := Keep.new (W := []) (o := .tup [.str "variable", .str "c"]) nuv
    have Puv := P3.new (o := .tup [.str "variable", .str "c"]) nuv
    have huv : upd H3 uv (.tup [.str "variable", .str "c"]) uv = some (.tup [.str "variable", .str "c"]) := upd_same
    generalize upd H3 uv (.tup [.str "variable", .str "c"]) = Guv at *
    refine And.intro (by show 2 ≤ sizeLine; decide) <| fun un nun => ?_
    have kun := Keep.new (W := []) (o := .tup [.str "number", .int 1]) nun
    have Pun := Puv.new (o := .tup [.str "number", .int 1]) nun
    have hun : upd Guv un (.tup [.str "number", .int 1]) un = some (.tup [.str "number", .int 1]) := upd_same
    replace huv := kun _ _ huv (by simp)
    generalize upd Guv un (.tup [.str "number", .int 1]) = Gun at *
    refine And.intro (by show 3 ≤ sizeLine; decide) <| fun um num => ?_
    have kum := Keep.new (W := []) (o := .tup [.str "-", .ref uv, .ref un]) num
    have Pum := Pun.new (o := .tup [.str "-", .ref uv, .ref un]) num
    have hum : upd Gun um (.tup [.str "-", .ref uv, .ref un]) um = some (.tup [.str "-", .ref uv, .ref un]) := upd_same
    replace huv := kum _ _ huv (by simp)
    replace hun := kum _ _ hun (by simp)
    generalize upd Gun um (.tup [.str "-", .ref uv, .ref un]) = Gum at *
    refine And.intro (by show 3 ≤ sizeLine; decide) <| fun us nus => ?_
    have kus := Keep.new (W := []) (o := .tup [.str "set", .str "c", .ref um]) nus
    have Pus := Pum.new (o := .tup [.str "set", .str "c", .ref um]) nus
    have hus : upd Gum us (.tup [.str "set", .str "c", .ref um]) us = some (.tup [.str "set", .str "c", .ref um]) := upd_same
    replace huv := kus _ _ huv (by simp)
    replace hun := kus _ _ hun (by simp)
    replace hum := kus _ _ hum (by simp)
    generalize upd Gum us (.tup [.str "set", .str "c", .ref um]) = Gus at *
    refine And.intro (by show 2 ≤ sizeLine; decide) <| fun uw nuw => ?_
    have kuw := Keep.new (W := []) (o := .tup [.str "variable", .str "c"]) nuw
    have Puw := Pus.new (o := .tup [.str "variable", .str "c"]) nuw
    have huw : upd Gus uw (.tup [.str "variable", .str "c"]) uw = some (.tup [.str "variable", .str "c"]) := upd_same
    replace huv := kuw _ _ huv (by simp)
    replace hun := kuw _ _ hun (by simp)
    replace hum := kuw _ _ hum (by simp)
    replace hus := kuw _ _ hus (by simp)
    generalize upd Gus uw (.tup [.str "variable", .str "c"]) = Guw at *
    refine ⟨_, rfl, ?_⟩
    refine And.intro (by show 1 ≤ sizeLine; decide) <| fun ub nub => ?_
    have kub := Keep.new (W := []) (o := .tup [.ref us]) nub
    have Pub := Puw.new (o := .tup [.ref us]) nub
    have hub : upd Guw ub (.tup [.ref us]) ub = some (.tup [.ref us]) := upd_same
    replace huv := kub _ _ huv (by simp)
    replace hun := kub _ _ hun (by simp)
    replace hum := kub _ _ hum (by simp)
    replace hus := kub _ _ hus (by simp)
    replace huw := kub _ _ huw (by simp)
    generalize upd Guw ub (.tup [.ref us]) = Gub at *
    refine And.intro (by show 3 ≤ sizeLine; decide) <| fun ul nul => ?_
    have kul := Keep.new (W := []) (o := .tup [.str "while", .ref uw, .ref ub]) nul
    have Pul := Pub.new (o := .tup [.str "while", .ref uw, .ref ub]) nul
    have hul : upd Gub ul (.tup [.str "while", .ref uw, .ref ub]) ul = some (.tup [.str "while", .ref uw, .ref ub]) := upd_same
    replace huv := kul _ _ huv (by simp)
    replace hun := kul _ _ hun (by simp)
    replace hum := kul _ _ hum (by simp)
    replace hus := kul _ _ hus (by simp)
    replace huw := kul _ _ huw (by simp)
    replace hub := kul _ _ hub (by simp)
    generalize upd Gub ul (.tup [.str "while", .ref uw, .ref ub]) = Gul at *
    have hT : TV K Gul (.whl (.var "c") (.cons lessT .nil)) (.ref ul) := ⟨ul, .ref uw, ub, [.ref us], rfl, .inl hul, .var (.inl huw), .inl hub, ⟨.ref us, [], rfl, ⟨us, .ref um, rfl, .inl hus, .op (.inl hum) (.var (.inl huv)) (.num (.inl hun))⟩, rfl⟩⟩
    refine ⟨_, rfl, p, q, ns, 4, rfl, by decide, by decide, Pul, fun mo H4 o0 o1 P4 K4 => ⟨_, _, rfl, rfl, ?_⟩⟩
    have hT4 := TV.tk (Pul.tk K4) _ hT
    refine ⟨_, rfl, _, _, rfl, rfl, .inl ⟨by decide, by decide⟩, _, _, rfl, rfl, _, rfl, _, _, rfl, rfl, _, _, rfl, ?_⟩
    obtain ⟨un1, hun1⟩ : ∃ u : Int, u = (if 2 * (nm : Int) + 1 + (mo - 1) > 1 then 2 * (nm : Int) + 1 + (mo - 1) else 1) := ⟨_, rfl⟩
    show gName 7 (V.int (if 2 * (nm : Int) + 1 + (mo - 1) > 1 then 2 * (nm : Int) + 1 + (mo - 1) else 1)) _ _ _
    rw [← hun1]
    have un0 : 1 ≤ un1 ∧ un1 ≤ 65535 := by rw [hun1]; split <;> omega
    refine ⟨_, rfl, ?_⟩
    refine And.intro (by show 2 ≤ sizeLine; decide) <| fun uc5 nuc5 => ?_
    have kuc5 := Keep.new (W := []) (o := .tup [.str "c", .int 5]) nuc5
    have Puc5 := P4.new (o := .tup [.str "c", .int 5]) nuc5
    have huc5 : upd H4 uc5 (.tup [.str "c", .int 5]) uc5 = some (.tup [.str "c", .int 5]) := upd_same
    replace hT4 := TV.tk kuc5.tk _ hT4
    generalize upd H4 uc5 (.tup [.str "c", .int 5]) = Guc5 at *
    refine And.intro (by show 1 ≤ sizeLine; decide) <| fun uce nuce => ?_
    have kuce := Keep.new (W := []) (o := .tup [.ref uc5]) nuce
    have Puce := Puc5.new (o := .tup [.ref uc5]) nuce
    have huce : upd Guc5 uce (.tup [.ref uc5]) uce = some (.tup [.ref uc5]) := upd_same
    replace huc5 := kuce _ _ huc5 (by simp)
    replace hT4 := TV.tk kuce.tk _ hT4
    generalize upd Guc5 uce (.tup [.ref uc5]) = Guce at *
    refine ⟨_, rfl, ?_⟩
    refine And.intro (by show 1 ≤ sizeLine; decide) <| fun ubk nubk => ?_
    have kubk := Keep.new (W := []) (o := .tup [.ref ul]) nubk
    have Pubk := Puce.new (o := .tup [.ref ul]) nubk
    have hubk : upd Guce ubk (.tup [.ref ul]) ubk = some (.tup [.ref ul]) := upd_same
    replace huc5 := kubk _ _ huc5 (by simp)
    replace huce := kubk _ _ huce (by simp)
    replace hT4 := TV.tk kubk.tk _ hT4
    generalize upd Guce ubk (.tup [.ref ul]) = Gubk at *
    refine And.intro (by show 2 ≤ sizeLine; decide) <| fun uan nuan => ?_
    have kuan := Keep.new (W := []) (o := .tup [.str "number", .int 2]) nuan
    have Puan := Pubk.new (o := .tup [.str "number", .int 2]) nuan
    have huan : upd Gubk uan (.tup [.str "number", .int 2]) uan = some (.tup [.str "number", .int 2]) := upd_same
    replace huc5 := kuan _ _ huc5 (by simp)
    replace huce := kuan _ _ huce (by simp)
    replace hubk := kuan _ _ hubk (by simp)
    replace hT4 := TV.tk kuan.tk _ hT4
    generalize upd Gubk uan (.tup [.str "number", .int 2]) = Guan at *
    have hBd : Bd K Guan uce ubk (.ref uan) ["c"] [5] b1 an2 := ⟨⟨_, huce, .cons huc5 .nil⟩, ⟨[.ref ul], .inl hubk, ⟨.ref ul, [], rfl, hT4, rfl⟩⟩, .num (.inl huan)⟩
    refine fun B dB nB ndB neB => ?_
    have km : Keep [] Guan (upd (upd Guan dB (.own B)) B (.ins C_Brain dB [])) := Keep.made nB ndB
    refine ⟨B, dB, un1, uce, ubk, .ref uan, _, _, rfl, upd_same, km _ _ huce (by simp), .inl (km _ _ hubk (by simp)), fun H5 K5 oB5 => ⟨rfl, ?_⟩⟩
    have k45 : Keep [] Guan H5 := keep_made nB ndB K5
    have P5 := Puan.keep0 k45
    have hBd5 := hBd.tk k45.tk
    obtain ⟨dB5, oB5⟩ := oB5
    refine And.intro (by show 1 ≤ sizeLine; decide) <| fun d0 nd0 => And.intro (by show 2 ≤ sizeLine; decide) <| fun du ndu => ?_
    have kd := (Keep.new (W := []) (o := .tup [.int 0]) nd0).then_new (o := .tup [.int 2, .ref d0]) ndu
    have hd0 : upd (upd H5 d0 (.tup [.int 0])) du (.tup [.int 2, .ref d0]) d0 = some (.tup [.int 0]) := Keep.new (W := []) ndu _ _ upd_same (by simp)
    have hdu : upd (upd H5 d0 (.tup [.int 0])) du (.tup [.int 2, .ref d0]) du = some (.tup [.int 2, .ref d0]) := upd_same
    have P6 := (P5.new (o := .tup [.int 0]) nd0).new (o := .tup [.int 2, .ref d0]) ndu
    have oB6 := kd _ _ oB5 (by simp)
    have hBd6 := hBd5.tk kd.tk
    generalize upd (upd H5 d0 (.tup [.int 0])) du (.tup [.int 2, .ref d0]) = H6 at *
    have tb := fun seen => thk_b1 (k := nm) (u := un1) (seen := seen) un0.1
    refine ⟨fun σ H' => ∃ (du dc : Addr) (d : Int) (ds : List Int), σ = [some (.ref a), some (.ref p), some (.int lg), some (.int (nm : Int)), some (.ref us), some (.ref ul), some (.int (mo - 1)), some (.int un1), some (.ref B), some (.ref du)] ∧ H' du = some (.tup [.int d, .ref dc]) ∧ H' dc = some (.tup (ds.map V.int)) ∧ ds.length ≤ 1 ∧ (∀ seen, (thk ["c"] [(nm : Int)] b1 an2 3 seen [] un1 []).1 = d ∧ (thk ["c"] [(nm : Int)] b1 an2 3 seen [] un1 []).2.1 = ds) ∧ Pool H' p q ns ∧ Keep [] H6 H', ?_, ?_⟩
    · refine ⟨_, rfl, _, rfl, _, _, rfl, rfl, .inl ⟨by decide, by decide⟩, _, _, rfl, rfl, _, _, rfl, rfl, _, rfl, iteD (fun h => ?_) (fun h => ?_)⟩
      · have h' : un1 < 2 * (nm : Int) + 1 := h
        refine ⟨_, rfl, And.intro (by show 1 ≤ sizeLine; decide) <| fun e0 ne0 => And.intro (by show 2 ≤ sizeLine; decide) <| fun eu neu => ?_⟩
        have ke := (Keep.new (W := []) (o := .tup [.int (nm : Int)]) ne0).then_new (o := .tup [.int 0, .ref e0]) neu
        exact ⟨eu, e0, 0, [(nm : Int)], rfl, upd_same, Keep.new (W := []) neu _ _ upd_same (by simp), Nat.le_refl _, fun seen => (tb seen).2 h', P6.keep0 ke, ke⟩
      · have h' : ¬ un1 < 2 * (nm : Int) + 1 := h
        exact ⟨du, d0, 2, [0], rfl, hdu, hd0, Nat.le_refl _, fun seen => (tb seen).1 (by omega), P6, Keep.refl _ _⟩
    rintro σ H7 ⟨du, dc, d, ds, rfl, hdu7, hdc7, dl, ht7, P7, K67⟩
    have K57 : Keep [] H6 H7 := K67
    refine ⟨_, rfl, _, rfl, And.intro (by show 1 ≤ sizeLine; decide) <| fun ca nca => ⟨_, rfl, ?_⟩⟩
    have kc := Keep.new (W := []) (o := .tup [.int (nm : Int)]) nca
    have Pc := P7.new (o := .tup [.int (nm : Int)]) nca
    have K6c := K67.trans kc
    have co : CsOk [(nm : Int)] := fun z hz => by rw [List.mem_singleton] at hz; subst hz; omega
    refine ⟨B, uce, ubk, ca, du, dc, .ref uan, ["c"], [5], [(nm : Int)], b1, an2, un1, d, ds, rfl, ⟨dB5, K6c _ _ oB6 (by simp)⟩, hBd6.tk K6c.tk, b1_ok, b1_code, by omega, un0.2, co, rfl, upd_same, kc _ _ hdu7 (by simp), kc _ _ hdc7 (by simp), by omega, ht7, fun H8 K8 => ⟨_, rfl, iteF ?_⟩⟩
    have P8 := Pc.keep0 K8
    refine ⟨_, rfl, And.intro (by show 2 ≤ sizeLine; decide) <| fun v1 nv1 => ?_⟩
    obtain ⟨sy, hsy, sy0, sy1⟩ : ∃ sy : Int, atI [V.int 20000, V.int 65535] lg = some (.int sy) ∧ 0 < sy ∧ sy ≤ 65535 := by
      rcases lg01 with rfl | rfl
      · exact ⟨20000, rfl, by decide, by decide⟩
      · exact ⟨65535, rfl, by decide, by decide⟩
    refine ⟨_, rfl, _, _, _, _, rfl, rfl, SqT.of upd_same, hsy, p, q, ns, sy, rfl, sy0, by omega, P8.new nv1, fun r2 H9 e0 e1 P9 K9 => ⟨_, _, rfl, rfl, ?_⟩⟩
    obtain ⟨un2, hun2⟩ : ∃ u : Int, u = 1 + r2 := ⟨_, rfl⟩
    show gName 7 (V.int (1 + r2)) _ _ _
    rw [← hun2]
    refine ⟨_, rfl, ?_⟩
    refine And.intro (by show 2 ≤ sizeLine; decide) <| fun ua5 nua5 => ?_
    have kua5 := Keep.new (W := []) (o := .tup [.str "c", .int 5]) nua5
    have Pua5 := P9.new (o := .tup [.str "c", .int 5]) nua5
    have hua5 : upd H9 ua5 (.tup [.str "c", .int 5]) ua5 = some (.tup [.str "c", .int 5]) := upd_same
    generalize upd H9 ua5 (.tup [.str "c", .int 5]) = Gua5 at *
    refine And.intro (by show 1 ≤ sizeLine; decide) <| fun ua6 nua6 => ?_
    have kua6 := Keep.new (W := []) (o := .tup [.ref ua5]) nua6
    have Pua6 := Pua5.new (o := .tup [.ref ua5]) nua6
    have hua6 : upd Gua5 ua6 (.tup [.ref ua5]) ua6 = some (.tup [.ref ua5]) := upd_same
    replace hua5 := kua6 _ _ hua5 (by simp)
    generalize upd Gua5 ua6 (.tup [.ref ua5]) = Gua6 at *
    refine And.intro (by show 2 ≤ sizeLine; decide) <| fun ua7 nua7 => ?_
    have kua7 := Keep.new (W := []) (o := .tup [.str "number", .int 1]) nua7
    have Pua7 := Pua6.new (o := .tup [.str "number", .int 1]) nua7
    have hua7 : upd Gua6 ua7 (.tup [.str "number", .int 1]) ua7 = some (.tup [.str "number", .int 1]) := upd_same
    replace hua5 := kua7 _ _ hua5 (by simp)
    replace hua6 := kua7 _ _ hua6 (by simp)
    generalize upd Gua6 ua7 (.tup [.str "number", .int 1]) = Gua7 at *
    refine And.intro (by show 0 ≤ sizeLine; decide) <| fun ua8 nua8 => ?_
    have kua8 := Keep.new (W := []) (o := .tup []) nua8
    have Pua8 := Pua7.new (o := .tup []) nua8
    have hua8 : upd Gua7 ua8 (.tup []) ua8 = some (.tup []) := upd_same
    replace hua5 := kua8 _ _ hua5 (by simp)
    replace hua6 := kua8 _ _ hua6 (by simp)
    replace hua7 := kua8 _ _ hua7 (by simp)
    generalize upd Gua7 ua8 (.tup []) = Gua8 at *
    refine And.intro (by show 3 ≤ sizeLine; decide) <| fun ua9 nua9 => ?_
    have kua9 := Keep.new (W := []) (o := .tup [.str "while", .ref ua7, .ref ua8]) nua9
    have Pua9 := Pua8.new (o := .tup [.str "while", .ref ua7, .ref ua8]) nua9
    have hua9 : upd Gua8 ua9 (.tup [.str "while", .ref ua7, .ref ua8]) ua9 = some (.tup [.str "while", .ref ua7, .ref ua8]) := upd_same
    replace hua5 := kua9 _ _ hua5 (by simp)
    replace hua6 := kua9 _ _ hua6 (by simp)
    replace hua7 := kua9 _ _ hua7 (by simp)
    replace hua8 := kua9 _ _ hua8 (by simp)
    generalize upd Gua8 ua9 (.tup [.str "while", .ref ua7, .ref ua8]) = Gua9 at *
    refine And.intro (by show 1 ≤ sizeLine; decide) <| fun ub0 nub0 => ?_
    have kub0 := Keep.new (W := []) (o := .tup [.ref ua9]) nub0
    have Pub0 := Pua9.new (o := .tup [.ref ua9]) nub0
    have hub0 : upd Gua9 ub0 (.tup [.ref ua9]) ub0 = some (.tup [.ref ua9]) := upd_same
    replace hua5 := kub0 _ _ hua5 (by simp)
    replace hua6 := kub0 _ _ hua6 (by simp)
    replace hua7 := kub0 _ _ hua7 (by simp)
    replace hua8 := kub0 _ _ hua8 (by simp)
    replace hua9 := kub0 _ _ hua9 (by simp)
    generalize upd Gua9 ub0 (.tup [.ref ua9]) = Gub0 at *
    refine And.intro (by show 2 ≤ sizeLine; decide) <| fun ub1 nub1 => ?_
    have kub1 := Keep.new (W := []) (o := .tup [.str "number", .int 2]) nub1
    have Pub1 := Pub0.new (o := .tup [.str "number", .int 2]) nub1
    have hub1 : upd Gub0 ub1 (.tup [.str "number", .int 2]) ub1 = some (.tup [.str "number", .int 2]) := upd_same
    replace hua5 := kub1 _ _ hua5 (by simp)
    replace hua6 := kub1 _ _ hua6 (by simp)
    replace hua7 := kub1 _ _ hua7 (by simp)
    replace hua8 := kub1 _ _ hua8 (by simp)
    replace hua9 := kub1 _ _ hua9 (by simp)
    replace hub0 := kub1 _ _ hub0 (by simp)
    generalize upd Gub0 ub1 (.tup [.str "number", .int 2]) = Gub1 at *
    have hBe : Bd K Gub1 ua6 ub0 (.ref ub1) ["c"] [5] b2 an2 := ⟨⟨_, hua6, .cons hua5 .nil⟩, ⟨[.ref ua9], .inl hub0, ⟨.ref ua9, [], rfl, ⟨ua9, .ref ua7, ua8, [], rfl, .inl hua9, .num (.inl hua7), .inl hua8, rfl⟩, rfl⟩⟩, .num (.inl hub1)⟩
    refine fun B2 dB2 nB2 ndB2 neB2 => ?_
    have km2 : Keep [] Gub1 (upd (upd Gub1 dB2 (.own B2)) B2 (.ins C_Brain dB2 [])) := Keep.made nB2 ndB2
    refine ⟨B2, dB2, un2, ua6, ub0, .ref ub1, _, _, rfl, upd_same, km2 _ _ hua6 (by simp), .inl (km2 _ _ hub0 (by simp)), fun Ha Ka oBa => ⟨rfl, ?_⟩⟩
    have k9a : Keep [] Gub1 Ha := keep_made nB2 ndB2 Ka
    have hBea := hBe.tk k9a.tk
    obtain ⟨dBa, oBa⟩ := oBa
    refine ⟨_, rfl, _, rfl, And.intro (by show 1 ≤ sizeLine; decide) <| fun cb ncb => ⟨_, rfl, And.intro (by show 1 ≤ sizeLine; decide) <| fun cc ncc => And.intro (by show 2 ≤ sizeLine; decide) <| fun ce2 nce2 => ?_⟩⟩
    have kz := ((Keep.new (W := []) (o := .tup [.int (nm : Int)]) ncb).then_new (o := .tup [.int (nm : Int)]) ncc).then_new (o := .tup [.int 0, .ref cc]) nce2
    have hcb : upd (upd (upd Ha cb (.tup [.int (nm : Int)])) cc (.tup [.int (nm : Int)])) ce2 (.tup [.int 0, .ref cc]) cb = some (.tup [.int (nm : Int)]) := ((Keep.new (W := []) (o := .tup [.int (nm : Int)]) ncc).then_new (o := .tup [.int 0, .ref cc]) nce2) _ _ upd_same (by simp)
    have hcc : upd (upd (upd Ha cb (.tup [.int (nm : Int)])) cc (.tup [.int (nm : Int)])) ce2 (.tup [.int 0, .ref cc]) cc = some (.tup [.int (nm : Int)]) := (Keep.new (W := []) (o := .tup [.int 0, .ref cc]) nce2) _ _ upd_same (by simp)
    exact ⟨B2, ua6, ub0, cb, ce2, cc, .ref ub1, ["c"], [5], [(nm : Int)], b2, an2, un2, 0, [(nm : Int)], rfl, ⟨dBa, kz _ _ oBa (by simp)⟩, hBea.tk kz.tk, b2_ok, b2_code, by omega, by omega, co, rfl, hcb, upd_same, hcc, (by show 1 ≤ 1000; decide), fun seen => thk_b2 (by omega), fun Hz _ => k Hz⟩
end

theorem all_mk {l : PySem.W.OpenLaw} {w : World} {K : PySem.W.Frag} {h : Heap} {mg : Str → Option Value} {fa : Addr} (X : K.In h) (G : h.Ns mainGlobals mg) (hfa : mg "law" = some (.ref fa))
    {f_view_numbers : Addr} {od_view_numbers an_view_numbers : Option Addr} {sl_view_numbers : Array (Option Value)} {oc_view_numbers kV_view_numbers dc_view_numbers pm_view_numbers cd_view_numbers ct_view_numbers : Value}
    {f_think : Addr} {od_think an_think : Option Addr} {sl_think : Array (Option Value)} {oc_think kV_think dc_think pm_think cd_think ct_think : Value}
    {f_combine : Addr} {od_combine an_combine : Option Addr} {sl_combine : Array (Option Value)} {oc_combine kV_combine dc_combine pm_combine cd_combine ct_combine : Value}
    {f_value_of : Addr} {od_value_of an_value_of : Option Addr} {sl_value_of : Array (Option Value)} {oc_value_of kV_value_of dc_value_of pm_value_of cd_value_of ct_value_of : Value}
    {T_value_of : Addr} {oT_value_of : Value} {dT_value_of : Option Addr} {nT_value_of : Nat} {slT_value_of : Array (Option Value)} {E_value_of : Addr}
    {f_expression_code : Addr} {od_expression_code an_expression_code : Option Addr} {sl_expression_code : Array (Option Value)} {oc_expression_code kV_expression_code dc_expression_code pm_expression_code cd_expression_code ct_expression_code : Value}
    {f_branch_code : Addr} {od_branch_code an_branch_code : Option Addr} {sl_branch_code : Array (Option Value)} {oc_branch_code kV_branch_code dc_branch_code pm_branch_code cd_branch_code ct_branch_code : Value}
    {f_thoughts_code : Addr} {od_thoughts_code an_thoughts_code : Option Addr} {sl_thoughts_code : Array (Option Value)} {oc_thoughts_code kV_thoughts_code dc_thoughts_code pm_thoughts_code cd_thoughts_code ct_thoughts_code : Value}
    {f_brain_code : Addr} {od_brain_code an_brain_code : Option Addr} {sl_brain_code : Array (Option Value)} {oc_brain_code kV_brain_code dc_brain_code pm_brain_code cd_brain_code ct_brain_code : Value}
    {f_names_of : Addr} {od_names_of an_names_of : Option Addr} {sl_names_of : Array (Option Value)} {oc_names_of kV_names_of dc_names_of pm_names_of cd_names_of ct_names_of : Value}
    {f_mind_of : Addr} {od_mind_of an_mind_of : Option Addr} {sl_mind_of : Array (Option Value)} {oc_mind_of kV_mind_of dc_mind_of pm_mind_of cd_mind_of ct_mind_of : Value}
    {f_think_by_code : Addr} {od_think_by_code an_think_by_code : Option Addr} {sl_think_by_code : Array (Option Value)} {oc_think_by_code kV_think_by_code dc_think_by_code pm_think_by_code cd_think_by_code ct_think_by_code : Value}
    {f_law_pool : Addr} {od_law_pool an_law_pool : Option Addr} {sl_law_pool : Array (Option Value)} {oc_law_pool kV_law_pool dc_law_pool pm_law_pool cd_law_pool ct_law_pool : Value}
    {f_law_draw : Addr} {od_law_draw an_law_draw : Option Addr} {sl_law_draw : Array (Option Value)} {oc_law_draw kV_law_draw dc_law_draw pm_law_draw cd_law_draw ct_law_draw : Value}
    {f_law_same : Addr} {od_law_same an_law_same : Option Addr} {sl_law_same : Array (Option Value)} {oc_law_same kV_law_same dc_law_same pm_law_same cd_law_same ct_law_same : Value}
    {f_law_both : Addr} {od_law_both an_law_both : Option Addr} {sl_law_both : Array (Option Value)} {oc_law_both kV_law_both dc_law_both pm_law_both cd_law_both ct_law_both : Value}
    {f_law : Addr} {od_law an_law : Option Addr} {sl_law : Array (Option Value)} {oc_law kV_law dc_law pm_law cd_law ct_law : Value}
    {C_Tape : Addr}
    {C_Thinker : Addr}
    {C_Brain : Addr}
    {C_Mind : Addr}
    {C_Frame : Addr}
    {C_Thinking : Addr}
    {f_Tape___init : Addr} {od_Tape___init an_Tape___init : Option Addr} {sl_Tape___init : Array (Option Value)} {oc_Tape___init kV_Tape___init dc_Tape___init pm_Tape___init cd_Tape___init ct_Tape___init : Value}
    {f_Tape_take : Addr} {od_Tape_take an_Tape_take : Option Addr} {sl_Tape_take : Array (Option Value)} {oc_Tape_take kV_Tape_take dc_Tape_take pm_Tape_take cd_Tape_take ct_Tape_take : Value}
    {f_Brain___init : Addr} {od_Brain___init an_Brain___init : Option Addr} {sl_Brain___init : Array (Option Value)} {oc_Brain___init kV_Brain___init dc_Brain___init pm_Brain___init cd_Brain___init ct_Brain___init : Value}
    {f_Brain_start : Addr} {od_Brain_start an_Brain_start : Option Addr} {sl_Brain_start : Array (Option Value)} {oc_Brain_start kV_Brain_start dc_Brain_start pm_Brain_start cd_Brain_start ct_Brain_start : Value}
    {f_Mind___init : Addr} {od_Mind___init an_Mind___init : Option Addr} {sl_Mind___init : Array (Option Value)} {oc_Mind___init kV_Mind___init dc_Mind___init pm_Mind___init cd_Mind___init ct_Mind___init : Value}
    {f_Thinker___init : Addr} {od_Thinker___init an_Thinker___init : Option Addr} {sl_Thinker___init : Array (Option Value)} {oc_Thinker___init kV_Thinker___init dc_Thinker___init pm_Thinker___init cd_Thinker___init ct_Thinker___init : Value}
    {f_Thinker_value : Addr} {od_Thinker_value an_Thinker_value : Option Addr} {sl_Thinker_value : Array (Option Value)} {oc_Thinker_value kV_Thinker_value dc_Thinker_value pm_Thinker_value cd_Thinker_value ct_Thinker_value : Value}
    {f_Thinker_unit : Addr} {od_Thinker_unit an_Thinker_unit : Option Addr} {sl_Thinker_unit : Array (Option Value)} {oc_Thinker_unit kV_Thinker_unit dc_Thinker_unit pm_Thinker_unit cd_Thinker_unit ct_Thinker_unit : Value}
    {f_Thinker_run : Addr} {od_Thinker_run an_Thinker_run : Option Addr} {sl_Thinker_run : Array (Option Value)} {oc_Thinker_run kV_Thinker_run dc_Thinker_run pm_Thinker_run cd_Thinker_run ct_Thinker_run : Value}
    {f_Thinker_step : Addr} {od_Thinker_step an_Thinker_step : Option Addr} {sl_Thinker_step : Array (Option Value)} {oc_Thinker_step kV_Thinker_step dc_Thinker_step pm_Thinker_step cd_Thinker_step ct_Thinker_step : Value}
    {f_Thinker_loop : Addr} {od_Thinker_loop an_Thinker_loop : Option Addr} {sl_Thinker_loop : Array (Option Value)} {oc_Thinker_loop kV_Thinker_loop dc_Thinker_loop pm_Thinker_loop cd_Thinker_loop ct_Thinker_loop : Value}
    {f_Frame___init : Addr} {od_Frame___init an_Frame___init : Option Addr} {sl_Frame___init : Array (Option Value)} {oc_Frame___init kV_Frame___init dc_Frame___init pm_Frame___init cd_Frame___init ct_Frame___init : Value}
    {f_Frame_advance : Addr} {od_Frame_advance an_Frame_advance : Option Addr} {sl_Frame_advance : Array (Option Value)} {oc_Frame_advance kV_Frame_advance dc_Frame_advance pm_Frame_advance cd_Frame_advance ct_Frame_advance : Value}
    {f_Thinking_special : Addr} {od_Thinking_special an_Thinking_special : Option Addr} {sl_Thinking_special : Array (Option Value)} {oc_Thinking_special kV_Thinking_special dc_Thinking_special pm_Thinking_special cd_Thinking_special ct_Thinking_special : Value}
    {f_Thinking___init cda_Thinking___init cc_Thinking___init : Addr} {od_Thinking___init an_Thinking___init cld_Thinking___init cdd_Thinking___init : Option Addr} {sl_Thinking___init csl_Thinking___init ccs_Thinking___init : Array (Option Value)} {vs_Thinking___init : Array Value} {oc_Thinking___init kV_Thinking___init dc_Thinking___init pm_Thinking___init ct_Thinking___init cl_Thinking___init ccl_Thinking___init : Value} {file_Thinking___init : Str} {tf_Thinking___init : Tok}
    {t_GREATEST : Tok}
    {T_EVENTS : Addr} {nn_EVENTS : Nat} {sl_EVENTS : Array (Option Value)} {t_EVENTS0 t_EVENTS1 t_EVENTS2 t_EVENTS3 : Tok}
    {T_SIGNS : Addr} {nn_SIGNS : Nat} {sl_SIGNS : Array (Option Value)} {t_SIGNS0 t_SIGNS1 t_SIGNS2 t_SIGNS3 t_SIGNS4 t_SIGNS5 t_SIGNS6 : Tok}
    (a_view_numbers : PySem.W.nsIn K mainGlobals "view_numbers" = some (some (.ref f_view_numbers))) (l_view_numbers : K.lookup f_view_numbers = some ⟨oc_view_numbers, od_view_numbers, .func (PySem.W.fnOf "view_numbers" "view_numbers" (fnArgs s_view_numbers) (fnBody s_view_numbers) (fnScope s_view_numbers) .none kV_view_numbers dc_view_numbers pm_view_numbers an_view_numbers cd_view_numbers ct_view_numbers), sl_view_numbers⟩) (c_view_numbers : PySem.W.codeIn K cd_view_numbers "view_numbers" = true) (k_view_numbers : PySem.W.keepIn K (.ref f_view_numbers) = true)
    (a_think : PySem.W.nsIn K mainGlobals "think" = some (some (.ref f_think))) (l_think : K.lookup f_think = some ⟨oc_think, od_think, .func (PySem.W.fnOf "think" "think" (fnArgs s_think) (fnBody s_think) (fnScope s_think) .none kV_think dc_think pm_think an_think cd_think ct_think), sl_think⟩) (c_think : PySem.W.codeIn K cd_think "think" = true) (k_think : PySem.W.keepIn K (.ref f_think) = true)
    (a_combine : PySem.W.nsIn K mainGlobals "combine" = some (some (.ref f_combine))) (l_combine : K.lookup f_combine = some ⟨oc_combine, od_combine, .func (PySem.W.fnOf "combine" "combine" (fnArgs s_combine) (fnBody s_combine) (fnScope s_combine) .none kV_combine dc_combine pm_combine an_combine cd_combine ct_combine), sl_combine⟩) (c_combine : PySem.W.codeIn K cd_combine "combine" = true) (k_combine : PySem.W.keepIn K (.ref f_combine) = true)
    (a_value_of : PySem.W.nsIn K mainGlobals "value_of" = some (some (.ref f_value_of))) (l_value_of : K.lookup f_value_of = some ⟨oc_value_of, od_value_of, .func (PySem.W.fnOf "value_of" "value_of" (fnArgs s_value_of) (fnBody s_value_of) (fnScope s_value_of) (.ref T_value_of) kV_value_of dc_value_of pm_value_of an_value_of cd_value_of ct_value_of), sl_value_of⟩) (c_value_of : PySem.W.codeIn K cd_value_of "value_of" = true) (k_value_of : PySem.W.keepIn K (.ref f_value_of) = true)
    (lT_value_of : K.lookup T_value_of = some ⟨oT_value_of, dT_value_of, .seq #[.ref E_value_of] nT_value_of, slT_value_of⟩)
    (a_expression_code : PySem.W.nsIn K mainGlobals "expression_code" = some (some (.ref f_expression_code))) (l_expression_code : K.lookup f_expression_code = some ⟨oc_expression_code, od_expression_code, .func (PySem.W.fnOf "expression_code" "expression_code" (fnArgs s_expression_code) (fnBody s_expression_code) (fnScope s_expression_code) .none kV_expression_code dc_expression_code pm_expression_code an_expression_code cd_expression_code ct_expression_code), sl_expression_code⟩) (c_expression_code : PySem.W.codeIn K cd_expression_code "expression_code" = true) (k_expression_code : PySem.W.keepIn K (.ref f_expression_code) = true)
    (a_branch_code : PySem.W.nsIn K mainGlobals "branch_code" = some (some (.ref f_branch_code))) (l_branch_code : K.lookup f_branch_code = some ⟨oc_branch_code, od_branch_code, .func (PySem.W.fnOf "branch_code" "branch_code" (fnArgs s_branch_code) (fnBody s_branch_code) (fnScope s_branch_code) .none kV_branch_code dc_branch_code pm_branch_code an_branch_code cd_branch_code ct_branch_code), sl_branch_code⟩) (c_branch_code : PySem.W.codeIn K cd_branch_code "branch_code" = true) (k_branch_code : PySem.W.keepIn K (.ref f_branch_code) = true)
    (a_thoughts_code : PySem.W.nsIn K mainGlobals "thoughts_code" = some (some (.ref f_thoughts_code))) (l_thoughts_code : K.lookup f_thoughts_code = some ⟨oc_thoughts_code, od_thoughts_code, .func (PySem.W.fnOf "thoughts_code" "thoughts_code" (fnArgs s_thoughts_code) (fnBody s_thoughts_code) (fnScope s_thoughts_code) .none kV_thoughts_code dc_thoughts_code pm_thoughts_code an_thoughts_code cd_thoughts_code ct_thoughts_code), sl_thoughts_code⟩) (c_thoughts_code : PySem.W.codeIn K cd_thoughts_code "thoughts_code" = true) (k_thoughts_code : PySem.W.keepIn K (.ref f_thoughts_code) = true)
    (a_brain_code : PySem.W.nsIn K mainGlobals "brain_code" = some (some (.ref f_brain_code))) (l_brain_code : K.lookup f_brain_code = some ⟨oc_brain_code, od_brain_code, .func (PySem.W.fnOf "brain_code" "brain_code" (fnArgs s_brain_code) (fnBody s_brain_code) (fnScope s_brain_code) .none kV_brain_code dc_brain_code pm_brain_code an_brain_code cd_brain_code ct_brain_code), sl_brain_code⟩) (c_brain_code : PySem.W.codeIn K cd_brain_code "brain_code" = true) (k_brain_code : PySem.W.keepIn K (.ref f_brain_code) = true)
    (a_names_of : PySem.W.nsIn K mainGlobals "names_of" = some (some (.ref f_names_of))) (l_names_of : K.lookup f_names_of = some ⟨oc_names_of, od_names_of, .func (PySem.W.fnOf "names_of" "names_of" (fnArgs s_names_of) (fnBody s_names_of) (fnScope s_names_of) .none kV_names_of dc_names_of pm_names_of an_names_of cd_names_of ct_names_of), sl_names_of⟩) (c_names_of : PySem.W.codeIn K cd_names_of "names_of" = true) (k_names_of : PySem.W.keepIn K (.ref f_names_of) = true)
    (a_mind_of : PySem.W.nsIn K mainGlobals "mind_of" = some (some (.ref f_mind_of))) (l_mind_of : K.lookup f_mind_of = some ⟨oc_mind_of, od_mind_of, .func (PySem.W.fnOf "mind_of" "mind_of" (fnArgs s_mind_of) (fnBody s_mind_of) (fnScope s_mind_of) .none kV_mind_of dc_mind_of pm_mind_of an_mind_of cd_mind_of ct_mind_of), sl_mind_of⟩) (c_mind_of : PySem.W.codeIn K cd_mind_of "mind_of" = true) (k_mind_of : PySem.W.keepIn K (.ref f_mind_of) = true)
    (a_think_by_code : PySem.W.nsIn K mainGlobals "think_by_code" = some (some (.ref f_think_by_code))) (l_think_by_code : K.lookup f_think_by_code = some ⟨oc_think_by_code, od_think_by_code, .func (PySem.W.fnOf "think_by_code" "think_by_code" (fnArgs s_think_by_code) (fnBody s_think_by_code) (fnScope s_think_by_code) .none kV_think_by_code dc_think_by_code pm_think_by_code an_think_by_code cd_think_by_code ct_think_by_code), sl_think_by_code⟩) (c_think_by_code : PySem.W.codeIn K cd_think_by_code "think_by_code" = true) (k_think_by_code : PySem.W.keepIn K (.ref f_think_by_code) = true)
    (a_law_pool : PySem.W.nsIn K mainGlobals "_law_pool" = some (some (.ref f_law_pool))) (l_law_pool : K.lookup f_law_pool = some ⟨oc_law_pool, od_law_pool, .func (PySem.W.fnOf "_law_pool" "_law_pool" (fnArgs s_law_pool) (fnBody s_law_pool) (fnScope s_law_pool) .none kV_law_pool dc_law_pool pm_law_pool an_law_pool cd_law_pool ct_law_pool), sl_law_pool⟩) (c_law_pool : PySem.W.codeIn K cd_law_pool "_law_pool" = true) (k_law_pool : PySem.W.keepIn K (.ref f_law_pool) = true)
    (a_law_draw : PySem.W.nsIn K mainGlobals "_law_draw" = some (some (.ref f_law_draw))) (l_law_draw : K.lookup f_law_draw = some ⟨oc_law_draw, od_law_draw, .func (PySem.W.fnOf "_law_draw" "_law_draw" (fnArgs s_law_draw) (fnBody s_law_draw) (fnScope s_law_draw) .none kV_law_draw dc_law_draw pm_law_draw an_law_draw cd_law_draw ct_law_draw), sl_law_draw⟩) (c_law_draw : PySem.W.codeIn K cd_law_draw "_law_draw" = true) (k_law_draw : PySem.W.keepIn K (.ref f_law_draw) = true)
    (a_law_same : PySem.W.nsIn K mainGlobals "_law_same" = some (some (.ref f_law_same))) (l_law_same : K.lookup f_law_same = some ⟨oc_law_same, od_law_same, .func (PySem.W.fnOf "_law_same" "_law_same" (fnArgs s_law_same) (fnBody s_law_same) (fnScope s_law_same) .none kV_law_same dc_law_same pm_law_same an_law_same cd_law_same ct_law_same), sl_law_same⟩) (c_law_same : PySem.W.codeIn K cd_law_same "_law_same" = true) (k_law_same : PySem.W.keepIn K (.ref f_law_same) = true)
    (a_law_both : PySem.W.nsIn K mainGlobals "_law_both" = some (some (.ref f_law_both))) (l_law_both : K.lookup f_law_both = some ⟨oc_law_both, od_law_both, .func (PySem.W.fnOf "_law_both" "_law_both" (fnArgs s_law_both) (fnBody s_law_both) (fnScope s_law_both) .none kV_law_both dc_law_both pm_law_both an_law_both cd_law_both ct_law_both), sl_law_both⟩) (c_law_both : PySem.W.codeIn K cd_law_both "_law_both" = true) (k_law_both : PySem.W.keepIn K (.ref f_law_both) = true)
    (a_law : PySem.W.nsIn K mainGlobals "law" = some (some (.ref f_law))) (l_law : K.lookup f_law = some ⟨oc_law, od_law, .func (PySem.W.fnOf "law" "law" (fnArgs s_law) (fnBody s_law) (fnScope s_law) .none kV_law dc_law pm_law an_law cd_law ct_law), sl_law⟩) (c_law : PySem.W.codeIn K cd_law "law" = true) (k_law : PySem.W.keepIn K (.ref f_law) = true)
    (mc_Tape : PySem.W.nsIn K mainGlobals "Tape" = some (some (.ref C_Tape)))
    (pg_Tape : PySem.W.plainGet K C_Tape Str.empty = true)
    (hd_Tape : PySem.W.hasDictIn K C_Tape = true)
    (po_Tape : PySem.W.plainOver K C_Tape = true)
    (sa_Tape : PySem.W.findIn K (.ref C_Tape) "__setattr__" = some (some (.builtin "object.__setattr__")))
    (mk_Tape : PySem.W.makesIn K C_Tape = true)
    (kc_Tape : PySem.W.keepIn K (.ref C_Tape) = true)
    (ha_Tape : PySem.W.findIn K (.ref C_Tape) "__class__" = some (some (.builtin "object.__class__")))
    (hn_Tape : PySem.W.specialIn K (.builtin "object.__class__") "__get__" = some (some (.builtin "getset_descriptor.__get__")))
    (ht_Tape : PySem.W.takesIn K (.builtin "object.__class__") = some true)
    (hm_Tape : PySem.W.mroIn K C_Tape (.type "object") = some true)
    (nresults_Tape : PySem.W.findIn K (.ref C_Tape) "results" = some none)
    (ntaken_Tape : PySem.W.findIn K (.ref C_Tape) "taken" = some none)
    (mc_Thinker : PySem.W.nsIn K mainGlobals "Thinker" = some (some (.ref C_Thinker)))
    (pg_Thinker : PySem.W.plainGet K C_Thinker Str.empty = true)
    (hd_Thinker : PySem.W.hasDictIn K C_Thinker = true)
    (po_Thinker : PySem.W.plainOver K C_Thinker = true)
    (sa_Thinker : PySem.W.findIn K (.ref C_Thinker) "__setattr__" = some (some (.builtin "object.__setattr__")))
    (mk_Thinker : PySem.W.makesIn K C_Thinker = true)
    (kc_Thinker : PySem.W.keepIn K (.ref C_Thinker) = true)
    (ha_Thinker : PySem.W.findIn K (.ref C_Thinker) "__class__" = some (some (.builtin "object.__class__")))
    (hn_Thinker : PySem.W.specialIn K (.builtin "object.__class__") "__get__" = some (some (.builtin "getset_descriptor.__get__")))
    (ht_Thinker : PySem.W.takesIn K (.builtin "object.__class__") = some true)
    (hm_Thinker : PySem.W.mroIn K C_Thinker (.type "object") = some true)
    (ntable_Thinker : PySem.W.findIn K (.ref C_Thinker) "table" = some none)
    (nleft_Thinker : PySem.W.findIn K (.ref C_Thinker) "left" = some none)
    (nseen_Thinker : PySem.W.findIn K (.ref C_Thinker) "seen" = some none)
    (ntape_Thinker : PySem.W.findIn K (.ref C_Thinker) "tape" = some none)
    (mc_Brain : PySem.W.nsIn K mainGlobals "Brain" = some (some (.ref C_Brain)))
    (pg_Brain : PySem.W.plainGet K C_Brain Str.empty = true)
    (hd_Brain : PySem.W.hasDictIn K C_Brain = true)
    (po_Brain : PySem.W.plainOver K C_Brain = true)
    (sa_Brain : PySem.W.findIn K (.ref C_Brain) "__setattr__" = some (some (.builtin "object.__setattr__")))
    (mk_Brain : PySem.W.makesIn K C_Brain = true)
    (kc_Brain : PySem.W.keepIn K (.ref C_Brain) = true)
    (ha_Brain : PySem.W.findIn K (.ref C_Brain) "__class__" = some (some (.builtin "object.__class__")))
    (hn_Brain : PySem.W.specialIn K (.builtin "object.__class__") "__get__" = some (some (.builtin "getset_descriptor.__get__")))
    (ht_Brain : PySem.W.takesIn K (.builtin "object.__class__") = some true)
    (hm_Brain : PySem.W.mroIn K C_Brain (.type "object") = some true)
    (nunits_Brain : PySem.W.findIn K (.ref C_Brain) "units" = some none)
    (ncells_Brain : PySem.W.findIn K (.ref C_Brain) "cells" = some none)
    (nblock_Brain : PySem.W.findIn K (.ref C_Brain) "block" = some none)
    (nanswer_Brain : PySem.W.findIn K (.ref C_Brain) "answer" = some none)
    (mc_Mind : PySem.W.nsIn K mainGlobals "Mind" = some (some (.ref C_Mind)))
    (pg_Mind : PySem.W.plainGet K C_Mind Str.empty = true)
    (hd_Mind : PySem.W.hasDictIn K C_Mind = true)
    (po_Mind : PySem.W.plainOver K C_Mind = true)
    (sa_Mind : PySem.W.findIn K (.ref C_Mind) "__setattr__" = some (some (.builtin "object.__setattr__")))
    (mk_Mind : PySem.W.makesIn K C_Mind = true)
    (kc_Mind : PySem.W.keepIn K (.ref C_Mind) = true)
    (ha_Mind : PySem.W.findIn K (.ref C_Mind) "__class__" = some (some (.builtin "object.__class__")))
    (hn_Mind : PySem.W.specialIn K (.builtin "object.__class__") "__get__" = some (some (.builtin "getset_descriptor.__get__")))
    (ht_Mind : PySem.W.takesIn K (.builtin "object.__class__") = some true)
    (hm_Mind : PySem.W.mroIn K C_Mind (.type "object") = some true)
    (nunits_Mind : PySem.W.findIn K (.ref C_Mind) "units" = some none)
    (ncells_Mind : PySem.W.findIn K (.ref C_Mind) "cells" = some none)
    (ncode_Mind : PySem.W.findIn K (.ref C_Mind) "code" = some none)
    (mc_Frame : PySem.W.nsIn K mainGlobals "Frame" = some (some (.ref C_Frame)))
    (pg_Frame : PySem.W.plainGet K C_Frame Str.empty = true)
    (hd_Frame : PySem.W.hasDictIn K C_Frame = true)
    (po_Frame : PySem.W.plainOver K C_Frame = true)
    (sa_Frame : PySem.W.findIn K (.ref C_Frame) "__setattr__" = some (some (.builtin "object.__setattr__")))
    (mk_Frame : PySem.W.makesIn K C_Frame = true)
    (kc_Frame : PySem.W.keepIn K (.ref C_Frame) = true)
    (ha_Frame : PySem.W.findIn K (.ref C_Frame) "__class__" = some (some (.builtin "object.__class__")))
    (hn_Frame : PySem.W.specialIn K (.builtin "object.__class__") "__get__" = some (some (.builtin "getset_descriptor.__get__")))
    (ht_Frame : PySem.W.takesIn K (.builtin "object.__class__") = some true)
    (hm_Frame : PySem.W.mroIn K C_Frame (.type "object") = some true)
    (ncode_Frame : PySem.W.findIn K (.ref C_Frame) "code" = some none)
    (ntable_Frame : PySem.W.findIn K (.ref C_Frame) "table" = some none)
    (ntape_Frame : PySem.W.findIn K (.ref C_Frame) "tape" = some none)
    (nat_Frame : PySem.W.findIn K (.ref C_Frame) "at" = some none)
    (nstack_Frame : PySem.W.findIn K (.ref C_Frame) "stack" = some none)
    (nsteps_Frame : PySem.W.findIn K (.ref C_Frame) "steps" = some none)
    (mc_Thinking : PySem.W.nsIn K mainGlobals "Thinking" = some (some (.ref C_Thinking)))
    (pg_Thinking : PySem.W.plainGet K C_Thinking Str.empty = true)
    (hd_Thinking : PySem.W.hasDictIn K C_Thinking = true)
    (po_Thinking : PySem.W.plainOver K C_Thinking = true)
    (sa_Thinking : PySem.W.findIn K (.ref C_Thinking) "__setattr__" = some (some (.builtin "object.__setattr__")))
    (mk_Thinking : PySem.W.makesIn K C_Thinking = true)
    (kc_Thinking : PySem.W.keepIn K (.ref C_Thinking) = true)
    (ha_Thinking : PySem.W.findIn K (.ref C_Thinking) "__class__" = some (some (.builtin "object.__class__")))
    (hn_Thinking : PySem.W.specialIn K (.builtin "object.__class__") "__get__" = some (some (.builtin "getset_descriptor.__get__")))
    (ht_Thinking : PySem.W.takesIn K (.builtin "object.__class__") = some true)
    (hm_Thinking : PySem.W.mroIn K C_Thinking (.type "object") = some true)
    (ncode_Thinking : PySem.W.findIn K (.ref C_Thinking) "code" = some none)
    (ntable_Thinking : PySem.W.findIn K (.ref C_Thinking) "table" = some none)
    (ntape_Thinking : PySem.W.findIn K (.ref C_Thinking) "tape" = some none)
    (nat_Thinking : PySem.W.findIn K (.ref C_Thinking) "at" = some none)
    (nstack_Thinking : PySem.W.findIn K (.ref C_Thinking) "stack" = some none)
    (nsteps_Thinking : PySem.W.findIn K (.ref C_Thinking) "steps" = some none)
    (nleft_Thinking : PySem.W.findIn K (.ref C_Thinking) "left" = some none)
    (nseen_Thinking : PySem.W.findIn K (.ref C_Thinking) "seen" = some none)
    (nsilent_Thinking : PySem.W.findIn K (.ref C_Thinking) "silent" = some none)
    (ndone_Thinking : PySem.W.findIn K (.ref C_Thinking) "done" = some none)
    (a_Tape___init : PySem.W.findIn K (.ref C_Tape) "__init__" = some (some (.ref f_Tape___init))) (i_Tape___init : PySem.W.isFn K (.ref f_Tape___init) = true) (l_Tape___init : K.lookup f_Tape___init = some ⟨oc_Tape___init, od_Tape___init, .func (PySem.W.fnOf "__init__" "Tape.__init__" (fnArgs s_Tape___init) (fnBody s_Tape___init) (fnScope s_Tape___init) .none kV_Tape___init dc_Tape___init pm_Tape___init an_Tape___init cd_Tape___init ct_Tape___init), sl_Tape___init⟩) (c_Tape___init : PySem.W.codeIn K cd_Tape___init "Tape.__init__" = true) (k_Tape___init : PySem.W.keepIn K (.ref f_Tape___init) = true)
    (a_Tape_take : PySem.W.findIn K (.ref C_Tape) "take" = some (some (.ref f_Tape_take))) (i_Tape_take : PySem.W.isFn K (.ref f_Tape_take) = true) (l_Tape_take : K.lookup f_Tape_take = some ⟨oc_Tape_take, od_Tape_take, .func (PySem.W.fnOf "take" "Tape.take" (fnArgs s_Tape_take) (fnBody s_Tape_take) (fnScope s_Tape_take) .none kV_Tape_take dc_Tape_take pm_Tape_take an_Tape_take cd_Tape_take ct_Tape_take), sl_Tape_take⟩) (c_Tape_take : PySem.W.codeIn K cd_Tape_take "Tape.take" = true) (k_Tape_take : PySem.W.keepIn K (.ref f_Tape_take) = true)
    (a_Brain___init : PySem.W.findIn K (.ref C_Brain) "__init__" = some (some (.ref f_Brain___init))) (i_Brain___init : PySem.W.isFn K (.ref f_Brain___init) = true) (l_Brain___init : K.lookup f_Brain___init = some ⟨oc_Brain___init, od_Brain___init, .func (PySem.W.fnOf "__init__" "Brain.__init__" (fnArgs s_Brain___init) (fnBody s_Brain___init) (fnScope s_Brain___init) .none kV_Brain___init dc_Brain___init pm_Brain___init an_Brain___init cd_Brain___init ct_Brain___init), sl_Brain___init⟩) (c_Brain___init : PySem.W.codeIn K cd_Brain___init "Brain.__init__" = true) (k_Brain___init : PySem.W.keepIn K (.ref f_Brain___init) = true)
    (a_Brain_start : PySem.W.findIn K (.ref C_Brain) "start" = some (some (.ref f_Brain_start))) (i_Brain_start : PySem.W.isFn K (.ref f_Brain_start) = true) (l_Brain_start : K.lookup f_Brain_start = some ⟨oc_Brain_start, od_Brain_start, .func (PySem.W.fnOf "start" "Brain.start" (fnArgs s_Brain_start) (fnBody s_Brain_start) (fnScope s_Brain_start) .none kV_Brain_start dc_Brain_start pm_Brain_start an_Brain_start cd_Brain_start ct_Brain_start), sl_Brain_start⟩) (c_Brain_start : PySem.W.codeIn K cd_Brain_start "Brain.start" = true) (k_Brain_start : PySem.W.keepIn K (.ref f_Brain_start) = true)
    (a_Mind___init : PySem.W.findIn K (.ref C_Mind) "__init__" = some (some (.ref f_Mind___init))) (i_Mind___init : PySem.W.isFn K (.ref f_Mind___init) = true) (l_Mind___init : K.lookup f_Mind___init = some ⟨oc_Mind___init, od_Mind___init, .func (PySem.W.fnOf "__init__" "Mind.__init__" (fnArgs s_Mind___init) (fnBody s_Mind___init) (fnScope s_Mind___init) .none kV_Mind___init dc_Mind___init pm_Mind___init an_Mind___init cd_Mind___init ct_Mind___init), sl_Mind___init⟩) (c_Mind___init : PySem.W.codeIn K cd_Mind___init "Mind.__init__" = true) (k_Mind___init : PySem.W.keepIn K (.ref f_Mind___init) = true)
    (a_Thinker___init : PySem.W.findIn K (.ref C_Thinker) "__init__" = some (some (.ref f_Thinker___init))) (i_Thinker___init : PySem.W.isFn K (.ref f_Thinker___init) = true) (l_Thinker___init : K.lookup f_Thinker___init = some ⟨oc_Thinker___init, od_Thinker___init, .func (PySem.W.fnOf "__init__" "Thinker.__init__" (fnArgs s_Thinker___init) (fnBody s_Thinker___init) (fnScope s_Thinker___init) .none kV_Thinker___init dc_Thinker___init pm_Thinker___init an_Thinker___init cd_Thinker___init ct_Thinker___init), sl_Thinker___init⟩) (c_Thinker___init : PySem.W.codeIn K cd_Thinker___init "Thinker.__init__" = true) (k_Thinker___init : PySem.W.keepIn K (.ref f_Thinker___init) = true)
    (a_Thinker_value : PySem.W.findIn K (.ref C_Thinker) "value" = some (some (.ref f_Thinker_value))) (i_Thinker_value : PySem.W.isFn K (.ref f_Thinker_value) = true) (l_Thinker_value : K.lookup f_Thinker_value = some ⟨oc_Thinker_value, od_Thinker_value, .func (PySem.W.fnOf "value" "Thinker.value" (fnArgs s_Thinker_value) (fnBody s_Thinker_value) (fnScope s_Thinker_value) .none kV_Thinker_value dc_Thinker_value pm_Thinker_value an_Thinker_value cd_Thinker_value ct_Thinker_value), sl_Thinker_value⟩) (c_Thinker_value : PySem.W.codeIn K cd_Thinker_value "Thinker.value" = true) (k_Thinker_value : PySem.W.keepIn K (.ref f_Thinker_value) = true)
    (a_Thinker_unit : PySem.W.findIn K (.ref C_Thinker) "unit" = some (some (.ref f_Thinker_unit))) (i_Thinker_unit : PySem.W.isFn K (.ref f_Thinker_unit) = true) (l_Thinker_unit : K.lookup f_Thinker_unit = some ⟨oc_Thinker_unit, od_Thinker_unit, .func (PySem.W.fnOf "unit" "Thinker.unit" (fnArgs s_Thinker_unit) (fnBody s_Thinker_unit) (fnScope s_Thinker_unit) .none kV_Thinker_unit dc_Thinker_unit pm_Thinker_unit an_Thinker_unit cd_Thinker_unit ct_Thinker_unit), sl_Thinker_unit⟩) (c_Thinker_unit : PySem.W.codeIn K cd_Thinker_unit "Thinker.unit" = true) (k_Thinker_unit : PySem.W.keepIn K (.ref f_Thinker_unit) = true)
    (a_Thinker_run : PySem.W.findIn K (.ref C_Thinker) "run" = some (some (.ref f_Thinker_run))) (i_Thinker_run : PySem.W.isFn K (.ref f_Thinker_run) = true) (l_Thinker_run : K.lookup f_Thinker_run = some ⟨oc_Thinker_run, od_Thinker_run, .func (PySem.W.fnOf "run" "Thinker.run" (fnArgs s_Thinker_run) (fnBody s_Thinker_run) (fnScope s_Thinker_run) .none kV_Thinker_run dc_Thinker_run pm_Thinker_run an_Thinker_run cd_Thinker_run ct_Thinker_run), sl_Thinker_run⟩) (c_Thinker_run : PySem.W.codeIn K cd_Thinker_run "Thinker.run" = true) (k_Thinker_run : PySem.W.keepIn K (.ref f_Thinker_run) = true)
    (a_Thinker_step : PySem.W.findIn K (.ref C_Thinker) "step" = some (some (.ref f_Thinker_step))) (i_Thinker_step : PySem.W.isFn K (.ref f_Thinker_step) = true) (l_Thinker_step : K.lookup f_Thinker_step = some ⟨oc_Thinker_step, od_Thinker_step, .func (PySem.W.fnOf "step" "Thinker.step" (fnArgs s_Thinker_step) (fnBody s_Thinker_step) (fnScope s_Thinker_step) .none kV_Thinker_step dc_Thinker_step pm_Thinker_step an_Thinker_step cd_Thinker_step ct_Thinker_step), sl_Thinker_step⟩) (c_Thinker_step : PySem.W.codeIn K cd_Thinker_step "Thinker.step" = true) (k_Thinker_step : PySem.W.keepIn K (.ref f_Thinker_step) = true)
    (a_Thinker_loop : PySem.W.findIn K (.ref C_Thinker) "loop" = some (some (.ref f_Thinker_loop))) (i_Thinker_loop : PySem.W.isFn K (.ref f_Thinker_loop) = true) (l_Thinker_loop : K.lookup f_Thinker_loop = some ⟨oc_Thinker_loop, od_Thinker_loop, .func (PySem.W.fnOf "loop" "Thinker.loop" (fnArgs s_Thinker_loop) (fnBody s_Thinker_loop) (fnScope s_Thinker_loop) .none kV_Thinker_loop dc_Thinker_loop pm_Thinker_loop an_Thinker_loop cd_Thinker_loop ct_Thinker_loop), sl_Thinker_loop⟩) (c_Thinker_loop : PySem.W.codeIn K cd_Thinker_loop "Thinker.loop" = true) (k_Thinker_loop : PySem.W.keepIn K (.ref f_Thinker_loop) = true)
    (a_Frame___init : PySem.W.findIn K (.ref C_Frame) "__init__" = some (some (.ref f_Frame___init))) (i_Frame___init : PySem.W.isFn K (.ref f_Frame___init) = true) (l_Frame___init : K.lookup f_Frame___init = some ⟨oc_Frame___init, od_Frame___init, .func (PySem.W.fnOf "__init__" "Frame.__init__" (fnArgs s_Frame___init) (fnBody s_Frame___init) (fnScope s_Frame___init) .none kV_Frame___init dc_Frame___init pm_Frame___init an_Frame___init cd_Frame___init ct_Frame___init), sl_Frame___init⟩) (c_Frame___init : PySem.W.codeIn K cd_Frame___init "Frame.__init__" = true) (k_Frame___init : PySem.W.keepIn K (.ref f_Frame___init) = true)
    (a_Frame_advance : PySem.W.findIn K (.ref C_Frame) "advance" = some (some (.ref f_Frame_advance))) (i_Frame_advance : PySem.W.isFn K (.ref f_Frame_advance) = true) (l_Frame_advance : K.lookup f_Frame_advance = some ⟨oc_Frame_advance, od_Frame_advance, .func (PySem.W.fnOf "advance" "Frame.advance" (fnArgs s_Frame_advance) (fnBody s_Frame_advance) (fnScope s_Frame_advance) .none kV_Frame_advance dc_Frame_advance pm_Frame_advance an_Frame_advance cd_Frame_advance ct_Frame_advance), sl_Frame_advance⟩) (c_Frame_advance : PySem.W.codeIn K cd_Frame_advance "Frame.advance" = true) (k_Frame_advance : PySem.W.keepIn K (.ref f_Frame_advance) = true)
    (a_Thinking_special : PySem.W.findIn K (.ref C_Thinking) "special" = some (some (.ref f_Thinking_special))) (i_Thinking_special : PySem.W.isFn K (.ref f_Thinking_special) = true) (l_Thinking_special : K.lookup f_Thinking_special = some ⟨oc_Thinking_special, od_Thinking_special, .func (PySem.W.fnOf "special" "Thinking.special" (fnArgs s_Thinking_special) (fnBody s_Thinking_special) (fnScope s_Thinking_special) .none kV_Thinking_special dc_Thinking_special pm_Thinking_special an_Thinking_special cd_Thinking_special ct_Thinking_special), sl_Thinking_special⟩) (c_Thinking_special : PySem.W.codeIn K cd_Thinking_special "Thinking.special" = true) (k_Thinking_special : PySem.W.keepIn K (.ref f_Thinking_special) = true)
    (a_Thinking___init : PySem.W.findIn K (.ref C_Thinking) "__init__" = some (some (.ref f_Thinking___init)))
    (i_Thinking___init : PySem.W.isFn K (.ref f_Thinking___init) = true)
    (l_Thinking___init : K.lookup f_Thinking___init = some ⟨oc_Thinking___init, od_Thinking___init, .func (PySem.W.fnX "__init__" "Thinking.__init__" (fnArgs s_Thinking___init) (fnBody s_Thinking___init) (fnScope s_Thinking___init) [("__class__", cc_Thinking___init)] .none kV_Thinking___init dc_Thinking___init pm_Thinking___init an_Thinking___init (.ref cda_Thinking___init) ct_Thinking___init), sl_Thinking___init⟩)
    (c_Thinking___init : PySem.W.codeIn K (.ref cda_Thinking___init) "Thinking.__init__" = true)
    (k_Thinking___init : PySem.W.keepIn K (.ref f_Thinking___init) = true)
    (lc_Thinking___init : K.lookup cc_Thinking___init = some ⟨cl_Thinking___init, cld_Thinking___init, .cell (some (.ref C_Thinking)), csl_Thinking___init⟩)
    (ld_Thinking___init : K.lookup cda_Thinking___init = some ⟨ccl_Thinking___init, cdd_Thinking___init, .fields vs_Thinking___init, ccs_Thinking___init⟩)
    (vf_Thinking___init : vs_Thinking___init[2]? = some (.str file_Thinking___init tf_Thinking___init))
    (fe_Thinking___init : ((l.prog.main.file : Str) == file_Thinking___init) = true)
    (al_Thinking___init : PySem.W.ks_superIn K C_Thinking C_Thinking "__init__" = some (some (.ref f_Frame___init)))
    (mo_Thinking___init : PySem.W.mroIn K C_Thinking (.ref C_Thinking) = some true)
    (tfb_Thinking___init : PySem.W.typeIn K (.ref f_Frame___init) = some (.type "function"))
    (fib_Thinking___init : PySem.W.fnIn K f_Frame___init = true)
    (ah_Thinking_advance : PySem.W.findIn K (.ref C_Thinking) "advance" = some (some (.ref f_Frame_advance)))
    (opq : PySem.W.nsIn K PySem.cStatics "thirdparty.any" = some none)
    (zsup : PySem.W.nsIn K mainGlobals "super" = some none)
    (ptop : (l.prog.main.scope.names.lookup ("super" : Str)).isSome = false)
    (xsp : PySem.W.specialIn K (.builtin "object.__class__") "__get__" = some (some (.builtin "getset_descriptor.__get__")))
    (xtk : PySem.W.takesIn K (.builtin "object.__class__") = some true)
    (z_GREATEST : PySem.W.nsIn K mainGlobals "GREATEST" = some (some (.int 65535 t_GREATEST)))
    (z_EVENTS : PySem.W.nsIn K mainGlobals "EVENTS" = some (some (.ref T_EVENTS)))
    (lT_EVENTS : K.lookup T_EVENTS = some ⟨.type "tuple", none, .seq #[.str "round" t_EVENTS0, .str "told" t_EVENTS1, .str "move" t_EVENTS2, .str "did" t_EVENTS3] nn_EVENTS, sl_EVENTS⟩)
    (z_SIGNS : PySem.W.nsIn K mainGlobals "SIGNS" = some (some (.ref T_SIGNS)))
    (lT_SIGNS : K.lookup T_SIGNS = some ⟨.type "tuple", none, .seq #[.str "+" t_SIGNS0, .str "-" t_SIGNS1, .str "*" t_SIGNS2, .str "/" t_SIGNS3, .str "mod" t_SIGNS4, .str "<" t_SIGNS5, .str "=" t_SIGNS6] nn_SIGNS, sl_SIGNS⟩)
    (z_bool : PySem.W.nsIn K mainGlobals "bool" = some none)
    (z_int : PySem.W.nsIn K mainGlobals "int" = some none)
    (z_isinstance : PySem.W.nsIn K mainGlobals "isinstance" = some none)
    (z_len : PySem.W.nsIn K mainGlobals "len" = some none)
    (z_list : PySem.W.nsIn K mainGlobals "list" = some none)
    (z_max : PySem.W.nsIn K mainGlobals "max" = some none)
    (z_min : PySem.W.nsIn K mainGlobals "min" = some none)
    (z_range : PySem.W.nsIn K mainGlobals "range" = some none)
    (z_str : PySem.W.nsIn K mainGlobals "str" = some none)
    (z_tuple : PySem.W.nsIn K mainGlobals "tuple" = some none)
    (z_zip : PySem.W.nsIn K mainGlobals "zip" = some none)
    : ∃ fd : FuncData, (∀ (s : Shared) (v : Value), BindsTo s fd ⟨[v], []⟩ [("script", v)]) ∧ ∀ base : Heap, K.In base → base.Ns mainGlobals mg → FnOk l.prog w K mg base C8.CX0 44 fa fd ["script"] (sp_law K) := by
  have e := hfa.symm.trans (PySem.W.mg_of X G a_law)
  cases e
  have T : Txt K mg C_Tape C_Thinker C_Brain C_Mind C_Frame C_Thinking T_EVENTS T_SIGNS := ⟨PySem.W.mg_none_of X G z_bool, PySem.W.mg_none_of X G z_int, PySem.W.mg_none_of X G z_isinstance, PySem.W.mg_none_of X G z_len, PySem.W.mg_none_of X G z_list, PySem.W.mg_none_of X G z_max, PySem.W.mg_none_of X G z_min, PySem.W.mg_none_of X G z_range, PySem.W.mg_none_of X G z_str, PySem.W.mg_none_of X G z_tuple, PySem.W.mg_none_of X G z_zip, ⟨pg_Tape, hd_Tape, po_Tape, sa_Tape⟩, PySem.W.mg_of X G mc_Tape, ⟨⟨pg_Tape, hd_Tape, po_Tape, sa_Tape⟩, ha_Tape, hn_Tape, ht_Tape, hm_Tape, kitSelf⟩, nresults_Tape, ntaken_Tape, ⟨pg_Thinker, hd_Thinker, po_Thinker, sa_Thinker⟩, PySem.W.mg_of X G mc_Thinker, ⟨⟨pg_Thinker, hd_Thinker, po_Thinker, sa_Thinker⟩, ha_Thinker, hn_Thinker, ht_Thinker, hm_Thinker, kitSelf⟩, ntable_Thinker, nleft_Thinker, nseen_Thinker, ntape_Thinker, ⟨pg_Brain, hd_Brain, po_Brain, sa_Brain⟩, PySem.W.mg_of X G mc_Brain, ⟨⟨pg_Brain, hd_Brain, po_Brain, sa_Brain⟩, ha_Brain, hn_Brain, ht_Brain, hm_Brain, kitSelf⟩, nunits_Brain, ncells_Brain, nblock_Brain, nanswer_Brain, ⟨pg_Mind, hd_Mind, po_Mind, sa_Mind⟩, PySem.W.mg_of X G mc_Mind, ⟨⟨pg_Mind, hd_Mind, po_Mind, sa_Mind⟩, ha_Mind, hn_Mind, ht_Mind, hm_Mind, kitSelf⟩, nunits_Mind, ncells_Mind, ncode_Mind, ⟨pg_Frame, hd_Frame, po_Frame, sa_Frame⟩, PySem.W.mg_of X G mc_Frame, ⟨⟨pg_Frame, hd_Frame, po_Frame, sa_Frame⟩, ha_Frame, hn_Frame, ht_Frame, hm_Frame, kitSelf⟩, ncode_Frame, ntable_Frame, ntape_Frame, nat_Frame, nstack_Frame, nsteps_Frame, ⟨pg_Thinking, hd_Thinking, po_Thinking, sa_Thinking⟩, PySem.W.mg_of X G mc_Thinking, ⟨⟨pg_Thinking, hd_Thinking, po_Thinking, sa_Thinking⟩, ha_Thinking, hn_Thinking, ht_Thinking, hm_Thinking, kitSelf⟩, ncode_Thinking, ntable_Thinking, ntape_Thinking, nat_Thinking, nstack_Thinking, nsteps_Thinking, nleft_Thinking, nseen_Thinking, nsilent_Thinking, ndone_Thinking, ⟨_, PySem.W.mg_of X G z_GREATEST, ⟨_, rfl⟩⟩, ⟨_, PySem.W.mg_of X G z_EVENTS, rfl⟩, fun H => .inr ⟨_, _, _, lT_EVENTS, rfl, rfl, by show 4 ≤ sizeLine; decide, .cons ⟨_, rfl⟩ (.cons ⟨_, rfl⟩ (.cons ⟨_, rfl⟩ (.cons ⟨_, rfl⟩ (.nil))))⟩, ⟨_, lT_EVENTS, rfl, rfl⟩, ⟨_, PySem.W.mg_of X G z_SIGNS, rfl⟩, fun H => .inr ⟨_, _, _, lT_SIGNS, rfl, rfl, by show 7 ≤ sizeLine; decide, .cons ⟨_, rfl⟩ (.cons ⟨_, rfl⟩ (.cons ⟨_, rfl⟩ (.cons ⟨_, rfl⟩ (.cons ⟨_, rfl⟩ (.cons ⟨_, rfl⟩ (.cons ⟨_, rfl⟩ (.nil)))))))⟩, ⟨_, lT_SIGNS, rfl, rfl⟩, True.intro⟩
  have F_Tape___init : C8.Fun K "__init__" "Tape.__init__" s_Tape___init _ _ := ⟨⟨_, _, _, _, _, _, _, _, _, _, rfl, l_Tape___init, c_Tape___init⟩⟩
  have M_Tape : Mk K C_Tape f_Tape___init := ⟨mk_Tape, a_Tape___init, i_Tape___init, kc_Tape⟩
  have b_Tape___init : Binds K _ ["self", "results"] [] := C8.Fun.binds F_Tape___init rfl fun _ _ _ _ _ _ us hl => match us, hl with | [_, _], _ => rfl
  have F_Tape_take : C8.Fun K "take" "Tape.take" s_Tape_take _ _ := ⟨⟨_, _, _, _, _, _, _, _, _, _, rfl, l_Tape_take, c_Tape_take⟩⟩
  have M_Tape_take : Meth K C_Tape "take" f_Tape_take := ⟨a_Tape_take, i_Tape_take, k_Tape_take⟩
  have b_Tape_take : Binds K _ ["self", "count"] [] := C8.Fun.binds F_Tape_take rfl fun _ _ _ _ _ _ us hl => match us, hl with | [_, _], _ => rfl
  have F_Brain___init : C8.Fun K "__init__" "Brain.__init__" s_Brain___init _ _ := ⟨⟨_, _, _, _, _, _, _, _, _, _, rfl, l_Brain___init, c_Brain___init⟩⟩
  have M_Brain : Mk K C_Brain f_Brain___init := ⟨mk_Brain, a_Brain___init, i_Brain___init, kc_Brain⟩
  have b_Brain___init : Binds K _ ["self", "units", "cells", "block", "answer"] [] := C8.Fun.binds F_Brain___init rfl fun _ _ _ _ _ _ us hl => match us, hl with | [_, _, _, _, _], _ => rfl
  have F_Brain_start : C8.Fun K "start" "Brain.start" s_Brain_start _ _ := ⟨⟨_, _, _, _, _, _, _, _, _, _, rfl, l_Brain_start, c_Brain_start⟩⟩
  have M_Brain_start : Meth K C_Brain "start" f_Brain_start := ⟨a_Brain_start, i_Brain_start, k_Brain_start⟩
  have b_Brain_start : Binds K _ ["self"] [] := C8.Fun.binds F_Brain_start rfl fun _ _ _ _ _ _ us hl => match us, hl with | [_], _ => rfl
  have F_Mind___init : C8.Fun K "__init__" "Mind.__init__" s_Mind___init _ _ := ⟨⟨_, _, _, _, _, _, _, _, _, _, rfl, l_Mind___init, c_Mind___init⟩⟩
  have M_Mind : Mk K C_Mind f_Mind___init := ⟨mk_Mind, a_Mind___init, i_Mind___init, kc_Mind⟩
  have b_Mind___init : Binds K _ ["self", "units", "cells", "code"] [] := C8.Fun.binds F_Mind___init rfl fun _ _ _ _ _ _ us hl => match us, hl with | [_, _, _, _], _ => rfl
  have F_Thinker___init : C8.Fun K "__init__" "Thinker.__init__" s_Thinker___init _ _ := ⟨⟨_, _, _, _, _, _, _, _, _, _, rfl, l_Thinker___init, c_Thinker___init⟩⟩
  have M_Thinker : Mk K C_Thinker f_Thinker___init := ⟨mk_Thinker, a_Thinker___init, i_Thinker___init, kc_Thinker⟩
  have b_Thinker___init : Binds K _ ["self", "brain", "cells", "seen", "tape"] [] := C8.Fun.binds F_Thinker___init rfl fun _ _ _ _ _ _ us hl => match us, hl with | [_, _, _, _, _], _ => rfl
  have F_Thinker_value : C8.Fun K "value" "Thinker.value" s_Thinker_value _ _ := ⟨⟨_, _, _, _, _, _, _, _, _, _, rfl, l_Thinker_value, c_Thinker_value⟩⟩
  have M_Thinker_value : Meth K C_Thinker "value" f_Thinker_value := ⟨a_Thinker_value, i_Thinker_value, k_Thinker_value⟩
  have b_Thinker_value : Binds K _ ["self", "expression"] [] := C8.Fun.binds F_Thinker_value rfl fun _ _ _ _ _ _ us hl => match us, hl with | [_, _], _ => rfl
  have F_Thinker_unit : C8.Fun K "unit" "Thinker.unit" s_Thinker_unit _ _ := ⟨⟨_, _, _, _, _, _, _, _, _, _, rfl, l_Thinker_unit, c_Thinker_unit⟩⟩
  have M_Thinker_unit : Meth K C_Thinker "unit" f_Thinker_unit := ⟨a_Thinker_unit, i_Thinker_unit, k_Thinker_unit⟩
  have b_Thinker_unit : Binds K _ ["self"] [] := C8.Fun.binds F_Thinker_unit rfl fun _ _ _ _ _ _ us hl => match us, hl with | [_], _ => rfl
  have F_Thinker_run : C8.Fun K "run" "Thinker.run" s_Thinker_run _ _ := ⟨⟨_, _, _, _, _, _, _, _, _, _, rfl, l_Thinker_run, c_Thinker_run⟩⟩
  have M_Thinker_run : Meth K C_Thinker "run" f_Thinker_run := ⟨a_Thinker_run, i_Thinker_run, k_Thinker_run⟩
  have b_Thinker_run : Binds K _ ["self", "block"] [] := C8.Fun.binds F_Thinker_run rfl fun _ _ _ _ _ _ us hl => match us, hl with | [_, _], _ => rfl
  have F_Thinker_step : C8.Fun K "step" "Thinker.step" s_Thinker_step _ _ := ⟨⟨_, _, _, _, _, _, _, _, _, _, rfl, l_Thinker_step, c_Thinker_step⟩⟩
  have M_Thinker_step : Meth K C_Thinker "step" f_Thinker_step := ⟨a_Thinker_step, i_Thinker_step, k_Thinker_step⟩
  have b_Thinker_step : Binds K _ ["self", "statement"] [] := C8.Fun.binds F_Thinker_step rfl fun _ _ _ _ _ _ us hl => match us, hl with | [_, _], _ => rfl
  have F_Thinker_loop : C8.Fun K "loop" "Thinker.loop" s_Thinker_loop _ _ := ⟨⟨_, _, _, _, _, _, _, _, _, _, rfl, l_Thinker_loop, c_Thinker_loop⟩⟩
  have M_Thinker_loop : Meth K C_Thinker "loop" f_Thinker_loop := ⟨a_Thinker_loop, i_Thinker_loop, k_Thinker_loop⟩
  have b_Thinker_loop : Binds K _ ["self", "test", "block"] [] := C8.Fun.binds F_Thinker_loop rfl fun _ _ _ _ _ _ us hl => match us, hl with | [_, _, _], _ => rfl
  have F_Frame___init : C8.Fun K "__init__" "Frame.__init__" s_Frame___init _ _ := ⟨⟨_, _, _, _, _, _, _, _, _, _, rfl, l_Frame___init, c_Frame___init⟩⟩
  have M_Frame : Mk K C_Frame f_Frame___init := ⟨mk_Frame, a_Frame___init, i_Frame___init, kc_Frame⟩
  have b_Frame___init : Binds K _ ["self", "code", "table", "tape"] [] := C8.Fun.binds F_Frame___init rfl fun _ _ _ _ _ _ us hl => match us, hl with | [_, _, _, _], _ => rfl
  have F_Frame_advance : C8.Fun K "advance" "Frame.advance" s_Frame_advance _ _ := ⟨⟨_, _, _, _, _, _, _, _, _, _, rfl, l_Frame_advance, c_Frame_advance⟩⟩
  have M_Frame_advance : Meth K C_Frame "advance" f_Frame_advance := ⟨a_Frame_advance, i_Frame_advance, k_Frame_advance⟩
  have b_Frame_advance : Binds K _ ["self"] [] := C8.Fun.binds F_Frame_advance rfl fun _ _ _ _ _ _ us hl => match us, hl with | [_], _ => rfl
  have F_Thinking_special : C8.Fun K "special" "Thinking.special" s_Thinking_special _ _ := ⟨⟨_, _, _, _, _, _, _, _, _, _, rfl, l_Thinking_special, c_Thinking_special⟩⟩
  have M_Thinking_special : Meth K C_Thinking "special" f_Thinking_special := ⟨a_Thinking_special, i_Thinking_special, k_Thinking_special⟩
  have b_Thinking_special : Binds K _ ["self", "name", "argument"] [] := C8.Fun.binds F_Thinking_special rfl fun _ _ _ _ _ _ us hl => match us, hl with | [_, _, _], _ => rfl
  have FS_Thinking___init : FunS l.prog K "Thinking.__init__" s_Thinking___init f_Thinking___init _ C_Thinking := ⟨⟨_, _, _, _, _, _, _, _, _, _, _, _, _, _, _, _, _, _, _, rfl, l_Thinking___init, c_Thinking___init, lc_Thinking___init, ld_Thinking___init, vf_Thinking___init, fe_Thinking___init⟩⟩
  have U_Thinking : SupOk l.prog K mg C_Thinking f_Frame___init := ⟨sup_cls al_Thinking___init, al_Thinking___init, opq, PySem.W.mg_none_of X G zsup, mo_Thinking___init, ptop, tfb_Thinking___init, fib_Thinking___init⟩
  have M_Thinking : Mk K C_Thinking f_Thinking___init := ⟨mk_Thinking, a_Thinking___init, i_Thinking___init, kc_Thinking⟩
  have b_Thinking___init : Binds K _ ["self", "mind", "cells", "view", "tape"] [] := FunS.binds FS_Thinking___init fun _ _ _ _ _ _ _ us hl => match us, hl with | [_, _, _, _, _], _ => rfl
  have M_Thinking_advance : Meth K C_Thinking "advance" f_Frame_advance := ⟨ah_Thinking_advance, i_Frame_advance, k_Frame_advance⟩
  have D_view_numbers : C8.Def K mg "view_numbers" s_view_numbers _ _ := ⟨⟨⟨_, _, _, _, _, _, _, _, _, _, rfl, l_view_numbers, c_view_numbers⟩⟩, PySem.W.mg_of X G a_view_numbers, k_view_numbers⟩
  have b_view_numbers : Binds K _ ["view"] [] := C8.Fun.binds D_view_numbers.fn rfl fun _ _ _ _ _ _ us hl => match us, hl with | [_], _ => rfl
  have D_think : C8.Def K mg "think" s_think _ _ := ⟨⟨⟨_, _, _, _, _, _, _, _, _, _, rfl, l_think, c_think⟩⟩, PySem.W.mg_of X G a_think, k_think⟩
  have b_think : Binds K _ ["brain", "cells", "view", "count", "tape"] [] := C8.Fun.binds D_think.fn rfl fun _ _ _ _ _ _ us hl => match us, hl with | [_, _, _, _, _], _ => rfl
  have D_combine : C8.Def K mg "combine" s_combine _ _ := ⟨⟨⟨_, _, _, _, _, _, _, _, _, _, rfl, l_combine, c_combine⟩⟩, PySem.W.mg_of X G a_combine, k_combine⟩
  have b_combine : Binds K _ ["sign", "left", "right"] [] := C8.Fun.binds D_combine.fn rfl fun _ _ _ _ _ _ us hl => match us, hl with | [_, _, _], _ => rfl
  have D_value_of : C8.Def K mg "value_of" s_value_of _ _ := ⟨⟨⟨_, _, _, _, _, _, _, _, _, _, rfl, l_value_of, c_value_of⟩⟩, PySem.W.mg_of X G a_value_of, k_value_of⟩
  have FD_value_of : FunD K "value_of" "value_of" (fnArgs s_value_of) (fnBody s_value_of) (fnScope s_value_of) [.ref E_value_of] [] f_value_of _ := ⟨⟨_, _, _, _, _, _, _, _, _, _, rfl, l_value_of, c_value_of, .inr ⟨by simp, _, _, [_], _, rfl, lT_value_of, rfl, .cons rfl .nil⟩, .inl rfl⟩, k_value_of⟩
  obtain ⟨ds2_value_of, v2_value_of, b2_value_of⟩ := FD_value_of.binds1 (ps := ["expression", "table", "on", "seen"]) 4 1 (by simp) rfl (fun _ _ _ _ _ _ _ us its hu hi => match us, hu, its, hi with | [_, _, _, _], _, [_], _ => ⟨_, rfl, rfl⟩)
  obtain ⟨ds1_value_of, v1_value_of, b1_value_of⟩ := FD_value_of.binds1 (ps := ["expression", "table", "on", "seen"]) 3 0 (by simp) rfl (fun _ _ _ _ _ _ _ us its hu hi => match us, hu, its, hi with | [_, _, _], _, [_], _ => ⟨_, rfl, rfl⟩)
  have D_expression_code : C8.Def K mg "expression_code" s_expression_code _ _ := ⟨⟨⟨_, _, _, _, _, _, _, _, _, _, rfl, l_expression_code, c_expression_code⟩⟩, PySem.W.mg_of X G a_expression_code, k_expression_code⟩
  have b_expression_code : Binds K _ ["expression", "slots", "on"] [] := C8.Fun.binds D_expression_code.fn rfl fun _ _ _ _ _ _ us hl => match us, hl with | [_, _, _], _ => rfl
  have D_branch_code : C8.Def K mg "branch_code" s_branch_code _ _ := ⟨⟨⟨_, _, _, _, _, _, _, _, _, _, rfl, l_branch_code, c_branch_code⟩⟩, PySem.W.mg_of X G a_branch_code, k_branch_code⟩
  have b_branch_code : Binds K _ ["test", "then", "other"] [] := C8.Fun.binds D_branch_code.fn rfl fun _ _ _ _ _ _ us hl => match us, hl with | [_, _, _], _ => rfl
  have D_thoughts_code : C8.Def K mg "thoughts_code" s_thoughts_code _ _ := ⟨⟨⟨_, _, _, _, _, _, _, _, _, _, rfl, l_thoughts_code, c_thoughts_code⟩⟩, PySem.W.mg_of X G a_thoughts_code, k_thoughts_code⟩
  have b_thoughts_code : Binds K _ ["block", "slots"] [] := C8.Fun.binds D_thoughts_code.fn rfl fun _ _ _ _ _ _ us hl => match us, hl with | [_, _], _ => rfl
  have D_brain_code : C8.Def K mg "brain_code" s_brain_code _ _ := ⟨⟨⟨_, _, _, _, _, _, _, _, _, _, rfl, l_brain_code, c_brain_code⟩⟩, PySem.W.mg_of X G a_brain_code, k_brain_code⟩
  have b_brain_code : Binds K _ ["block", "answer", "slots"] [] := C8.Fun.binds D_brain_code.fn rfl fun _ _ _ _ _ _ us hl => match us, hl with | [_, _, _], _ => rfl
  have D_names_of : C8.Def K mg "names_of" s_names_of _ _ := ⟨⟨⟨_, _, _, _, _, _, _, _, _, _, rfl, l_names_of, c_names_of⟩⟩, PySem.W.mg_of X G a_names_of, k_names_of⟩
  have b_names_of : Binds K _ ["rows"] [] := C8.Fun.binds D_names_of.fn rfl fun _ _ _ _ _ _ us hl => match us, hl with | [_], _ => rfl
  have D_mind_of : C8.Def K mg "mind_of" s_mind_of _ _ := ⟨⟨⟨_, _, _, _, _, _, _, _, _, _, rfl, l_mind_of, c_mind_of⟩⟩, PySem.W.mg_of X G a_mind_of, k_mind_of⟩
  have b_mind_of : Binds K _ ["brain"] [] := C8.Fun.binds D_mind_of.fn rfl fun _ _ _ _ _ _ us hl => match us, hl with | [_], _ => rfl
  have D_think_by_code : C8.Def K mg "think_by_code" s_think_by_code _ _ := ⟨⟨⟨_, _, _, _, _, _, _, _, _, _, rfl, l_think_by_code, c_think_by_code⟩⟩, PySem.W.mg_of X G a_think_by_code, k_think_by_code⟩
  have b_think_by_code : Binds K _ ["mind", "cells", "view", "count", "tape"] [] := C8.Fun.binds D_think_by_code.fn rfl fun _ _ _ _ _ _ us hl => match us, hl with | [_, _, _, _, _], _ => rfl
  have D_law_pool : C8.Def K mg "_law_pool" s_law_pool _ _ := ⟨⟨⟨_, _, _, _, _, _, _, _, _, _, rfl, l_law_pool, c_law_pool⟩⟩, PySem.W.mg_of X G a_law_pool, k_law_pool⟩
  have b_law_pool : Binds K _ ["script", "budget"] [] := C8.Fun.binds D_law_pool.fn rfl fun _ _ _ _ _ _ us hl => match us, hl with | [_, _], _ => rfl
  have D_law_draw : C8.Def K mg "_law_draw" s_law_draw _ _ := ⟨⟨⟨_, _, _, _, _, _, _, _, _, _, rfl, l_law_draw, c_law_draw⟩⟩, PySem.W.mg_of X G a_law_draw, k_law_draw⟩
  have b_law_draw : Binds K _ ["pool", "size"] [] := C8.Fun.binds D_law_draw.fn rfl fun _ _ _ _ _ _ us hl => match us, hl with | [_, _], _ => rfl
  have D_law_same : C8.Def K mg "_law_same" s_law_same _ _ := ⟨⟨⟨_, _, _, _, _, _, _, _, _, _, rfl, l_law_same, c_law_same⟩⟩, PySem.W.mg_of X G a_law_same, k_law_same⟩
  have b_law_same : Binds K _ ["actual", "due"] [] := C8.Fun.binds D_law_same.fn rfl fun _ _ _ _ _ _ us hl => match us, hl with | [_, _], _ => rfl
  have D_law_both : C8.Def K mg "_law_both" s_law_both _ _ := ⟨⟨⟨_, _, _, _, _, _, _, _, _, _, rfl, l_law_both, c_law_both⟩⟩, PySem.W.mg_of X G a_law_both, k_law_both⟩
  have b_law_both : Binds K _ ["brain", "cells", "due"] [] := C8.Fun.binds D_law_both.fn rfl fun _ _ _ _ _ _ us hl => match us, hl with | [_, _, _], _ => rfl
  have F_law : C8.Fun K "law" "law" s_law _ _ := ⟨⟨_, _, _, _, _, _, _, _, _, _, rfl, l_law, c_law⟩⟩
  refine ⟨PySem.W.fnOf "law" "law" (fnArgs s_law) (fnBody s_law) (fnScope s_law) .none kV_law dc_law pm_law an_law cd_law ct_law, fun s v => .of_eq rfl, fun base _ _ => ?_⟩
  have c_law_pool := ok_law_pool (P := l.prog) (w := w) (base := base) D_law_pool b_law_pool T
  have c_law_draw := ok_law_draw (P := l.prog) (w := w) (base := base) D_law_draw b_law_draw T
  have c_law_same := same_all (P := l.prog) (w := w) (base := base) D_law_same b_law_same T 5
  have c_combine := ok_combine (P := l.prog) (w := w) (base := base) D_combine b_combine T (k := 0)
  have c_value_of := value_all D_value_of v2_value_of b2_value_of T c_combine 12
  have c_Tape := ok_tape_init (P := l.prog) (w := w) (base := base) M_Tape F_Tape___init b_Tape___init T
  have c_Tape_take := ok_tape_take (P := l.prog) (w := w) (base := base) M_Tape_take F_Tape_take b_Tape_take T
  have c_view_numbers := ok_views (P := l.prog) (w := w) (base := base) D_view_numbers b_view_numbers T
  have c_Thinker := ok_thinit (P := l.prog) (w := w) (base := base) M_Thinker F_Thinker___init b_Thinker___init T
  have c_Thinker_value := ok_tval M_Thinker_value F_Thinker_value b_Thinker_value T c_value_of
  have c_Thinker_unit := ok_tunit (P := l.prog) (w := w) (base := base) M_Thinker_unit F_Thinker_unit b_Thinker_unit T
  have c_Thinker_run := trun_all M_Thinker_run F_Thinker_run b_Thinker_run M_Thinker_step F_Thinker_step b_Thinker_step M_Thinker_loop F_Thinker_loop b_Thinker_loop T c_Thinker_value c_Thinker_unit c_Tape_take 9
  have c_think := ok_think D_think b_think T c_view_numbers c_Thinker c_Thinker_run c_Thinker_value
  have c_Brain := ok_brinit (P := l.prog) (w := w) (base := base) M_Brain F_Brain___init b_Brain___init T
  have c_expression_code := code_all (P := l.prog) (w := w) (base := base) D_expression_code b_expression_code T 12
  have c_branch_code := ok_branch (P := l.prog) (w := w) (base := base) D_branch_code b_branch_code T
  have c_thoughts_code := tcode_all D_thoughts_code b_thoughts_code T c_expression_code c_branch_code 9
  have c_brain_code := ok_bcode D_brain_code b_brain_code T c_thoughts_code c_expression_code
  have c_names_of := ok_names (P := l.prog) (w := w) (base := base) D_names_of b_names_of T
  have c_Brain_start := ok_start (P := l.prog) (w := w) (base := base) M_Brain_start F_Brain_start b_Brain_start T
  have c_Mind := ok_minit (P := l.prog) (w := w) (base := base) M_Mind F_Mind___init b_Mind___init T
  have c_mind_of := ok_mindof D_mind_of b_mind_of T c_brain_code c_names_of c_Brain_start c_Mind
  have c_Frame := ok_frinit (P := l.prog) (w := w) (mg := mg) (base := base) F_Frame___init T
  have c_Thinking := ok_tkinit M_Thinking FS_Thinking___init b_Thinking___init U_Thinking c_Frame b_Frame___init T c_view_numbers
  have c_Thinking_special := ok_special M_Thinking_special F_Thinking_special b_Thinking_special T c_Tape_take
  have c_Thinking_advance := ok_adv M_Thinking_advance F_Frame_advance b_Frame_advance T c_Thinking_special c_combine
  have c_think_by_code := ok_tbc D_think_by_code b_think_by_code T c_Thinking c_Thinking_advance
  have c_law_both := ok_both D_law_both b_law_both T c_think c_Tape c_mind_of c_think_by_code c_law_same
  exact ok_law F_law T c_law_pool c_law_draw c_Brain c_law_both
theorem walk {l : PySem.W.OpenLaw} {q : Program} {loose : List Str} {XP : (Str → Option Value) → Heap → Prop} {YP : World → Heap → Prop} {d : DefRec} {K : Params → PySem.W.Frag} (hn : l.most = some 63) (hdf : d.params.defaults = [])
    (hY : ∀ (w : World) (h : Heap), YP w h → (K w.params).In h)
    (F : ∀ (w : World) (mg : Str → Option Value) (fa : Addr) (h : Heap), (K w.params).In h → h.Ns mainGlobals mg → mg d.name = some (.ref fa) →
      ∃ fd : FuncData, (∀ (s : Shared) (u : Value), BindsTo s fd ⟨[u], []⟩ [("script", u)]) ∧ ∀ base : Heap, (K w.params).In base → base.Ns mainGlobals mg → FnOk l.prog w (K w.params) mg base C8.CX0 44 fa fd ["script"] (sp_law (K w.params))) :
    PySem.W.WalkO q loose XP YP l.row.toRowW d [] (fun f vs => PySem.call f vs) :=
  L2.walk_ofB (n := 63) (k := 44) (x := "script") (CX := fun _ => C8.CX0) (sp := fun w => sp_law (K w.params)) hn (by decide) hdf ⟨rfl, by decide, by decide⟩ hY F (fun _ _ a ns hl hb _ hS => ⟨a, ns, rfl, hS, fun _ => rfl⟩) fun _ _ _ _ _ z => z
end My
open PySem PySem.W PyProof.Rows
set_option maxRecDepth 100000 in
set_option maxHeartbeats 0 in
theorem PySem.Challenge.cw_bothgain_k28_long_loops_of_brains_holds : PySem.Challenge.rw_bothgain_k28_long_loops_of_brains.Holds := by
  w_on; o_law; k_head; (case hw => w_witness2)
  k_fill
  refine My.walk (l := PySem.Challenge.rw_bothgain_k28_long_loops_of_brains) rfl rfl (fun w h Y => PySem.W.kIn_of Y) ?F
  case F =>
    intro w mg fa h KX G hmg
    refine' My.all_mk KX G hmg ?a_view_numbers ?l_view_numbers ?c_view_numbers ?k_view_numbers ?a_think ?l_think ?c_think ?k_think ?a_combine ?l_combine ?c_combine ?k_combine ?a_value_of ?l_value_of ?c_value_of ?k_value_of ?lT_value_of ?a_expression_code ?l_expression_code ?c_expression_code ?k_expression_code ?a_branch_code ?l_branch_code ?c_branch_code ?k_branch_code ?a_thoughts_code ?l_thoughts_code ?c_thoughts_code ?k_thoughts_code ?a_brain_code ?l_brain_code ?c_brain_code ?k_brain_code ?a_names_of ?l_names_of ?c_names_of ?k_names_of ?a_mind_of ?l_mind_of ?c_mind_of ?k_mind_of ?a_think_by_code ?l_think_by_code ?c_think_by_code ?k_think_by_code ?a_law_pool ?l_law_pool ?c_law_pool ?k_law_pool ?a_law_draw ?l_law_draw ?c_law_draw ?k_law_draw ?a_law_same ?l_law_same ?c_law_same ?k_law_same ?a_law_both ?l_law_both ?c_law_both ?k_law_both ?a_law ?l_law ?c_law ?k_law ?mc_Tape ?pg_Tape ?hd_Tape ?po_Tape ?sa_Tape ?mk_Tape ?kc_Tape ?ha_Tape ?hn_Tape ?ht_Tape ?hm_Tape ?nresults_Tape ?ntaken_Tape ?mc_Thinker ?pg_Thinker ?hd_Thinker ?po_Thinker ?sa_Thinker ?mk_Thinker ?kc_Thinker ?ha_Thinker ?hn_Thinker ?ht_Thinker ?hm_Thinker ?ntable_Thinker ?nleft_Thinker ?nseen_Thinker ?ntape_Thinker ?mc_Brain ?pg_Brain ?hd_Brain ?po_Brain ?sa_Brain ?mk_Brain ?kc_Brain ?ha_Brain ?hn_Brain ?ht_Brain ?hm_Brain ?nunits_Brain ?ncells_Brain ?nblock_Brain ?nanswer_Brain ?mc_Mind ?pg_Mind ?hd_Mind ?po_Mind ?sa_Mind ?mk_Mind ?kc_Mind ?ha_Mind ?hn_Mind ?ht_Mind ?hm_Mind ?nunits_Mind ?ncells_Mind ?ncode_Mind ?mc_Frame ?pg_Frame ?hd_Frame ?po_Frame ?sa_Frame ?mk_Frame ?kc_Frame ?ha_Frame ?hn_Frame ?ht_Frame ?hm_Frame ?ncode_Frame ?ntable_Frame ?ntape_Frame ?nat_Frame ?nstack_Frame ?nsteps_Frame ?mc_Thinking ?pg_Thinking ?hd_Thinking ?po_Thinking ?sa_Thinking ?mk_Thinking ?kc_Thinking ?ha_Thinking ?hn_Thinking ?ht_Thinking ?hm_Thinking ?ncode_Thinking ?ntable_Thinking ?ntape_Thinking ?nat_Thinking ?nstack_Thinking ?nsteps_Thinking ?nleft_Thinking ?nseen_Thinking ?nsilent_Thinking ?ndone_Thinking ?a_Tape___init ?i_Tape___init ?l_Tape___init ?c_Tape___init ?k_Tape___init ?a_Tape_take ?i_Tape_take ?l_Tape_take ?c_Tape_take ?k_Tape_take ?a_Brain___init ?i_Brain___init ?l_Brain___init ?c_Brain___init ?k_Brain___init ?a_Brain_start ?i_Brain_start ?l_Brain_start ?c_Brain_start ?k_Brain_start ?a_Mind___init ?i_Mind___init ?l_Mind___init ?c_Mind___init ?k_Mind___init ?a_Thinker___init ?i_Thinker___init ?l_Thinker___init ?c_Thinker___init ?k_Thinker___init ?a_Thinker_value ?i_Thinker_value ?l_Thinker_value ?c_Thinker_value ?k_Thinker_value ?a_Thinker_unit ?i_Thinker_unit ?l_Thinker_unit ?c_Thinker_unit ?k_Thinker_unit ?a_Thinker_run ?i_Thinker_run ?l_Thinker_run ?c_Thinker_run ?k_Thinker_run ?a_Thinker_step ?i_Thinker_step ?l_Thinker_step ?c_Thinker_step ?k_Thinker_step ?a_Thinker_loop ?i_Thinker_loop ?l_Thinker_loop ?c_Thinker_loop ?k_Thinker_loop ?a_Frame___init ?i_Frame___init ?l_Frame___init ?c_Frame___init ?k_Frame___init ?a_Frame_advance ?i_Frame_advance ?l_Frame_advance ?c_Frame_advance ?k_Frame_advance ?a_Thinking_special ?i_Thinking_special ?l_Thinking_special ?c_Thinking_special ?k_Thinking_special ?a_Thinking___init ?i_Thinking___init ?l_Thinking___init ?c_Thinking___init ?k_Thinking___init ?lc_Thinking___init ?ld_Thinking___init ?vf_Thinking___init ?fe_Thinking___init ?al_Thinking___init ?mo_Thinking___init ?tfb_Thinking___init ?fib_Thinking___init ?ah_Thinking_advance ?opq ?zsup ?ptop ?xsp ?xtk ?z_GREATEST ?z_EVENTS ?lT_EVENTS ?z_SIGNS ?lT_SIGNS ?z_bool ?z_int ?z_isinstance ?z_len ?z_list ?z_max ?z_min ?z_range ?z_str ?z_tuple ?z_zip
    (case a_view_numbers => k_is)
    (case l_view_numbers => k_is)
    (case c_view_numbers => k_is)
    (case k_view_numbers => k_is)
    (case a_think => k_is)
    (case l_think => k_is)
    (case c_think => k_is)
    (case k_think => k_is)
    (case a_combine => k_is)
    (case l_combine => k_is)
    (case c_combine => k_is)
    (case k_combine => k_is)
    (case a_value_of => k_is)
    (case l_value_of => k_is)
    (case c_value_of => k_is)
    (case k_value_of => k_is)
    (case lT_value_of => k_is)
    (case a_expression_code => k_is)
    (case l_expression_code => k_is)
    (case c_expression_code => k_is)
    (case k_expression_code => k_is)
    (case a_branch_code => k_is)
    (case l_branch_code => k_is)
    (case c_branch_code => k_is)
    (case k_branch_code => k_is)
    (case a_thoughts_code => k_is)
    (case l_thoughts_code => k_is)
    (case c_thoughts_code => k_is)
    (case k_thoughts_code => k_is)
    (case a_brain_code => k_is)
    (case l_brain_code => k_is)
    (case c_brain_code => k_is)
    (case k_brain_code => k_is)
    (case a_names_of => k_is)
    (case l_names_of => k_is)
    (case c_names_of => k_is)
    (case k_names_of => k_is)
    (case a_mind_of => k_is)
    (case l_mind_of => k_is)
    (case c_mind_of => k_is)
    (case k_mind_of => k_is)
    (case a_think_by_code => k_is)
    (case l_think_by_code => k_is)
    (case c_think_by_code => k_is)
    (case k_think_by_code => k_is)
    (case a_law_pool => k_is)
    (case l_law_pool => k_is)
    (case c_law_pool => k_is)
    (case k_law_pool => k_is)
    (case a_law_draw => k_is)
    (case l_law_draw => k_is)
    (case c_law_draw => k_is)
    (case k_law_draw => k_is)
    (case a_law_same => k_is)
    (case l_law_same => k_is)
    (case c_law_same => k_is)
    (case k_law_same => k_is)
    (case a_law_both => k_is)
    (case l_law_both => k_is)
    (case c_law_both => k_is)
    (case k_law_both => k_is)
    (case a_law => k_is)
    (case l_law => k_is)
    (case c_law => k_is)
    (case k_law => k_is)
    (case mc_Tape => k_is)
    (case pg_Tape => k_is)
    (case hd_Tape => k_is)
    (case po_Tape => k_is)
    (case sa_Tape => k_is)
    (case mk_Tape => k_is)
    (case kc_Tape => k_is)
    (case ha_Tape => k_is)
    (case hn_Tape => k_is)
    (case ht_Tape => k_is)
    (case hm_Tape => k_is)
    (case nresults_Tape => k_is)
    (case ntaken_Tape => k_is)
    (case mc_Thinker => k_is)
    (case pg_Thinker => k_is)
    (case hd_Thinker => k_is)
    (case po_Thinker => k_is)
    (case sa_Thinker => k_is)
    (case mk_Thinker => k_is)
    (case kc_Thinker => k_is)
    (case ha_Thinker => k_is)
    (case hn_Thinker => k_is)
    (case ht_Thinker => k_is)
    (case hm_Thinker => k_is)
    (case ntable_Thinker => k_is)
    (case nleft_Thinker => k_is)
    (case nseen_Thinker => k_is)
    (case ntape_Thinker => k_is)
    (case mc_Brain => k_is)
    (case pg_Brain => k_is)
    (case hd_Brain => k_is)
    (case po_Brain => k_is)
    (case sa_Brain => k_is)
    (case mk_Brain => k_is)
    (case kc_Brain => k_is)
    (case ha_Brain => k_is)
    (case hn_Brain => k_is)
    (case ht_Brain => k_is)
    (case hm_Brain => k_is)
    (case nunits_Brain => k_is)
    (case ncells_Brain => k_is)
    (case nblock_Brain => k_is)
    (case nanswer_Brain => k_is)
    (case mc_Mind => k_is)
    (case pg_Mind => k_is)
    (case hd_Mind => k_is)
    (case po_Mind => k_is)
    (case sa_Mind => k_is)
    (case mk_Mind => k_is)
    (case kc_Mind => k_is)
    (case ha_Mind => k_is)
    (case hn_Mind => k_is)
    (case ht_Mind => k_is)
    (case hm_Mind => k_is)
    (case nunits_Mind => k_is)
    (case ncells_Mind => k_is)
    (case ncode_Mind => k_is)
    (case mc_Frame => k_is)
    (case pg_Frame => k_is)
    (case hd_Frame => k_is)
    (case po_Frame => k_is)
    (case sa_Frame => k_is)
    (case mk_Frame => k_is)
    (case kc_Frame => k_is)
    (case ha_Frame => k_is)
    (case hn_Frame => k_is)
    (case ht_Frame => k_is)
    (case hm_Frame => k_is)
    (case ncode_Frame => k_is)
    (case ntable_Frame => k_is)
    (case ntape_Frame => k_is)
    (case nat_Frame => k_is)
    (case nstack_Frame => k_is)
    (case nsteps_Frame => k_is)
    (case mc_Thinking => k_is)
    (case pg_Thinking => k_is)
    (case hd_Thinking => k_is)
    (case po_Thinking => k_is)
    (case sa_Thinking => k_is)
    (case mk_Thinking => k_is)
    (case kc_Thinking => k_is)
    (case ha_Thinking => k_is)
    (case hn_Thinking => k_is)
    (case ht_Thinking => k_is)
    (case hm_Thinking => k_is)
    (case ncode_Thinking => k_is)
    (case ntable_Thinking => k_is)
    (case ntape_Thinking => k_is)
    (case nat_Thinking => k_is)
    (case nstack_Thinking => k_is)
    (case nsteps_Thinking => k_is)
    (case nleft_Thinking => k_is)
    (case nseen_Thinking => k_is)
    (case nsilent_Thinking => k_is)
    (case ndone_Thinking => k_is)
    (case a_Tape___init => k_is)
    (case i_Tape___init => k_is)
    (case l_Tape___init => k_is)
    (case c_Tape___init => k_is)
    (case k_Tape___init => k_is)
    (case a_Tape_take => k_is)
    (case i_Tape_take => k_is)
    (case l_Tape_take => k_is)
    (case c_Tape_take => k_is)
    (case k_Tape_take => k_is)
    (case a_Brain___init => k_is)
    (case i_Brain___init => k_is)
    (case l_Brain___init => k_is)
    (case c_Brain___init => k_is)
    (case k_Brain___init => k_is)
    (case a_Brain_start => k_is)
    (case i_Brain_start => k_is)
    (case l_Brain_start => k_is)
    (case c_Brain_start => k_is)
    (case k_Brain_start => k_is)
    (case a_Mind___init => k_is)
    (case i_Mind___init => k_is)
    (case l_Mind___init => k_is)
    (case c_Mind___init => k_is)
    (case k_Mind___init => k_is)
    (case a_Thinker___init => k_is)
    (case i_Thinker___init => k_is)
    (case l_Thinker___init => k_is)
    (case c_Thinker___init => k_is)
    (case k_Thinker___init => k_is)
    (case a_Thinker_value => k_is)
    (case i_Thinker_value => k_is)
    (case l_Thinker_value => k_is)
    (case c_Thinker_value => k_is)
    (case k_Thinker_value => k_is)
    (case a_Thinker_unit => k_is)
    (case i_Thinker_unit => k_is)
    (case l_Thinker_unit => k_is)
    (case c_Thinker_unit => k_is)
    (case k_Thinker_unit => k_is)
    (case a_Thinker_run => k_is)
    (case i_Thinker_run => k_is)
    (case l_Thinker_run => k_is)
    (case c_Thinker_run => k_is)
    (case k_Thinker_run => k_is)
    (case a_Thinker_step => k_is)
    (case i_Thinker_step => k_is)
    (case l_Thinker_step => k_is)
    (case c_Thinker_step => k_is)
    (case k_Thinker_step => k_is)
    (case a_Thinker_loop => k_is)
    (case i_Thinker_loop => k_is)
    (case l_Thinker_loop => k_is)
    (case c_Thinker_loop => k_is)
    (case k_Thinker_loop => k_is)
    (case a_Frame___init => k_is)
    (case i_Frame___init => k_is)
    (case l_Frame___init => k_is)
    (case c_Frame___init => k_is)
    (case k_Frame___init => k_is)
    (case a_Frame_advance => k_is)
    (case i_Frame_advance => k_is)
    (case l_Frame_advance => k_is)
    (case c_Frame_advance => k_is)
    (case k_Frame_advance => k_is)
    (case a_Thinking_special => k_is)
    (case i_Thinking_special => k_is)
    (case l_Thinking_special => k_is)
    (case c_Thinking_special => k_is)
    (case k_Thinking_special => k_is)
    (case a_Thinking___init => k_is)
    (case i_Thinking___init => k_is)
    (case l_Thinking___init => k_is)
    (case c_Thinking___init => k_is)
    (case k_Thinking___init => k_is)
    (case lc_Thinking___init => k_is)
    (case ld_Thinking___init => k_is)
    (case vf_Thinking___init => first | k_is | rfl | decide +kernel)
    (case fe_Thinking___init => first | k_is | rfl | decide +kernel)
    (case al_Thinking___init => first | k_is | rfl | decide +kernel)
    (case mo_Thinking___init => k_is)
    (case tfb_Thinking___init => first | k_is | rfl | decide +kernel)
    (case fib_Thinking___init => first | k_is | rfl | decide +kernel)
    (case ah_Thinking_advance => k_is)
    (case opq => first | k_is | rfl | decide +kernel)
    (case zsup => k_is)
    (case ptop => first | k_is | rfl | decide +kernel)
    (case xsp => k_is)
    (case xtk => k_is)
    (case z_GREATEST => k_is)
    (case z_EVENTS => k_is)
    (case lT_EVENTS => k_is)
    (case z_SIGNS => k_is)
    (case lT_SIGNS => k_is)
    (case z_bool => k_is)
    (case z_int => k_is)
    (case z_isinstance => k_is)
    (case z_len => k_is)
    (case z_list => k_is)
    (case z_max => k_is)
    (case z_min => k_is)
    (case z_range => k_is)
    (case z_str => k_is)
    (case z_tuple => k_is)
    (case z_zip => k_is)

