
import PyProof.Rows.All
import Wide.All
import OpenK.AllK
import Wide.FinOn
import HandS.ForMost
import HandS.Codes
import HandS.IsInst
import HandS.EndBits
import HandS.Walk
import HandS.DeepEq
import HandS.Gcd
import HandS.Wide
import HandS.Defaults
import HandS.OwnEq
import HandS.Dict
import HandS.WordsDict
import HandS.Star
import HandS.Strs
import HandS.RaiseMore
import HandS.More
import HandS.ForExc
import HandS.ExcIs
import HandS.ExcField
import KE.KExcSuper
import KE.KSuper
import KE.KSuperObj
import HandS.TryMany
import HandS.ExcInit
import HandS.CallSlots
import HandS.WrittenGet
import HandS.Iter
import HandS.Zip
import HandS.Style
import HandS.TupMul
import HandS.Conv
import KE.RegKIsAll
import HandS.MakeKwOnly
import PySem.Challenge.RW_bothgain_k74_whole_checked_brains_never
set_option Elab.async false
set_option linter.all false
set_option maxRecDepth 100000
set_option maxHeartbeats 4000000
set_option pp.maxSteps 400

namespace My
open PySem L2 C8 SX
/-! own base: tests, heaps -/
theorem bo_len : bootBuiltins "len" = some (.builtin "len") := by decide +kernel
theorem bo_isinstance : bootBuiltins "isinstance" = some (.builtin "isinstance") := by decide +kernel
theorem bo_min : bootBuiltins "min" = some (.builtin "min") := by decide +kernel
theorem bo_max : bootBuiltins "max" = some (.builtin "max") := by decide +kernel
theorem bo_abs : bootBuiltins "abs" = some (.builtin "abs") := by decide +kernel
theorem bo_int : bootBuiltins "int" = some (.type "int") := by decide +kernel
theorem bo_str : bootBuiltins "str" = some (.type "str") := by decide +kernel
theorem bo_bool : bootBuiltins "bool" = some (.type "bool") := by decide +kernel
theorem bo_list : bootBuiltins "list" = some (.type "list") := by decide +kernel
theorem bo_ord : bootBuiltins "ord" = some (.builtin "ord") := by decide +kernel
theorem bo_chr : bootBuiltins "chr" = some (.builtin "chr") := by decide +kernel
theorem bo_sum : bootBuiltins "sum" = some (.builtin "sum") := by decide +kernel
theorem bo_all : bootBuiltins "all" = some (.builtin "all") := by decide +kernel
theorem bo_any : bootBuiltins "any" = some (.builtin "any") := by decide +kernel
theorem bo_sorted : bootBuiltins "sorted" = some (.builtin "sorted") := by decide +kernel
theorem bo_dict : bootBuiltins "dict" = some (.type "dict") := by decide +kernel
theorem bo_tuple : bootBuiltins "tuple" = some (.type "tuple") := by decide +kernel
theorem iteD {p A B : Prop} [Decidable p] (h1 : p → A) (h2 : ¬ p → B) : if decide p = true then A else B := by
  by_cases h : p
  · rw [decide_eq_true h]; exact iteT (h1 h)
  · rw [decide_eq_false h]; exact iteF (h2 h)
theorem iteN {p A B : Prop} [Decidable p] (h1 : ¬ p → A) (h2 : p → B) : if (!decide p) = true then A else B := by
  by_cases h : p
  · rw [decide_eq_true h]; exact iteF (h2 h)
  · rw [decide_eq_false h]; exact iteT (h1 h)
theorem iteDT {p A B : Prop} [Decidable p] (h : p) (k : A) : if decide p = true then A else B := iteD (fun _ => k) fun z => absurd h z
theorem iteDF {p A B : Prop} [Decidable p] (h : ¬ p) (k : B) : if decide p = true then A else B := iteD (fun z => absurd z h) fun _ => k
theorem iteNT {p A B : Prop} [Decidable p] (h : ¬ p) (k : A) : if (!decide p) = true then A else B := iteN (fun _ => k) fun z => absurd z h
theorem iteNF {p A B : Prop} [Decidable p] (h : p) (k : B) : if (!decide p) = true then A else B := iteN (fun z => absurd h z) fun _ => k
theorem iteB {b : Bool} {A B : Prop} (h1 : b = true → A) (h2 : b = false → B) : if b = true then A else B := by
  cases b with
  | true => exact iteT (h1 rfl)
  | false => exact iteF (h2 rfl)
/-- in a comprehension without a test -/
theorem yes_then {σ : St} {H : Hp} {F G : Hp → Prop} (h : F H) : tYes σ H (fun b H3 => if b = true then F H3 else G H3) := h
/-- all that was tracked stands, but at W -/
def Keep (W : List Addr) (H H' : Hp) : Prop := ∀ b o, H b = some o → b ∉ W → H' b = some o
theorem Keep.refl (W : List Addr) (H : Hp) : Keep W H H := fun _ _ h _ => h
theorem Keep.trans {W : List Addr} {H H1 H2 : Hp} (a : Keep W H H1) (b : Keep W H1 H2) : Keep W H H2 := fun c o h w => b c o (a c o h w) w
theorem Keep.mono {W W' : List Addr} {H H1 : Hp} (a : Keep W H H1) (h : ∀ b, b ∈ W → b ∈ W') : Keep W' H H1 := fun c o q w => a c o q fun z => w (h c z)
theorem Keep.new {W : List Addr} {H : Hp} {p : Addr} {o : HO} (h : H p = none) : Keep W H (upd H p o) := fun b u q _ => by
  rw [upd_ne (ne_of_none q h)]; exact q
theorem Keep.at_ {W : List Addr} {H : Hp} {p : Addr} {o : HO} (h : p ∈ W) : Keep W H (upd H p o) := fun b u q w => by
  rw [upd_ne (fun z => w (by rw [z]; exact h))]; exact q
theorem Keep.then_new {W : List Addr} {H H1 : Hp} {p : Addr} {o : HO} (a : Keep W H H1) (h : H1 p = none) : Keep W H (upd H1 p o) := a.trans (Keep.new h)
theorem Keep.then_at {W : List Addr} {H H1 : Hp} {p : Addr} {o : HO} (a : Keep W H H1) (h : p ∈ W) : Keep W H (upd H1 p o) := a.trans (Keep.at_ h)
/-- what was new since H is not among the kept -/
theorem Keep.then_own {W : List Addr} {H H1 : Hp} {p : Addr} {o : HO} (a : Keep W H H1) (h : H p = none) : Keep W H (upd H1 p o) := fun b u q w => by
  rw [upd_ne (ne_of_none q h)]; exact a b u q w
theorem Keep.free {H H' : Hp} (e : Keep [] H H') {l : Addr} (h : H' l = none) : H l = none := by
  cases q : H l with
  | none => rfl
  | some o => rw [e l o q (by simp)] at h; cases h
theorem Keep.free1 {H H' : Hp} {p : Addr} {o : HO} (e : Keep [p] H H') (hp : H' p = some o) {l : Addr} (h : H' l = none) : H l = none := by
  cases q : H l with
  | none => rfl
  | some u =>
    by_cases z : l = p
    · subst z; rw [hp] at h; cases h
    · rw [e l u q (by simpa using z)] at h; cases h
theorem Keep.seqL {W : List Addr} {K : PySem.W.Frag} {H H' : Hp} {a : Addr} {xs : List V} (e : Keep W H H') (h : SqL K H a xs) (w : a ∉ W) : SqL K H' a xs := by
  rcases h with (h | ⟨o, h⟩) | h
  · exact .inl (.inl (e _ _ h w))
  · exact .inl (.inr ⟨o, e _ _ h w⟩)
  · exact .inr h
theorem Keep.seqT {W : List Addr} {K : PySem.W.Frag} {H H' : Hp} {a : Addr} {xs : List V} (e : Keep W H H') (h : SqT K H a xs) (w : a ∉ W) : SqT K H' a xs := by
  rcases h with (h | ⟨o, h⟩) | h
  · exact .inl (.inl (e _ _ h w))
  · exact .inl (.inr ⟨o, e _ _ h w⟩)
  · exact .inr h
theorem Keep.same {H H' : Hp} (e : Keep [] H H') : Same H H' := fun b o h => e b o h (by simp)
theorem ints_get {ns : List Int} {i : Nat} {v : V} (h : (ns.map V.int)[i]? = some v) : ∃ z, ns[i]? = some z ∧ v = V.int z := by
  rw [List.getElem?_map] at h
  cases e : ns[i]? with
  | none => rw [e] at h; cases h
  | some z => rw [e] at h; exact ⟨z, rfl, (Option.some.inj h).symm⟩
theorem strs_get {ns : List Str} {i : Nat} {v : V} (h : (ns.map V.str)[i]? = some v) : ∃ z, ns[i]? = some z ∧ v = V.str z := by
  rw [List.getElem?_map] at h
  cases e : ns[i]? with
  | none => rw [e] at h; cases h
  | some z => rw [e] at h; exact ⟨z, rfl, (Option.some.inj h).symm⟩
theorem smallM {n : Nat} (h : n ≤ 1000000) : n ≤ sizeLine := Nat.le_trans h (by decide)
theorem smallL {n : Nat} (h : n ≤ 1000000) : n < sizeLine := Nat.lt_of_le_of_lt h (by decide)
/-- a promise that asks the impossible: any def at all keeps it -/
def spNo : Sp := fun _ _ _ _ => False
/-! the same rules with the written part named (within a comprehension) -/
section
variable {X : Cx} {K : PySem.W.Frag}
theorem pe_fldK {e : Expr} {f : Str} {pos : Pos} {ta : TE} (he : PE X e ta) (hb : attributeBase e f X.env (eval e X.env) = eval e X.env) (hK : X.K = K := by rfl) : PE X (.Attribute e f pos) (tFld K ta f) := hK ▸ pe_fld he hb
theorem ix_listK (hK : X.K = K := by rfl) : IxR X (rIxL K) := hK ▸ ix_list
theorem ix_tupK (hK : X.K = K := by rfl) : IxR X (rIxT K) := hK ▸ ix_tup
theorem sl_listK (hK : X.K = K := by rfl) : SlR X (rSlL K) := hK ▸ sl_list
theorem sl_tupK (hK : X.K = K := by rfl) : SlR X (rSlT K) := hK ▸ sl_tup
theorem call_len_seqK (hK : X.K = K := by rfl) : CallR X (.builtin "len") (fun xs H Q => ∃ p ys, xs = [.ref p] ∧ (SqL K H p ys ∨ SqT K H p ys) ∧ Q (.int ys.length) H) := hK ▸ call_len_seq
theorem call_list_ofK (hK : X.K = K := by rfl) : CallR X (.type "list") (fun xs H Q => ∃ p ys, xs = [.ref p] ∧ (SqL K H p ys ∨ SqT K H p ys) ∧ ∀ l, H l = none → Q (.ref l) (upd H l (.lst ys))) := hK ▸ call_list_of
theorem call_isiK2 (hK : X.K = K := by rfl) : CallR X (.builtin "isinstance") (rIsi K) := hK ▸ call_isi
end
/-- behind the making of an instance -/
theorem keep_made {H H2 : Hp} {x dx : Addr} {o : HO} (hx : H x = none) (hd : H dx = none) (k : Keep [x] (upd (upd H dx (.own x)) x o) H2) : Keep [] H H2 := fun b u e _ =>
  k b u (by rw [upd_ne (ne_of_none e hx), upd_ne (ne_of_none e hd)]; exact e) (by simpa using ne_of_none e hx)
theorem kitSelf {K : PySem.W.Frag} {C : Addr} : PySem.W.kitOne K (.ref C) (.ref C) = some true := by
  unfold PySem.W.kitOne
  simp
/-- a call without arguments -/
theorem pe_c0 {X : Cx} {x : Str} {p pos : Pos} {k j : Nat} {sp : Sp} {dvs : List V} (c : C8.Cal X.prog X.w X.K X.mg X.base k x sp dvs) (hr : Room j X.A) (hk : k ≤ j) (hg : Gl X x) (hdb : (x == ("__debug__" : Str)) = false := by decide) :
    PE X (.Call (.Name x p) [] [] pos) (tCall sp dvs C8.E0 tNil) := by
  obtain ⟨f, fd, ps, ds, F, hm, kp, b, d⟩ := c.ex
  exact pe_call0 F (hr.mono hk) hg hm kp b d C8.pass0 hdb

/-! an own __init__ that begins with super().__init__(..): by its body -/
section
open PySem PySem.W PyProof.Rows L2 C8
theorem one_lookup {x a : Str} {c d : Addr} (h : List.lookup x [(a, d)] = some c) : x = a ∧ c = d := by
  by_cases e : x = a
  · subst e
    simp [List.lookup] at h
    exact ⟨rfl, h.symm⟩
  · have : (x == a) = false := by simpa using e
    simp [List.lookup, this] at h
theorem lookup_nd {α : Type} {x : Str} {v : α} : ∀ {l : List (Str × α)}, (l.map (·.1)).Nodup → (x, v) ∈ l → l.lookup x = some v
  | [], _, h => by cases h
  | (y, u) :: l, nd, h => by
    rw [List.map_cons, List.nodup_cons] at nd
    rcases List.mem_cons.mp h with e | h
    · cases e; simp [List.lookup]
    · have ne : x ≠ y := fun z => nd.1 (z ▸ List.mem_map_of_mem (f := (·.1)) h)
      have : (x == y) = false := by simpa using ne
      rw [List.lookup, this]
      exact lookup_nd nd.2 h
/-- a look at the scope: no cell of its own, nothing free but the class -/
structure SScope (N P : List Str) (sc : Scope) : Prop where
  kind : sc.kind = .function
  co : sc.isCoroutine = false
  gen : sc.isGenerator = false
  nd : N.Nodup
  pre : N.take P.length = P
  par : ∀ x ∈ P, sc.names.lookup x = some .local
  nocell : ∀ y ∈ sc.names, y.2 ≠ .cell
  free : ∀ y ∈ sc.names, y.2 = .free → y.1 = "__class__"
def ssC (N P : List Str) (sc : Scope) : Bool :=
  decide (sc.kind = .function) && !sc.isCoroutine && !sc.isGenerator && decide N.Nodup && decide (N.take P.length = P) && P.all (fun x => decide (sc.names.lookup x = some .local)) && sc.names.all (fun y => !decide (y.2 = .cell)) && sc.names.all (fun y => !decide (y.2 = .free) || decide (y.1 = "__class__"))
theorem sScope_by {N P : List Str} {sc : Scope} (h : ssC N P sc = true) : SScope N P sc := by
  unfold ssC at h
  simp only [Bool.and_eq_true, Bool.not_eq_true', decide_eq_true_eq, List.all_eq_true, decide_eq_false_iff_not, Bool.or_eq_true] at h
  obtain ⟨⟨⟨⟨⟨⟨⟨h1, h2⟩, h3⟩, h4⟩, h5⟩, h6⟩, h7⟩, h8⟩ := h
  exact ⟨h1, h2, h3, h4, h5, fun x hx => h6 x hx, fun y hy => h7 y hy, fun y hy hf => (h8 y hy).elim (fun z => absurd hf z) id⟩
def cxS (P : Program) (w : World) (K : PySem.W.Frag) (mg : Str → Option Value) (base : Heap) (N : List Str) (qual : Str) (scope : Scope) (f : Addr) (cd : Value) (cc : Addr) (A : Around) (outer : List Env) (s : Shared) (H : Hp) : Cx where
  prog := P
  w := w
  K := K
  mg := mg
  base := base
  A := A.deeper (ksEnv qual scope s.heap.objs.size f cd cc)
  N := N
  s_0 := s
  H_0 := H
  env := ksEnv qual scope s.heap.objs.size f cd cc
  outer := outer
  stack := ksEnv qual scope s.heap.objs.size f cd cc :: outer
  ex := []
  calm := true
  fn := fun _ => false
  pn := []
  xe := fun _ _ => False
theorem inv_startS {P : Program} {w : World} {K : PySem.W.Frag} {mg : Str → Option Value} {base : Heap} {N ps : List Str} {qual : Str} {scope : Scope} {f : Addr} {cd : Value} {cc : Addr} {oc : Obj} {cv : Option Value} {A : Around} {outer : List Env} {s : Shared} {h1 : Heap} {t : Nat} {H : Hp} {us : List Value} {vs : List V}
    (S : SScope N ps scope) (hd : A.handled = none) (e0 : Env0 P w K mg base A outer s H) (hl : vs.length = ps.length) (r : Vals vs us) (hcc : K.lookup cc = some oc) (hoc : oc.data = .cell cv)
    (hns : h1.Ns s.heap.objs.size fun x => (ps.zip us).reverse.lookup x) (hk : ∀ b o, s.heap.get? b = some o → h1.get? b = some o) :
    Inv (cxS P w K mg base N qual scope f cd cc A outer s H) [] (L2.start N vs) H { s with heap := h1, toks := t } := by
  have hpl : ps.length ≤ N.length := by have := congrArg List.length S.pre; rw [List.length_take] at this; omega
  have hcb := e0.mod.kin _ _ hcc
  have hcs := (e0.bs _ _ hcb).1
  have hlt : cc < s.heap.objs.size := Heap.lt_size hcs
  have noA : ∀ b : Addr, b ∉ (cxS P w K mg base N qual scope f cd cc A outer s H).ex := fun b z => absurd (show b ∈ ([] : List Addr) from z) (by simp)
  have cl : ∀ {y : Str} {c : Addr}, (cxS P w K mg base N qual scope f cd cc A outer s H).env.cells.lookup y = some c → y = "__class__" ∧ c = cc := fun h => one_lookup h
  refine ⟨⟨e0.mod, S.kind, rfl, rfl, Nat.le_refl _, fun y z c h1 h2 => (cl h1).1.trans (cl h2).1.symm, fun y hy => ?_, (fun y c h _ => by cases h), fun _ => hd, Around.frames_deeper e0.frames, .inr ⟨rfl, rfl⟩, fun b z => absurd z (noA b), e0.bs, e0.bsz, fun b _ _ => noA b, fun b z => absurd z (noA b), e0.funs, e0.frf⟩,
    rfl, e0.bare, Un.kept hk, ⟨_, hns, fun i y v g1 g2 g3 => ?_⟩, fun y c h => ?_, e0.hok.fresh (Nat.le_refl _), fun y c h => ?_, fun p hp => absurd (show p ∈ ([] : List (Addr × Obj)) from hp) (by simp), e0.hok.kept hk, ?_⟩
  · have hy : scope.names.lookup y = some .cell ∨ scope.names.lookup y = some .free := hy
    rcases hy with hy | hy
    · exact absurd rfl (S.nocell _ (PySem.mem_of_lookup hy))
    · have e : y = "__class__" := S.free _ (PySem.mem_of_lookup hy) rfl
      subst e
      exact ⟨cc, by show List.lookup _ [(("__class__" : Str), cc)] = _; simp [List.lookup]⟩
  · have hi : i < vs.length := by
      unfold L2.start at g2
      by_cases hi : i < vs.length
      · exact hi
      · rw [List.getElem?_append_right (by simpa using hi)] at g2
        rw [List.getElem?_replicate] at g2
        split at g2 <;> cases g2
    have ha : vs[i]? = some v := by
      unfold L2.start at g2
      rw [List.getElem?_append_left (by simpa using hi), List.getElem?_map] at g2
      cases e : vs[i]? with
      | none => rw [e] at g2; cases g2
      | some a => rw [e] at g2; cases g2; rfl
    obtain ⟨u, hu, rv⟩ := r.get ha
    have hp : ps[i]? = some y := by
      rw [← S.pre, List.getElem?_take_of_lt (by omega)]; exact g1
    have ndP : ps.Nodup := by rw [← S.pre]; exact S.nd.sublist (List.take_sublist _ _)
    have ul : us.length = ps.length := by rw [← r.length]; exact hl
    have hz : (ps.zip us)[i]? = some (y, u) := by rw [List.getElem?_zip_eq_some]; exact ⟨hp, hu⟩
    refine ⟨u, rv, .inl ⟨S.par y (List.mem_of_getElem? hp), lookup_nd ?_ (List.mem_reverse.mpr (List.mem_of_getElem? hz))⟩⟩
    rw [List.map_reverse]
    refine (List.Perm.nodup_iff (List.reverse_perm _)).mpr ?_
    rw [List.map_fst_zip (by omega)]
    exact ndP
  · obtain ⟨_, rfl⟩ := cl h
    exact ⟨cv, oc, hk _ _ hcs, hoc⟩
  · obtain ⟨_, rfl⟩ := cl h
    exact (e0.bs _ _ hcb).2
  · unfold L2.start
    show _ = N.length
    rw [List.length_append, List.length_map, List.length_replicate]
    omega
end
section
open PySem PySem.W PyProof.Rows L2 C8 PySem.Calls
/-- such a def in the written part: it closes over its class at D alone; fI = its address -/
structure FunS (P : Program) (K : PySem.W.Frag) (qual : Str) (st : Stmt) (fI : Addr) (fd : FuncData) (D : Addr) : Prop where
  ex : ∃ (oc : Value) (od : Option Addr) (kV doc pm : Value) (an : Option Addr) (cda : Addr) (ct : Value) (osl : Array (Option Value)) (cc : Addr) (cl : Value) (cld : Option Addr) (csl : Array (Option Value)) (ccl : Value) (cdd : Option Addr) (vs : Array Value) (ccs : Array (Option Value)) (file : Str) (tf : Tok),
    fd = fnX "__init__" qual (fnArgs st) (fnBody st) (fnScope st) [("__class__", cc)] .none kV doc pm an (.ref cda) ct ∧
    K.lookup fI = some ⟨oc, od, .func fd, osl⟩ ∧ codeIn K (.ref cda) qual = true ∧
    K.lookup cc = some ⟨cl, cld, .cell (some (.ref D)), csl⟩ ∧ K.lookup cda = some ⟨ccl, cdd, .fields vs, ccs⟩ ∧ vs[2]? = some (.str file tf) ∧ ((P.main.file : Str) == file) = true
theorem FunS.binds {P : Program} {K : PySem.W.Frag} {qual : Str} {st : Stmt} {fI D : Addr} {fd : FuncData} (F : FunS P K qual st fI fd D) {ps : List Str}
    (h : ∀ (kV doc pm : Value) (an : Option Addr) (cdv ct : Value) (cc : Addr) (us : List Value), us.length = ps.length → bindArgs (fnX "__init__" qual (fnArgs st) (fnBody st) (fnScope st) [("__class__", cc)] .none kV doc pm an cdv ct) ⟨us, []⟩ = pure (ps.zip us)) : L2.Binds K fd ps [] := by
  obtain ⟨oc, od, kV, doc, pm, an, cda, ct, osl, cc, _, _, _, _, _, _, _, _, _, rfl, _⟩ := F.ex
  exact .all (h kV doc pm an _ ct cc)
/-- what super() asks of the class at D, and of the next __init__ at f0 -/
structure SupOk (P : Program) (K : PySem.W.Frag) (mg : Str → Option Value) (D f0 : Addr) : Prop where
  cls : ∃ cd, clsIn K D = some cd
  along : ks_superIn K D D "__init__" = some (some (.ref f0))
  opq : nsIn K cStatics "thirdparty.any" = some none
  noS : mg "super" = none
  mro : mroIn K D (.ref D) = some true
  top : (P.main.scope.names.lookup ("super" : Str)).isSome = false
  tf : typeIn K (.ref f0) = some (.type "function")
  fi : fnIn K f0 = true
theorem sup_cls {K : PySem.W.Frag} {C D : Addr} {n : Str} {r : Option Value} (h : ks_superIn K C D n = some r) : ∃ cd, clsIn K C = some cd := by
  unfold ks_superIn at h
  cases e : clsIn K C with
  | none => rw [e] at h; cases h
  | some cd => exact ⟨cd, rfl⟩
theorem fn_super {P : Program} {w : World} {K : PySem.W.Frag} {mg : Str → Option Value} {base : Heap} {qual : Str} {st : Stmt} {f f0 D : Addr} {fd fd0 : FuncData} {N ps ps0 : List Str} {k k0 : Nat} {sp sp0 : Sp} {ds0 : List Value} {dvs0 : List V} {e : Expr} {es : List Expr} {rest : List Stmt} {p0 p1 p2 p3 p4 : Pos} {ar : Arg} {ar' : List Str} {pl : Env → Sem Bool}
    (F : FunS P K qual st f fd D) (S : SScope N ps (fnScope st)) (len : ∀ vs H Q E, sp vs H Q E → vs.length = ps.length) (U : SupOk P K mg D f0) (F0 : FnOk P w K mg base C8.CX0 k0 f0 fd0 ps0 sp0) (b0 : Binds K fd0 ps0 ds0) (d0 : Vals dvs0 ds0) (hk : k0 ≤ k)
    (hst : fnBody st = .Expr (.Call (.Attribute (.Call (.Name "super" p0) [] [] p1) "__init__" p2) (e :: es) [] p3) p4 :: rest)
    (har : ((fnArgs st).posonlyargs ++ (fnArgs st).args).head? = some ar) (hps : ps = ar.arg :: ar')
    (hks : (fnScope st).names.lookup ("super" : Str) = some .globalImplicit) (hkc : (fnScope st).names.lookup ("__class__" : Str) = some .free)
    (hev : ∀ env : Env, eval (.Call (.Attribute (.Call (.Name "super" p0) [] [] p1) "__init__" p2) (e :: es) [] p3) env = (do
      let ov ← attributeBase (.Call (.Name "super" p0) [] [] p1) "__init__" env (eval (.Call (.Name "super" p0) [] [] p1) env)
      standAt p2.atName
      let (f, first) ← holding [ov] (getMethod ov "__init__" (pl env))
      callWith p3 f first (backTo p3 (starEach (e :: es) env)) []))
    (hse : ∀ env : Env, starEach (e :: es) env = (false, eval e env) :: starEach es env) (hpl : ∀ env : Env, (backTo p3 (starEach es env)).any (·.1) = false)
    (hbody : ∀ (cdv : Value) (cc : Addr) (A : Around) (outer : List Env) (s : Shared) (H : Hp) (vs : List V) (Q : VK) (E : XK), Room k (A.deeper (ksEnv qual (fnScope st) s.heap.objs.size f cdv cc)) → sp vs H Q E →
      ∃ (t : TA) (tr : TS) (x dx : Addr) (fs : List (Str × V)) (ws : List V), vs = .ref x :: ws ∧ H x = some (.ins D dx fs) ∧ PA (cxS P w K mg base N qual (fnScope st) f cdv cc A outer s H) (e :: es) t ∧ PSs (cxS P w K mg base N qual (fnScope st) f cdv cc A outer s H) rest tr ∧
        ∀ q, H q = none → t (L2.start N vs) (upd H q (.met f0 x)) fun us H1 => H1 q = some (.met f0 x) ∧ sp0 ((.ref x :: us) ++ dvs0) H1 (fun _ H2 => tr { nx := fun _ H' => Q .non H', rt := Q } (L2.start N vs) H2) C8.E0) :
    FnOk P w K mg base C8.CX0 (k + 1) f fd ps sp := by
  refine ⟨len, fun A outer s H args us vs Q E hr e0 hb r hsp => ?_⟩
  obtain ⟨oc, od, kV, doc, pm, an, cda, ct, osl, cc, cl, cld, csl, ccl, cdd, cvs, ccs, file, tf, rfl, ho, hcd, hcc, hcda, hvs, hfile⟩ := F.ex
  have hl := len _ _ _ _ hsp
  have KX : K.In s.heap := e0.mod.kin.keeps fun b o e => (e0.bs b o e).1
  have lim : s.heap.NoLimit := e0.mod.nolimit.keeps fun b o e => (e0.bs b o e).1
  obtain ⟨t, tr, x, dx, fs, ws, rfl, hx, hA, hS, hrun⟩ := hbody (.ref cda) cc A outer s H vs Q E (hr.deeper _) hsp
  refine ks_codeAny_call_defAt hr.depth (KX _ _ ho) rfl lim (codeRec_of KX hcd) rfl hb S.nocell (fun y hy => S.par _ (List.of_mem_zip hy).1) (fun h1 hns kk => ?_) S.co S.gen S.kind
  have X1 : K.In h1 := KX.keeps kk
  have I : Inv (cxS P w K mg base N qual (fnScope st) f (.ref cda) cc A outer s H) [] (L2.start N (.ref x :: ws)) H { s with heap := h1, toks := s.toks + (ps.zip us).length } := inv_startS S hr.hd e0 hl r hcc rfl hns kk
  show PySem.wpAt _ (A.deeper (ksEnv qual (fnScope st) s.heap.objs.size f (.ref cda) cc)) (.func (fnBody st) (ksEnv qual (fnScope st) s.heap.objs.size f (.ref cda) cc)) (execs (fnBody st) (ksEnv qual (fnScope st) s.heap.objs.size f (.ref cda) cc)) _ _ _
  have hxo : h1.get? x = some (instObj D dx) := kk _ _ (e0.hok x _ hx).2.2.2.1
  obtain ⟨cd, hcls⟩ := U.cls
  obtain ⟨oD, hD1, hD2⟩ : ∃ oD, h1.get? D = some oD ∧ oD.data = .cls cd := by
    have hc := hcls
    unfold clsIn at hc
    split at hc
    · rename_i c d cd' sl ho'
      cases hc
      exact ⟨_, X1 _ _ ho', rfl⟩
    · cases hc
  have hxD : x ≠ D := fun z => by
    rw [z, hD1] at hxo
    rw [Option.some.inj hxo] at hD2
    cases hD2
  have hal := U.along
  unfold ks_superIn at hal
  rw [hcls] at hal
  obtain ⟨of, hof, hofc⟩ : ∃ of, h1.get? f0 = some of ∧ of.cls = .type "function" := by
    have ht' : (K.lookup f0).map (·.cls) = some (.type "function") := U.tf
    cases z : K.lookup f0 with
    | none => rw [z] at ht'; cases ht'
    | some of => rw [z] at ht'; exact ⟨of, X1 _ _ z, Option.some.inj ht'⟩
  obtain ⟨mb, hmb1, hmb2⟩ := e0.mod.blt
  have hg1 := (e0.mod.glob.keeps fun b o e => (e0.bs b o e).1).keeps kk
  have hb1 := (hmb1.keeps fun b o e => (e0.bs b o e).1).keeps kk
  have hsu : mb "super" = some (.type "super") := (hmb2 _ (by decide)).trans (by decide +kernel)
  have hself : (ps.zip us).reverse.lookup ar.arg = some (.ref x) := by
    have ndP : ps.Nodup := by rw [← S.pre]; exact S.nd.sublist (List.take_sublist _ _)
    have ul : us.length = ps.length := by rw [← r.length]; exact hl
    refine lookup_nd ?_ (List.mem_reverse.mpr ?_)
    · rw [List.map_reverse]
      refine (List.Perm.nodup_iff (List.reverse_perm _)).mpr ?_
      rw [List.map_fst_zip (by omega)]
      exact ndP
    · cases r with
      | cons r0 _ =>
        cases r0
        rw [hps]
        exact List.mem_cons_self ..
  rw [hst]
  refine ks_wpAt_execs_cons (ks_wpAt_Expr_any (ks_wpAt_MethodCall ?_ (hev _)) (by simp [interactive, S.kind]))
  rw [← hst]
  refine ks_wpAt_super_base (f := f) (cc := cda) (file := file) (tf := tf) (vs := cvs) (ar := ar) hks hkc (by decide) rfl (X1 _ _ ho) rfl har rfl (X1 _ _ hcda) rfl hvs hfile U.top ?_
  refine ks_loadName_global S.kind hks (loadGlobal_builtin hg1 U.noS hb1 hsu ⟨rfl, ?_⟩)
  refine wpAny_loadName_free S.kind hkc (c := cc) (by show List.lookup _ [(("__class__" : Str), cc)] = _; simp [List.lookup]) ⟨_, X1 _ _ hcc, rfl⟩ ?_
  refine wpAny_loadName_local S.kind (S.par _ (by rw [hps]; exact List.mem_cons_self ..)) hns hself ?_
  refine ks_wpAny_isType_cls hD1 hD2 ⟨rfl, ?_⟩
  refine ks_wpAny_call_super hD1 hD2 hxo rfl (fun c e => by cases e) (looks_mroIn X1 U.mro) (fun h2 e2 g2 => ?_)
  have X2 : K.In h2 := X1.keeps g2
  have I2 : Inv (cxS P w K mg base N qual (fnScope st) f (.ref cda) cc A outer s H) [] (L2.start N (.ref x :: ws)) H { s with heap := h2, toks := s.toks + (ps.zip us).length } := I.kept (t' := s.toks + (ps.zip us).length) g2
  refine ks_wpAny_getMethod_super e2 (looks_opaque X2 U.opq) (l₀ := cd.mro) (fun A Q E s k q => wpAny_bind ((looks_clsIn X2 hcls) A _ E s k (wpAny_pure q))) rfl X2 hal (g2 _ _ hof) hofc hxD (by decide) ?_
  have hq0 : H h2.objs.size = none := I2.hok.fresh (Nat.le_refl _)
  have I3 := I2.laid (t' := s.toks + (ps.zip us).length + 1) (a := h2.objs.size) (o := .met f0 x) (fun b u z => Heap.get?_push_of_some _ z) (Nat.le_refl _)
    (show (h2.push (methodObj (.ref f0) (.ref x))).get? h2.objs.size = some (methodObj (.ref f0) (.ref x)) from Heap.get?_push_size h2 rfl)
  have hq1 := hrun _ hq0
  generalize hq : h2.objs.size = q at *
  refine wpAny_mono (E := fun _ _ => False) (callWith_of (P := MethP K q f0 (.ref x)) (by rw [hse]; show ((false || (backTo p3 (starEach es _)).any (·.1)) || false) = false; rw [hpl]; rfl) (keeps_M U.fi) ?_) (fun _ _ z => z) (fun _ _ z => z.elim)
  rw [hse]
  have hE : ∀ {env : Env} {M : Model} {A : Around} {R : List Value → Shared → Prop} {E : Value → Shared → Prop} {s : Shared}, wpAny M A (spliced (backTo p3 (starEach (e :: es) env))) R E s → wpAny M A (spliced (backTo p3 ((false, eval e env) :: starEach es env))) R E s := fun h => by rw [← hse]; exact h
  refine evalArgs_plain (hE ?_)
  refine thn (hA.run p3 [] _ _ _ _ I3 hq1) fun us2 s4 ⟨vs2, H4, I4, r4, hq4, hsp4⟩ => ?_
  refine ⟨met_P I4 hq4, ?_⟩
  show wpAny _ _ (call (.ref q) us2) _ _ _
  have r2 : Vals ((.ref x :: vs2) ++ dvs0) ((.ref x :: us2) ++ ds0) := Vals.append (.cons rfl r4) d0
  have hl2 : ((Value.ref x :: us2) ++ ds0).length = ps0.length := by rw [← r2.length]; exact F0.len _ _ _ _ hsp4
  refine wpAny_call (method_call (met_P I4 hq4).1 (codeAny_mono (F0.run _ _ s4 H4 ⟨.ref x :: us2, []⟩ ((.ref x :: us2) ++ ds0) ((.ref x :: vs2) ++ dvs0) _ C8.E0 ((hr.deeper _).mono hk) I4.env0 (b0 s4 (.ref x :: us2) I4.kIn hl2) r2 hsp4) (fun rr s5 hq5 => ?_)))
  cases rr with
  | error e => exact hq5.elim
  | ok fl =>
    cases fl with
    | next => exact False.elim hq5
    | brk => exact False.elim hq5
    | cont => exact False.elim hq5
    | ret u =>
      obtain ⟨v5, H5, I5, rv5, htr⟩ := I4.after hq5
      refine wpAt_of_wpAny (wpAny_mono (hS.run [] s5 _ H5 _ I5 htr) (fun fl s6 hs => ?_) (fun _ _ z => z.elim))
      have fin : ∀ {σ' : L2.St} {H' : Hp} {v : V} {u : Value}, Inv (cxS P w K mg base N qual (fnScope st) f (.ref cda) cc A outer s H) [] σ' H' s6 → RelV v u → Q v H' → CE outer P w H s Q u s6 :=
        fun {σ' H' v u} J rv q => ⟨v, H', J.os, J.bare, J.base, J.hok, rv, q⟩
      cases fl with
      | ret u =>
        obtain ⟨v, σ', H', J, rv, q⟩ := hs
        exact fin J rv q
      | next =>
        obtain ⟨σ', H', J, q⟩ := hs
        exact fin (v := V.non) (u := Value.none) J rfl q
      | brk =>
        obtain ⟨_, _, _, q⟩ := hs
        exact False.elim q
      | cont =>
        obtain ⟨_, _, _, q⟩ := hs
        exact False.elim q
end

/-! the text by places -/
def top (i : Nat) : Stmt := PySem.Challenge.pw_bothgain_k74_whole_checked_brains_never.main.body.getD i (.Pass ⟨0, 0, 0, 0⟩)
abbrev s_Tape___init : Stmt := L2.inClass (top 10) 0
theorem sc_Tape___init : FnScope ["self", "results"] ["self", "results"] (fnScope s_Tape___init) := fnScope_by (by decide +kernel)
abbrev s_Tape_take : Stmt := L2.inClass (top 10) 1
theorem sc_Tape_take : FnScope ["self", "count", "result"] ["self", "count"] (fnScope s_Tape_take) := fnScope_by (by decide +kernel)
abbrev s_Brain___init : Stmt := L2.inClass (top 21) 0
theorem sc_Brain___init : FnScope ["self", "units", "cells", "block", "answer"] ["self", "units", "cells", "block", "answer"] (fnScope s_Brain___init) := fnScope_by (by decide +kernel)
abbrev s_Mind___init : Stmt := L2.inClass (top 33) 0
theorem sc_Mind___init : FnScope ["self", "units", "cells", "code"] ["self", "units", "cells", "code"] (fnScope s_Mind___init) := fnScope_by (by decide +kernel)
abbrev s_Thinker___init : Stmt := L2.inClass (top 14) 0
theorem sc_Thinker___init : FnScope ["self", "brain", "cells", "seen", "tape", "row", "value"] ["self", "brain", "cells", "seen", "tape"] (fnScope s_Thinker___init) := fnScope_by (by decide +kernel)
abbrev s_Thinker_value : Stmt := L2.inClass (top 14) 1
theorem sc_Thinker_value : FnScope ["self", "expression"] ["self", "expression"] (fnScope s_Thinker_value) := fnScope_by (by decide +kernel)
abbrev s_Thinker_unit : Stmt := L2.inClass (top 14) 2
theorem sc_Thinker_unit : FnScope ["self"] ["self"] (fnScope s_Thinker_unit) := fnScope_by (by decide +kernel)
abbrev s_Thinker_run : Stmt := L2.inClass (top 14) 3
theorem sc_Thinker_run : FnScope ["self", "block", "statement"] ["self", "block"] (fnScope s_Thinker_run) := fnScope_by (by decide +kernel)
abbrev s_Thinker_step : Stmt := L2.inClass (top 14) 4
theorem sc_Thinker_step : FnScope ["self", "statement", "kind", "value"] ["self", "statement"] (fnScope s_Thinker_step) := fnScope_by (by decide +kernel)
abbrev s_Thinker_loop : Stmt := L2.inClass (top 14) 5
theorem sc_Thinker_loop : FnScope ["self", "test", "block"] ["self", "test", "block"] (fnScope s_Thinker_loop) := fnScope_by (by decide +kernel)
abbrev s_view_numbers : Stmt := top 13
theorem sc_view_numbers : FnScope ["view", "numbers", "event"] ["view"] (fnScope s_view_numbers) := fnScope_by (by decide +kernel)
abbrev s_think : Stmt := top 15
theorem sc_think : FnScope ["brain", "cells", "view", "count", "tape", "thinker", "answer", "row"] ["brain", "cells", "view", "count", "tape"] (fnScope s_think) := fnScope_by (by decide +kernel)
abbrev s_combine : Stmt := top 7
theorem sc_combine : FnScope ["sign", "left", "right"] ["sign", "left", "right"] (fnScope s_combine) := fnScope_by (by decide +kernel)
abbrev s_value_of : Stmt := top 8
theorem sc_value_of : FnScope ["expression", "table", "on", "seen", "kind", "at", "chosen", "left", "right"] ["expression", "table", "on", "seen"] (fnScope s_value_of) := fnScope_by (by decide +kernel)
abbrev s_Frame___init : Stmt := L2.inClass (top 17) 0
theorem sc_Frame___init : FnScope ["self", "code", "table", "tape"] ["self", "code", "table", "tape"] (fnScope s_Frame___init) := fnScope_by (by decide +kernel)
abbrev s_Frame_advance : Stmt := L2.inClass (top 17) 1
theorem sc_Frame_advance : FnScope ["self", "name", "argument", "right", "left"] ["self"] (fnScope s_Frame_advance) := fnScope_by (by decide +kernel)
abbrev s_Thinking___init : Stmt := L2.inClass (top 18) 0
theorem sc_Thinking___init : SScope ["self", "mind", "cells", "view", "tape"] ["self", "mind", "cells", "view", "tape"] (fnScope s_Thinking___init) := sScope_by (by decide +kernel)
abbrev s_Thinking_special : Stmt := L2.inClass (top 18) 1
theorem sc_Thinking_special : FnScope ["self", "name", "argument", "count", "at"] ["self", "name", "argument"] (fnScope s_Thinking_special) := fnScope_by (by decide +kernel)
abbrev s_think_by_code : Stmt := top 19
theorem sc_think_by_code : FnScope ["mind", "cells", "view", "count", "tape", "frame", "answer"] ["mind", "cells", "view", "count", "tape"] (fnScope s_think_by_code) := fnScope_by (by decide +kernel)
abbrev s_BadCode___init : Stmt := L2.inClass (top 3) 0
abbrev s_argument_fits : Stmt := top 27
theorem sc_argument_fits : FnScope ["instruction", "slots", "moves", "name", "argument"] ["instruction", "slots", "moves"] (fnScope s_argument_fits) := fnScope_by (by decide +kernel)
abbrev s_targets_of : Stmt := top 28
theorem sc_targets_of : FnScope ["at", "instruction", "name", "argument"] ["at", "instruction"] (fnScope s_targets_of) := fnScope_by (by decide +kernel)
abbrev s_Checker___init : Stmt := L2.inClass (top 29) 0
theorem sc_Checker___init : FnScope ["self", "code", "slots", "moves", "thinking"] ["self", "code", "slots", "moves", "thinking"] (fnScope s_Checker___init) := fnScope_by (by decide +kernel)
abbrev s_Checker_reaches : Stmt := L2.inClass (top 29) 3
theorem sc_Checker_reaches : FnScope ["self", "targets", "height", "target"] ["self", "targets", "height"] (fnScope s_Checker_reaches) := fnScope_by (by decide +kernel)
abbrev s_Checker_returns : Stmt := L2.inClass (top 29) 2
theorem sc_Checker_returns : FnScope ["self", "at", "target"] ["self", "at", "target"] (fnScope s_Checker_returns) := fnScope_by (by decide +kernel)
abbrev s_Checker_good : Stmt := L2.inClass (top 29) 1
theorem sc_Checker_good : FnScope ["self", "at", "names", "instruction", "takes", "gives", "height", "after"] ["self", "at"] (fnScope s_Checker_good) := fnScope_by (by decide +kernel)
abbrev s_check_code : Stmt := top 30
theorem sc_check_code : FnScope ["code", "slots", "moves", "thinking", "checker", "at"] ["code", "slots", "moves", "thinking"] (fnScope s_check_code) := fnScope_by (by decide +kernel)
abbrev s_check_mind : Stmt := top 31
theorem sc_check_mind : FnScope ["mind"] ["mind"] (fnScope s_check_mind) := fnScope_by (by decide +kernel)
abbrev s_law_pool : Stmt := top 35
theorem sc_law_pool : FnScope ["script", "budget"] ["script", "budget"] (fnScope s_law_pool) := fnScope_by (by decide +kernel)
abbrev s_law_draw : Stmt := top 36
theorem sc_law_draw : FnScope ["pool", "size", "cell", "value"] ["pool", "size"] (fnScope s_law_draw) := fnScope_by (by decide +kernel)
abbrev s_law_spend : Stmt := top 37
theorem sc_law_spend : FnScope ["pool"] ["pool"] (fnScope s_law_spend) := fnScope_by (by decide +kernel)
abbrev s_law_few : Stmt := top 38
theorem sc_law_few : FnScope ["pool", "most", "few"] ["pool", "most"] (fnScope s_law_few) := fnScope_by (by decide +kernel)
abbrev s_law_number : Stmt := top 39
theorem sc_law_number : FnScope ["pool"] ["pool"] (fnScope s_law_number) := fnScope_by (by decide +kernel)
abbrev s_law_same : Stmt := top 40
theorem sc_law_same : FnScope ["actual", "due", "k"] ["actual", "due"] (fnScope s_law_same) := fnScope_by (by decide +kernel)
abbrev s_law_names_of_code : Stmt := top 44
theorem sc_law_names_of_code : FnScope ["text"] [] (fnScope s_law_names_of_code) := fnScope_by (by decide +kernel)
abbrev s_law_takes : Stmt := top 47
theorem sc_law_takes : FnScope ["name", "text", "row"] ["name"] (fnScope s_law_takes) := fnScope_by (by decide +kernel)
abbrev s_law_argument : Stmt := top 48
theorem sc_law_argument : FnScope ["pair", "slots", "moves", "most"] ["pair", "slots", "moves"] (fnScope s_law_argument) := fnScope_by (by decide +kernel)
abbrev s_law_targets : Stmt := top 49
theorem sc_law_targets : FnScope ["at", "pair"] ["at", "pair"] (fnScope s_law_targets) := fnScope_by (by decide +kernel)
abbrev s_law_checked : Stmt := top 50
theorem sc_law_checked : FnScope ["code", "slots", "moves", "brain", "heights", "highest", "at", "pair", "takes", "good", "height", "target"] ["code", "slots", "moves", "brain"] (fnScope s_law_checked) := fnScope_by (by decide +kernel)
abbrev s_law_told : Stmt := top 51
theorem sc_law_told : FnScope ["code", "slots", "moves", "brain", "e"] ["code", "slots", "moves", "brain"] (fnScope s_law_told) := fnScope_by (by decide +kernel)
abbrev s_law_some_value : Stmt := top 41
theorem sc_law_some_value : FnScope ["pool", "slots", "moves", "brain", "deep", "kind", "left", "right", "other"] ["pool", "slots", "moves", "brain", "deep"] (fnScope s_law_some_value) := fnScope_by (by decide +kernel)
abbrev s_law_some_code : Stmt := top 42
theorem sc_law_some_code : FnScope ["pool", "slots", "moves", "brain", "deep", "code", "k", "kind", "value", "inner", "other"] ["pool", "slots", "moves", "brain", "deep"] (fnScope s_law_some_code) := fnScope_by (by decide +kernel)
abbrev s_law_whole_code : Stmt := top 43
theorem sc_law_whole_code : FnScope ["pool", "slots", "moves", "brain", "code"] ["pool", "slots", "moves", "brain"] (fnScope s_law_whole_code) := fnScope_by (by decide +kernel)
abbrev s_law_any : Stmt := top 45
theorem sc_law_any : FnScope ["pool", "name", "argument"] ["pool"] (fnScope s_law_any) := fnScope_by (by decide +kernel)
abbrev s_law_spoilt : Stmt := top 46
theorem sc_law_spoilt : FnScope ["pool", "code", "place", "kind"] ["pool", "code"] (fnScope s_law_spoilt) := fnScope_by (by decide +kernel)
abbrev s_law_view : Stmt := top 57
theorem sc_law_view : FnScope ["pool", "view", "k", "kind", "many"] ["pool"] (fnScope s_law_view) := fnScope_by (by decide +kernel)
abbrev s_law_count : Stmt := top 58
theorem sc_law_count : FnScope ["pool", "view", "count"] ["pool", "view"] (fnScope s_law_count) := fnScope_by (by decide +kernel)
abbrev s_law_seen : Stmt := top 59
theorem sc_law_seen : FnScope ["view", "seen", "event", "rest"] ["view"] (fnScope s_law_seen) := fnScope_by (by decide +kernel)
abbrev s_law_fall : Stmt := top 52
theorem sc_law_fall : FnScope ["results", "taken", "count", "result"] ["results", "taken", "count"] (fnScope s_law_fall) := fnScope_by (by decide +kernel)
abbrev s_law_combine : Stmt := top 53
theorem sc_law_combine : FnScope ["sign", "a", "b", "whole"] ["sign", "a", "b"] (fnScope s_law_combine) := fnScope_by (by decide +kernel)
abbrev s_law_do : Stmt := top 54
theorem sc_law_do : FnScope ["state", "name", "argument", "stack", "right", "left", "at", "count", "value", "choices", "table", "shown"] ["state", "name", "argument"] (fnScope s_law_do) := fnScope_by (by decide +kernel)
abbrev s_law_careful : Stmt := top 55
theorem sc_law_careful : FnScope ["state", "code", "most", "at", "steps", "name", "argument", "following"] ["state", "code", "most"] (fnScope s_law_careful) := fnScope_by (by decide +kernel)
abbrev s_law_state : Stmt := top 56
theorem sc_law_state : FnScope ["table", "sizes", "answers", "seen", "left", "results", "state"] ["table", "sizes", "answers", "seen", "left", "results"] (fnScope s_law_state) := fnScope_by (by decide +kernel)
abbrev s_law_long_view : Stmt := top 60
theorem sc_law_long_view : FnScope ["many", "view", "long", "seen", "mind", "brain"] ["many"] (fnScope s_law_long_view) := fnScope_by (by decide +kernel)
abbrev s_law : Stmt := top 61
theorem sc_law : FnScope ["script", "pool", "cells", "code", "high", "results", "told", "again", "e", "view", "units", "count", "mind", "state", "steps", "due", "answer", "tape", "k"] ["script"] (fnScope s_law) := fnScope_by (by decide +kernel)
end My
/-! an own exception class over ValueError (by way of GameError) whose __init__ says super().__init__('..') and keeps its one argument -/
namespace SupX_BadCode
open My PySem L2 C8 PySem.W PySem.Calls PyProof.Rows PySem.HandSPX
/-- what the written part says of the class at C, and of its __init__ at fI -/
structure Txt (P : Program) (K : Frag) (mg : Str → Option Value) (nm : Str) (C fI : Addr) : Prop where
  gC : mg nm = some (.ref C)
  cls : ∃ nm q N bs bm sn sub ab col dd k0 k1 k2 k3 k5, K.lookup C = some (excClassObj nm q C N bs bm true sn sub ab col dd k0 k1 k2 k3 k5 "ValueError.__new__") ∧ refsVE bm = true
  along : ks_superIn K C C "__init__" = some (some (.builtin "ValueError.__init__"))
  veC : subIn K (.ref C) (.type "ValueError") = some true
  sa : findIn K (.ref C) "__setattr__" = some (some (.builtin "object.__setattr__"))
  ga : findIn K (.ref C) "__getattribute__" = some (some (.builtin "BaseException.__getattribute__"))
  gg : findIn K (.ref C) "__getattr__" = some none
  noN : findIn K (.ref C) "at" = some none
  iC : findIn K (.ref C) "__init__" = some (some (.ref fI))
  tC : typeIn K (.ref fI) = some (.type "function")
  kC : keepIn K (.ref C) = true
  exC : subIn K (.ref C) (.type "BaseException") = some true
  tyC : typeIn K (.ref C) = some (.type "type")
  hdC : hasDictIn K C = true
  opq : nsIn K cStatics "thirdparty.any" = some none
  noS : mg "super" = none
  mroC : mroIn K C (.ref C) = some true
  top : (P.main.scope.names.lookup ("super" : Str)).isSome = false
  fn : ∃ (oc : Value) (od : Option Addr) (doc pm : Value) (an : Option Addr) (cda : Addr) (ct : Value) (osl : Array (Option Value)) (cc : Addr) (cl : Value) (cld : Option Addr) (csl : Array (Option Value)) (ccl : Value) (cdd : Option Addr) (vs : Array Value) (ccs : Array (Option Value)) (file : Str) (tf : Tok),
    K.lookup fI = some ⟨oc, od, .func (fnX "__init__" "BadCode.__init__" (fnArgs s_BadCode___init) (fnBody s_BadCode___init) (fnScope s_BadCode___init) [("__class__", cc)] .none .none doc pm an (.ref cda) ct), osl⟩ ∧ codeIn K (.ref cda) "BadCode.__init__" = true ∧
    K.lookup cc = some ⟨cl, cld, .cell (some (.ref C)), csl⟩ ∧ K.lookup cda = some ⟨ccl, cdd, .fields vs, ccs⟩ ∧ vs[2]? = some (.str file tf) ∧ ((P.main.file : Str) == file) = true
/-- what __init__ leaves of a fresh exception at x -/
structure Left (h h' : Heap) (x C dx t1 : Addr) (v : Value) : Prop where
  keep : ∀ b o, b ≠ x → h.get? b = some o → h'.get? b = some o
  obj : h'.get? x = some { cls := .ref C, dict := some dx, data := .fields #[.ref t1, .none, .none, .none, .bool false, .none] }
  dbig : h.objs.size ≤ dx
  dne : dx ≠ x
  ns : h'.Ns1 dx (fun y => if y = "at" then some v else none)
section
variable {prog : Program} {w : World} {A : Around} {E : Value → Shared → Prop} {R : Result → Shared → Prop} {s : Shared} {K : Frag} {mg mb : Str → Option Value} {C fI : Addr} {nm : Str}
/-- such an __init__, run on a fresh exception -/
theorem init (T : Txt prog K mg nm C fI) {x t0 : Addr} {v : Value} (X : K.In s.heap) (hlim : s.heap.NoLimit) (hmg : s.heap.Ns mainGlobals mg) (hmb : s.heap.Ns builtinsNs mb) (hsu : mb "super" = some (.type "super"))
    (hx : s.heap.get? x = some (excO C t0)) (hnx : K.lookup x = none) (hroom : A.depth < recursionLimit)
    (hq : ∀ h' tk dx t1, Left s.heap h' x C dx t1 v → R (.ok (.ret .none)) { s with heap := h', toks := tk }) :
    codeAny (model prog w) A (.call (.ref fI) ⟨[.ref x, v], []⟩) R s := by
  obtain ⟨oc, od, doc, pm, an, cda, ct, osl, cc, cl, cld, csl, ccl, cdd, vs, ccs, file, tf, ho, hcd, hcc, hcda, hvs, hfile⟩ := T.fn
  obtain ⟨nmC, q, N, bs, bm, sn, sub, ab, col, dd, k0, k1, k2, k3, k5, hC, hbm⟩ := T.cls
  have hcl : clsIn K C = some { name := nmC, bases := bs, mro := .ref C :: bm, ns := N, qualname := q, hasDict := true, slotNames := sn, subclasses := sub, abstract := ab, collection := col, hasDel := false } := by unfold clsIn; rw [hC] <;> rfl
  have hal := T.along
  unfold ks_superIn at hal
  rw [hcl] at hal
  have hxC : x ≠ C := fun z => by rw [z, hC] at hnx; cases hnx
  refine ks_codeAny_call_defAt (fd := fnX "__init__" "BadCode.__init__" (fnArgs s_BadCode___init) (fnBody s_BadCode___init) (fnScope s_BadCode___init) [("__class__", cc)] .none .none doc pm an (.ref cda) ct) (binds := [("self", .ref x), ("at", v)]) hroom (X _ _ ho) rfl hlim
    (codeRec_of X hcd) rfl ?hb ?hcell ?hloc (fun h₁ hns k => ?_) rfl rfl rfl
  case hb => exact BindsTo.of_eq (by first | rfl | with_unfolding_all rfl)
  case hcell =>
    show ∀ x ∈ (fnScope s_BadCode___init).names, x.2 ≠ .cell
    decide +kernel
  case hloc =>
    intro y hy
    rcases List.mem_cons.mp hy with rfl | hy
    · first | rfl | kernel_rfl
    · rw [List.mem_singleton.mp hy]
      first | rfl | kernel_rfl
  have X1 : K.In h₁ := X.keeps k
  have hx1 := k _ _ hx
  have hxL : s.heap.objs.size ≠ x := Nat.ne_of_gt (Heap.lt_size hx)
  show PySem.wpAt _ (A.deeper (ksEnv "BadCode.__init__" (fnScope s_BadCode___init) s.heap.objs.size fI (.ref cda) cc)) (.func (fnBody s_BadCode___init) (ksEnv "BadCode.__init__" (fnScope s_BadCode___init) s.heap.objs.size fI (.ref cda) cc)) (execs (fnBody s_BadCode___init) (ksEnv "BadCode.__init__" (fnScope s_BadCode___init) s.heap.objs.size fI (.ref cda) cc)) _ _ _
  refine ks_wpAt_execs_cons (ks_wpAt_Expr_any (ks_wpAt_MethodCall ?_))
  obtain ⟨arS, har, hars⟩ : ∃ ar, ((fnArgs s_BadCode___init).posonlyargs ++ (fnArgs s_BadCode___init).args).head? = some ar ∧ ar.arg = "self" := ⟨_, rfl, rfl⟩
  refine ks_wpAt_super_base (f := fI) (cc := cda) (file := file) (tf := tf) (vs := vs) (ar := arS) rfl rfl (by decide) rfl (X1 _ _ ho) rfl har rfl (X1 _ _ hcda) rfl hvs hfile T.top ?_
  refine ks_loadName_global rfl rfl (loadGlobal_builtin (hmg.keeps k) T.noS (hmb.keeps k) hsu ⟨rfl, ?_⟩)
  refine wpAny_loadName_free rfl rfl (c := cc) rfl ⟨_, X1 _ _ hcc, rfl⟩ ?_
  rw [hars]
  refine wpAny_loadName_local rfl rfl hns (v := .ref x) ?_ ?_
  · first | rfl | with_unfolding_all rfl | kernel_rfl
  refine ks_wpAny_isType_cls (X1 _ _ hC) rfl ⟨rfl, ?_⟩
  refine ks_wpAny_call_super (X1 _ _ hC) rfl hx1 rfl (fun c e => by cases e) (looks_mroIn X1 T.mroC) (fun h2 e2 g2 => ?_)
  have X2 : K.In h2 := X1.keeps g2
  have hx2 := g2 _ _ hx1
  have hI : InstAt h2 x (excO C t0) C none := ⟨hx2, rfl, rfl, trivial⟩
  refine kxs_getMethod kxs_ValueError e2 (looks_opaque X2 T.opq) (l₀ := .ref C :: bm) ((looks_clsIn X2 hcl).andThen .now) rfl X2 hal (hI.type.andThen (looks_subIn X2 T.veC)) hxC (by decide) ?_
  have up3 : ∀ b o, h2.get? b = some o → (h2.push (kxs_mw "ValueError.__init__" x)).get? b = some o := fun b o e => Heap.get?_push_of_some _ e
  have hw3 : (h2.push (kxs_mw "ValueError.__init__" x)).get? h2.objs.size = some (kxs_mw "ValueError.__init__" x) := Heap.get?_push_at rfl rfl
  generalize h2.push (kxs_mw "ValueError.__init__" x) = h3 at *
  refine kxs_callWith1 (u := h2.objs.size) (i := "ValueError.__init__") (x := x) (h₀ := h2) (L := x) (news := [(h2.objs.size, kxs_mw "ValueError.__init__" x)]) (fun p hp => ?_) (by simp) ?_
  · rw [List.mem_singleton] at hp
    subst hp
    exact ⟨hw3, fun z => absurd (Heap.lt_size hx2) (by rw [← show h2.objs.size = x from z]; exact Nat.lt_irrefl _), by
      cases e : h2.get? h2.objs.size with
      | none => rfl
      | some o => exact absurd (Heap.lt_size e) (Nat.lt_irrefl _)⟩
  refine PyProof.Rows.spliced_more (wpAny_Constant_str (PyProof.Rows.spliced_none ⟨hw3, ?_⟩))
  refine wpAny_call (codeAny_of_tree ?_)
  show wpAny _ _ (callAny (.ref h2.objs.size) ⟨[_], []⟩) _ _ _
  have hmwT : (Value.type "method-wrapper" == Value.type "method" || Value.type "method-wrapper" == Value.type "builtin_function_or_method" || Value.type "method-wrapper" == Value.type "method-wrapper") = true := by decide
  simp only [callAny]
  refine wpAny_bind (wpAny_load hw3 ?_)
  simp only [kxs_mw, hmwT, if_true]
  have X3 : K.In h3 := X2.keeps up3
  have hx3 := up3 _ _ hx2
  refine KFB.if_so (by decide) (wpAny_bind (check_bound_init F.excBase_ValueError.toExcCallFacts (X3 _ _ hC) hx3 rfl (wpAny_bind (wpAny_pure (wpAny_pure ⟨plainId_quiet F.excBase_ValueError.init.plain _, codeAny_builtin F.excBase_ValueError.initEntry ?_⟩)))))
  refine exc_init_tree (cls := .ref C) (t0 := t0) (dv := none) (c2 := .none) (c3 := .none) (b4 := .bool false) hx3 (by show 1 ≤ sizeLine; decide) (fun h4 k4 hx4 _ => ?_)
  have X4 : K.In h4 := fun a o e => k4 a o (fun z => by rw [z, hnx] at e; cases e) (X3 a o e)
  have old : ∀ b o, b ≠ x → h₁.get? b = some o → h4.get? b = some o := fun b o hb e => k4 b o hb (up3 b o (g2 b o e))
  have hns4 := hns.at (h' := h4) fun o e => old _ o hxL e
  refine wpAt_of_wpAny (wpAny_execs_cons (plainObj_wpAny_Assign_Attribute (wpAny_Name (wpAny_loadName_local rfl rfl hns4 (v := v) ?_ (wpAny_Name (wpAny_loadName_local rfl rfl hns4 (v := .ref x) ?_ ?_))))))
  · first | rfl | with_unfolding_all rfl | kernel_rfl
  · first | rfl | with_unfolding_all rfl | kernel_rfl
  refine set_plain X4 (ox := excO C h3.objs.size) (od := none) ⟨hx4, rfl, rfl, trivial⟩ T.sa ?_
  refine exc_osa X4 hx4 hcl (show refsVE (.ref C :: bm) = true from hbm) rfl T.noN (fun h5 tk5 dx k5 dn dne hx5 hn5 => wpAny_execs_nil (hq h5 tk5 dx _ ⟨fun b o hb e => k5 b o hb (old b o hb (k b o e)), hx5, ?_, dne, hn5⟩))
  exact Nat.le_of_lt (Nat.lt_of_lt_of_le hns4.lt dn)
/-- a made one -/
structure Made (h h' : Heap) (e C d : Addr) (v : Value) : Prop where
  keep : ∀ b o, h.get? b = some o → h'.get? b = some o
  new : h.objs.size ≤ e
  obj : ∃ oe vs, h'.get? e = some oe ∧ oe.cls = .ref C ∧ oe.dict = some d ∧ oe.data = .fields vs ∧ vs[1]? = some .none
  dbig : h.objs.size ≤ d
  dne : d ≠ e
  ns : h'.Ns1 d (fun y => if y = "at" then some v else none)
theorem made (T : Txt prog K mg nm C fI) {v : Value} (X : K.In s.heap) (hlim : s.heap.NoLimit) (hmg : s.heap.Ns mainGlobals mg) (hmb : s.heap.Ns builtinsNs mb) (hsu : mb "super" = some (.type "super")) (hroom : A.depth + 1 < recursionLimit)
    (hq : ∀ h' tk e d, Made s.heap h' e C d v → R (.ok (.ret (.ref e))) { s with heap := h', toks := tk }) : codeAny (model prog w) A (.call (.ref C) ⟨[v], []⟩) R s := by
  obtain ⟨nmC, q, N, bs, bm, sn, sub, ab, col, dd, k0, k1, k2, k3, k5, hC, hbm⟩ := T.cls
  obtain ⟨hp, g, dr, tk, os⟩ := s
  have up : ∀ b o, hp.get? b = some o → ((hp.push (kdv_tup [v])).push (excO C hp.objs.size)).get? b = some o := fun b o e => Heap.get?_push_of_some _ (Heap.get?_push_of_some _ e)
  have at2 : ((hp.push (kdv_tup [v])).push (excO C hp.objs.size)).get? (hp.objs.size + 1) = some (excO C hp.objs.size) := by heap_get
  have none2 : K.lookup (hp.objs.size + 1) = none := by
    cases e : K.lookup (hp.objs.size + 1) with
    | none => rfl
    | some o => exact absurd (Nat.lt_of_succ_lt (Heap.lt_size (show hp.get? (hp.objs.size + 1) = some o from X _ _ e))) (Nat.lt_irrefl _)
  refine call_own F.excBase_ValueError (fun Y => refsVE_contains Y bm hbm) (X _ _ hC) (looks_findIn X T.iC) (fun self => bind_fn X self T.tC) (by show 1 ≤ sizeLine; decide) ?_
  refine init (s := ⟨(hp.push (kdv_tup [v])).push (excO C hp.objs.size), g, dr, tk, os⟩) T (X.keeps up) (hlim.keeps up) (hmg.keeps up) (hmb.keeps up) hsu at2 none2 ?_ fun h' tk' dx t1 L => ⟨rfl, ?_⟩
  · show A.depth + 1 < recursionLimit
    exact hroom
  · have big : hp.objs.size + 1 + 1 ≤ dx := by
      have z := L.dbig
      rw [Heap.size_push, Heap.size_push] at z
      exact z
    exact hq h' tk' (hp.objs.size + 1) dx ⟨fun b o e => L.keep b o (Nat.ne_of_lt (Nat.lt_succ_of_lt (Heap.lt_size e))) (up b o e), Nat.le_succ _, ⟨_, _, L.obj, rfl, rfl, rfl, rfl⟩, Nat.le_trans (Nat.le_trans (Nat.le_succ _) (Nat.le_succ _)) big, L.dne, L.ns⟩
end
/-! the rules -/
theorem relO_fld {v : V} {u : Value} (r : RelV v u) (f : Str) : RelO (List.lookup f [(("at" : Str), v)]) (if f = "at" then some u else none) := by
  by_cases h : f = "at"
  · subst h
    have q : List.lookup ("at" : Str) [(("at" : Str), v)] = some v := by simp [List.lookup]
    rw [q, if_pos rfl]
    exact r
  · have e : (f == ("at" : Str)) = false := by simpa using h
    rw [if_neg h]
    simp [List.lookup, e]
    trivial
/-- BadCode(e), raised -/
def tMkE (C : Addr) (ta : TA) : L2.St → Hp → XK → Prop := fun σ H Q => ta σ H fun vs H1 => ∃ v, vs = [v] ∧ ∀ d, H1 d = none → Q (.ref C) (some d) (upd H1 d (.xd [(("at" : Str), v)]))
section
variable {X : Cx} {C fI : Addr} {nm : Str}
theorem pmk {a : Expr} {ta : TA} {p pos : Pos} {k : Nat} (T : Txt X.prog X.K X.mg nm C fI) (hr : Room k X.A) (ha : PA X [a] ta) (hg : Gl X nm := by rfl) (hdb : (nm == ("__debug__" : Str)) = false := by decide)
    (he : starEach (a :: []) X.env = (false, eval a X.env) :: starEach [] X.env := by rfl) (hpl : (backTo pos (starEach [] X.env)).any (·.1) = false := by rfl) :
    PMk X (.Call (.Name nm p) [a] [] pos) (tMkE C ta) := by
  intro pins s σ H Q I h
  refine wpAny_Call_Name_kw (ld_glob I hg T.gC ?_ hdb)
  refine PySem.W.callWith_K (h₀ := X.base) I.ok.mod.kin T.kC (thn (ha.run pos pins s σ H _ I h) fun us s1 hh => ?_) he hpl
  obtain ⟨vs, H1, I1, r1, v, ev, q1⟩ := hh
  subst ev
  refine ⟨I1.kIn, ?_⟩
  cases r1 with
  | cons rv rn =>
    rename_i u us'
    cases rn
    show wpAny _ _ (call (.ref C) [u]) _ _ _
    have lim := I1.nolimit
    obtain ⟨mb, hmb1, hmb2⟩ := I1.mod.blt
    have hg1 := I1.mod.glob.keeps I1.bk
    have hb1 := hmb1.keeps I1.bk
    have hsu : mb "super" = some (.type "super") := (hmb2 _ (by decide)).trans (by decide +kernel)
    obtain ⟨hp, g, dr, tk, os⟩ := s1
    refine wpAny_call (made (mb := mb) T I1.kIn lim hg1 hb1 hsu (by have := hr.dp; omega) fun h' tk' e d M => ?_)
    show MkP X pins σ Q (.ref e) ⟨h', g, dr, tk', os⟩
    obtain ⟨oe, fv, hoe, hc, hd, hdat, h1⟩ := M.obj
    obtain ⟨G', g1, g2⟩ := restrict h' fun b => decide (b ≠ e)
    have there : ∀ b, b ≠ e → G'.get? b = h'.get? b := fun b hb => g1 b (decide_eq_true hb)
    have gone : G'.get? e = none := g2 e (by simp)
    have J : Inv X pins σ (upd H1 d (.xd [(("at" : Str), v)])) ⟨G', g, dr, tk', os⟩ := I1.laid (t' := tk') (fun b o q => (there b (Nat.ne_of_lt (Nat.lt_of_lt_of_le (Heap.lt_size q) M.new))).trans (M.keep b o q)) M.dbig
      ⟨_, M.ns.at (fun o q => (there d M.dne).trans q), fun f => relO_fld rv f⟩
    refine ⟨e, oe, fv, ⟨G', g, dr, tk', os⟩, _, .ref C, some d, rfl, J, fun b o q => ?_, gone, hoe, ⟨hc, hd⟩, hdat, h1, ?_, rfl, I1.bare, raises_own T.exC T.tyC, q1 d (I1.hok.fresh M.dbig)⟩
    · by_cases hb : b = e
      · have q' : G'.get? b = some o := q
        rw [hb, gone] at q'; cases q'
      · exact (there b hb).symm.trans q
    · rw [upd_ne (Ne.symm M.dne)]
      exact I1.hok.fresh M.new
/-- raise BadCode(e) -/
def tRaiseE (C : Addr) (W : WX) (ta : TA) : TS := fun _ σ H => tMkE C ta σ H fun cls d H' => W cls d σ H'
theorem ps_raiseE {a : Expr} {ta : TA} {W : WX} {p pos pos2 : Pos} {k : Nat} (hc : X.calm = true) (T : Txt X.prog X.K X.mg nm C fI) (hr : Room k X.A) (tk : Takes X W) (ha : PA X [a] ta) (hg : Gl X nm := by rfl) (hdb : (nm == ("__debug__" : Str)) = false := by decide)
    (he : starEach (a :: []) X.env = (false, eval a X.env) :: starEach [] X.env := by rfl) (hpl : (backTo pos (starEach [] X.env)).any (·.1) = false := by rfl) :
    PS X (.Raise (some (.Call (.Name nm p) [a] [] pos)) none pos2) (tRaiseE C W ta) := ps_raise hc tk (pmk T hr ha hg hdb he hpl)
end
end SupX_BadCode

namespace My
open PySem L2 C8 SX
end My
/-! isinstance(e, ..) of a caught error of an own class that has its dict -/
namespace ExIs
open PySem PySem.W PySem.Spec PySem.Calls PyProof.Rows
/-- what the class at D must say -/
structure ErrC (K : Frag) (D : Addr) : Prop where
  ga : findIn K (.ref D) "__getattribute__" = some (some (.builtin "BaseException.__getattribute__"))
  gg : findIn K (.ref D) "__getattr__" = some none
  exC : subIn K (.ref D) (.type "BaseException") = some true
  hdC : hasDictIn K D = true
  ca : findIn K (.ref D) "__class__" = some (some (.builtin "object.__class__"))
  sp : specialIn K (.builtin "object.__class__") "__get__" = some (some (.builtin "getset_descriptor.__get__"))
  tk : takesIn K (.builtin "object.__class__") = some true
  mo : mroIn K D (.type "object") = some true
theorem ErrC.clsThere {K : Frag} {D : Addr} (T : ErrC K D) : ∃ cd, clsIn K D = some cd := by
  obtain ⟨cd, hc, _⟩ := any_some T.hdC
  exact ⟨cd, hc⟩
theorem ErrC.binds {K : Frag} {D : Addr} (T : ErrC K D) (od : Option Obj) : findObj K D od "__class__" = some (.bind (.builtin "getset_descriptor.__get__") (.builtin "object.__class__")) := by
  obtain ⟨cd, hcd⟩ := T.clsThere
  have e1 := T.ca
  have e2 := T.sp
  have e3 := T.tk
  unfold findObj
  rw [hcd, Option.bind_some, e1, Option.bind_some]
  simp [e2, e3]
section
variable {prog : Program} {w : World} {A : Around} {E : Value → Shared → Prop} {s : Shared} {K : Frag} {x D : Addr} {ox : Obj} {od : Option Obj}
theorem askClass {Q : Option Value → Shared → Prop} (T : ErrC K D) (X : K.In s.heap) (I : InstAt s.heap x ox D od) (h : Q (some (.ref D)) { s with toks := s.toks + 1 }) : wpAny (model prog w) A (getAttr? (.ref x) "__class__") Q E s := by
  obtain ⟨hp, gs, dr, tok, os⟩ := s
  have ty := I.type (M := model prog w)
  have lga := looks_findIn (M := model prog w) X T.ga
  have lgg := looks_findIn (M := model prog w) X T.gg
  have lcl := looks_find (M := model prog w) X I (T.binds od)
  have isB : Looks (model prog w) hp (isInstance (.ref x) (.type "BaseException")) true := ty.andThen (looks_subIn X T.exC)
  have nq : (Value.builtin "BaseException.__getattribute__" == Value.builtin "object.__getattribute__") = false := by decide +kernel
  unfold getAttr? getAttrBy? getAttrBy
  refine wpAny_bind (wpAny_mkText (wpAny_bind (wpAny_attempt (wpAny_holding (wpAny_bind (ty.at (wpAny_bind (lga.at (?goal : _))))))))) 
  show wpAny _ _ (ite ((onTheHeap (Value.ref D) && Value.builtin "BaseException.__getattribute__" == Value.builtin "object.__getattribute__") = true) _ _) _ _ _
  rw [if_neg (by rw [nq]; simp)]
  unfold getAttrByItsOwn hookBefore
  refine wpAny_bind (?g2 : _)
  have onH : onTheHeap (Value.ref D) = true := rfl
  rw [if_pos onH]
  refine lgg.at (wpAny_bind (wpAny_attempt (wpAny_holding (?g3 : _))))
  unfold callGetattribute
  rw [if_neg (by simp)]
  unfold boundAndCalled
  rw [PySem.F.excAttr_ValueError.ga.bind (.ref x)]
  refine wpAny_bind (wpAny_pure (?g4 : _))
  show wpAny _ _ (call (.builtin "BaseException.__getattribute__") [.ref x, .str "__class__" tok]) _ _ _
  refine wpAny_call (codeAny_call_builtin PySem.F.excAttr_ValueError.ga.plain PySem.F.entry_bexc_ga (@check_slot (model prog w) _ _ ⟨hp, gs, dr, tok + 1, os⟩ "BaseException.__getattribute__" "BaseException" "__getattribute__" (.ref x) [.str "__class__" tok] [] _ (by decide +kernel) (by decide +kernel) isB
    (PySem.F.args_bexc_ga (.ref x) (.str "__class__" tok)) (?g5 : _)))
  unfold Builtin.«object.__getattribute__»
  refine wpAny_bind (wpAny_of_eq (a := ((Value.ref x : Value), [Value.str "__class__" tok])) (by first | rfl | (simp only [slotArgs]; rfl)) (wpAny_bind (wpAny_pure (wpAny_bind (ty.at (wpAny_bind (lcl.at (?g6 : _))))))))
  show wpAny _ _ (holding [Value.builtin "object.__class__"] (call (.builtin "getset_descriptor.__get__") [.builtin "object.__class__", .ref x, .ref D]) >>= ret) _ _ _
  refine wpAny_bind (wpAny_holding (wpAny_call (class_get (s := ⟨hp, gs, dr, tok + 1, os⟩) (ox := ox) (od := od) X I T.mo (wpAny_pure (?g7 : _)))))
  show wpAny _ _ (handedOut (.ref D)) _ _ _
  rw [handedOut_of (v := .ref D) rfl]
  first | exact wpAny_pure (wpAny_pure h) | exact wpAny_pure h | exact wpAny_pure (wpAny_bind (wpAny_pure (wpAny_pure h)))
theorem kit (T : ErrC K D) : KitX K (.ref x) (.ref D) (fun h => InstAt h x ox D od) where
  ty := fun _ _ _ I => I.type
  it := fun _ _ X _ => by
    obtain ⟨cd, hcd⟩ := T.clsThere
    unfold clsIn at hcd
    split at hcd
    · rename_i c' d' cd' sl' ho
      intro A' Q' E' s' k q
      unfold isType loadHead
      exact wpAny_bind (wpAny_loadPart (k _ _ (X _ _ ho)) (wpAny_pure q))
    · cases hcd
  ne := fun h tp dd its n sl X htp => Bool.eq_false_iff.mpr fun q => by
    obtain ⟨cd, hcd⟩ := T.clsThere
    have e : D = tp := Value.ref.inj (beq_iff_eq.mp q)
    subst e
    unfold clsIn at hcd
    split at hcd
    · rename_i c' d' cd' sl' ho
      cases (X _ _ ho).symm.trans htp
    · cases hcd
  ca := fun X I k => askClass T X I k
end
end ExIs
namespace L2
open PySem PySem.Spec PyProof.Rows
theorem inst_of {X : Cx} {pins : List (Addr × Obj)} {σ : L2.St} {H : Hp} {s : Shared} {a D dd : Addr} {oe : Obj} {pn : List (Addr × Obj)} {fs : List (Str × V)} (I : Inv (X.suite a ((a, oe) :: pn)) pins σ H s) (hz : Zc (.ref D) (some dd) oe) (hf : ∃ vs, oe.data = .fields vs) (he : H dd = some (.xd fs)) :
    ∃ od, PySem.W.InstAt s.heap a oe D (some od) := by
  obtain ⟨ha, _⟩ := I.pin (a, oe) (List.mem_append_left _ List.mem_cons_self)
  obtain ⟨vs, hd⟩ := hf
  have hx : ObjOk X.prog X.w H s.heap dd (.xd fs) := I.hok dd _ he
  obtain ⟨mA, hns, _⟩ := hx
  obtain ⟨od, ho, _⟩ := lookIn_ns hns
  exact ⟨od, ha, hz.1, by unfold PySem.W.notCls; rw [hd] <;> rfl, by rw [hz.2]; exact ho⟩
/-- isinstance(e, C), e the caught exception -/
def rIsX (K : PySem.W.Frag) (a : Addr) (cls : Value) (d : Option Addr) : List V → Hp → VK → Prop := fun xs H Q => ∃ (D C dd : Addr) (fs : List (Str × V)) (b : Bool), xs = [.ref a, .ref C] ∧ cls = .ref D ∧ d = some dd ∧ ExIs.ErrC K D ∧ H dd = some (.xd fs) ∧ PySem.W.kitOne K (.ref D) (.ref C) = some b ∧ Q (.bl b) H
theorem call_isX {X : Cx} {a : Addr} {cls : Value} {d : Option Addr} {oe : Obj} {pn : List (Addr × Obj)} (hz : Zc cls d oe) (hf : ∃ vs, oe.data = .fields vs) : CallR (X.suite a ((a, oe) :: pn)) (.builtin "isinstance") (rIsX X.K a cls d) := by
  intro pins s σ H xs us Q I r h
  obtain ⟨D, C, dd, fs, b, rfl, rfl, rfl, T, hx, e, q⟩ := h
  obtain ⟨u1, u2, rfl, r1, r2⟩ := vals2 r
  cases (show u1 = Value.ref a from r1)
  cases (show u2 = Value.ref C from r2)
  obtain ⟨od, J⟩ := inst_of I hz hf hx
  exact PySem.W.kia_one (ExIs.kit T) I.kIn J e (fun z => nomatch z) fun tk => ⟨.bl b, H, I.tok tk, rfl, q⟩
theorem crefs_of {cs : List Addr} {its : List Value} (h : Vals (cs.map V.ref) its) : its = cs.map Value.ref := by
  induction cs generalizing its with
  | nil => cases h; rfl
  | cons c cs ih =>
    cases h with
    | cons h1 h2 => rw [ih h2]; cases (show _ = Value.ref c from h1); rfl
/-- isinstance(e, (C1, ..)) -/
def rIsXT (K : PySem.W.Frag) (a : Addr) (cls : Value) (d : Option Addr) : List V → Hp → VK → Prop := fun xs H Q => ∃ (D tp dd : Addr) (cs : List Addr) (fs : List (Str × V)) (b : Bool), xs = [.ref a, .ref tp] ∧ cls = .ref D ∧ d = some dd ∧ ExIs.ErrC K D ∧ H dd = some (.xd fs) ∧ H tp = some (.tup (cs.map V.ref)) ∧
  PySem.W.kitAny K (.ref D) (cs.map Value.ref) = some b ∧ Q (.bl b) H
theorem call_isXT {X : Cx} {a : Addr} {cls : Value} {d : Option Addr} {oe : Obj} {pn : List (Addr × Obj)} (hz : Zc cls d oe) (hf : ∃ vs, oe.data = .fields vs) : CallR (X.suite a ((a, oe) :: pn)) (.builtin "isinstance") (rIsXT X.K a cls d) := by
  intro pins s σ H xs us Q I r h
  obtain ⟨D, tp, dd, cs, fs, b, rfl, rfl, rfl, T, hx, hT, e, q⟩ := h
  obtain ⟨u1, u2, rfl, r1, r2⟩ := vals2 r
  cases (show u1 = Value.ref a from r1)
  cases (show u2 = Value.ref tp from r2)
  obtain ⟨od, J⟩ := inst_of I hz hf hx
  obtain ⟨_, its, rv, o, h1, h2, n, h3⟩ := (show ObjOk X.prog X.w H s.heap tp (.tup (cs.map V.ref)) from I.hok tp _ hT)
  have e3 := crefs_of rv
  subst e3
  obtain ⟨oc, od2, dt, sl⟩ := o
  simp only at h2 h3
  subst h2 h3
  exact PySem.W.kia_tup (ExIs.kit T) I.kIn J h1 e (fun z => nomatch z) fun tk => ⟨.bl b, H, I.tok tk, rfl, q⟩
end L2
namespace My
open PySem L2 C8 SX

/-- what the walk asks of the module -/
structure Txt (K : PySem.W.Frag) (mg : Str → Option Value) (C_Tape : Addr) (C_Thinker : Addr) (C_Brain : Addr) (C_Mind : Addr) (C_Frame : Addr) (C_Thinking : Addr) (C_Checker : Addr) (C_GameError : Addr) (C_BadCode : Addr) (T_EVENTS : Addr) (T_SIGNS : Addr) (T_ROUND_NAMES : Addr) (T_BRAIN_NAMES : Addr) (T_EFFECTS : Addr) : Prop where
  n_bool : mg "bool" = none
  n_int : mg "int" = none
  n_isinstance : mg "isinstance" = none
  n_len : mg "len" = none
  n_list : mg "list" = none
  n_max : mg "max" = none
  n_min : mg "min" = none
  n_ord : mg "ord" = none
  n_range : mg "range" = none
  n_str : mg "str" = none
  n_tuple : mg "tuple" = none
  n_zip : mg "zip" = none
  cl_Tape : Cls K C_Tape
  m_Tape : mg "Tape" = some (.ref C_Tape)
  i_Tape : InsC K C_Tape
  a_Tape_results : NoAttr K C_Tape "results"
  a_Tape_taken : NoAttr K C_Tape "taken"
  cl_Thinker : Cls K C_Thinker
  m_Thinker : mg "Thinker" = some (.ref C_Thinker)
  i_Thinker : InsC K C_Thinker
  a_Thinker_table : NoAttr K C_Thinker "table"
  a_Thinker_left : NoAttr K C_Thinker "left"
  a_Thinker_seen : NoAttr K C_Thinker "seen"
  a_Thinker_tape : NoAttr K C_Thinker "tape"
  cl_Brain : Cls K C_Brain
  m_Brain : mg "Brain" = some (.ref C_Brain)
  i_Brain : InsC K C_Brain
  a_Brain_units : NoAttr K C_Brain "units"
  a_Brain_cells : NoAttr K C_Brain "cells"
  a_Brain_block : NoAttr K C_Brain "block"
  a_Brain_answer : NoAttr K C_Brain "answer"
  cl_Mind : Cls K C_Mind
  m_Mind : mg "Mind" = some (.ref C_Mind)
  i_Mind : InsC K C_Mind
  a_Mind_units : NoAttr K C_Mind "units"
  a_Mind_cells : NoAttr K C_Mind "cells"
  a_Mind_code : NoAttr K C_Mind "code"
  cl_Frame : Cls K C_Frame
  m_Frame : mg "Frame" = some (.ref C_Frame)
  i_Frame : InsC K C_Frame
  a_Frame_code : NoAttr K C_Frame "code"
  a_Frame_table : NoAttr K C_Frame "table"
  a_Frame_tape : NoAttr K C_Frame "tape"
  a_Frame_at : NoAttr K C_Frame "at"
  a_Frame_stack : NoAttr K C_Frame "stack"
  a_Frame_steps : NoAttr K C_Frame "steps"
  cl_Thinking : Cls K C_Thinking
  m_Thinking : mg "Thinking" = some (.ref C_Thinking)
  i_Thinking : InsC K C_Thinking
  a_Thinking_code : NoAttr K C_Thinking "code"
  a_Thinking_table : NoAttr K C_Thinking "table"
  a_Thinking_tape : NoAttr K C_Thinking "tape"
  a_Thinking_at : NoAttr K C_Thinking "at"
  a_Thinking_stack : NoAttr K C_Thinking "stack"
  a_Thinking_steps : NoAttr K C_Thinking "steps"
  a_Thinking_left : NoAttr K C_Thinking "left"
  a_Thinking_seen : NoAttr K C_Thinking "seen"
  a_Thinking_silent : NoAttr K C_Thinking "silent"
  a_Thinking_done : NoAttr K C_Thinking "done"
  cl_Checker : Cls K C_Checker
  m_Checker : mg "Checker" = some (.ref C_Checker)
  i_Checker : InsC K C_Checker
  a_Checker_code : NoAttr K C_Checker "code"
  a_Checker_slots : NoAttr K C_Checker "slots"
  a_Checker_moves : NoAttr K C_Checker "moves"
  a_Checker_thinking : NoAttr K C_Checker "thinking"
  a_Checker_heights : NoAttr K C_Checker "heights"
  a_Checker_highest : NoAttr K C_Checker "highest"
  v_GREATEST : ∃ u, mg "GREATEST" = some u ∧ RelV (.int 65535) u
  v_EVENTS : ∃ u, mg "EVENTS" = some u ∧ RelV (.ref T_EVENTS) u
  q_EVENTS : ∀ H : Hp, SqT K H T_EVENTS ((["round", "told", "move", "did"] : List Str).map V.str)
  d_EVENTS : ∃ o, K.lookup T_EVENTS = some o ∧ o.cls = .type "tuple" ∧ o.dict = none
  v_SIGNS : ∃ u, mg "SIGNS" = some u ∧ RelV (.ref T_SIGNS) u
  q_SIGNS : ∀ H : Hp, SqT K H T_SIGNS ((["+", "-", "*", "/", "mod", "<", "="] : List Str).map V.str)
  d_SIGNS : ∃ o, K.lookup T_SIGNS = some o ∧ o.cls = .type "tuple" ∧ o.dict = none
  v_HIGHEST : ∃ u, mg "HIGHEST" = some u ∧ RelV (.int 16) u
  v_ROUND_NAMES : ∃ u, mg "ROUND_NAMES" = some u ∧ RelV (.ref T_ROUND_NAMES) u
  q_ROUND_NAMES : ∀ H : Hp, SqT K H T_ROUND_NAMES ((["push", "load", "store", "sign", "jump", "skip", "lot", "end", "ask", "show", "pay", "take"] : List Str).map V.str)
  d_ROUND_NAMES : ∃ o, K.lookup T_ROUND_NAMES = some o ∧ o.cls = .type "tuple" ∧ o.dict = none
  v_BRAIN_NAMES : ∃ u, mg "BRAIN_NAMES" = some u ∧ RelV (.ref T_BRAIN_NAMES) u
  q_BRAIN_NAMES : ∀ H : Hp, SqT K H T_BRAIN_NAMES ((["push", "load", "store", "sign", "jump", "skip", "lot", "end", "view", "long", "unit", "back"] : List Str).map V.str)
  d_BRAIN_NAMES : ∃ o, K.lookup T_BRAIN_NAMES = some o ∧ o.cls = .type "tuple" ∧ o.dict = none
  v_EFFECTS : ∃ u, mg "EFFECTS" = some u ∧ RelV (.ref T_EFFECTS) u
  m_GameError : mg "GameError" = some (.ref C_GameError)
  m_BadCode : mg "BadCode" = some (.ref C_BadCode)
  e_BadCode : ExIs.ErrC K C_BadCode
  f_BadCode : XfC K C_BadCode
  no_BadCode : PySem.W.findIn K (.ref C_BadCode) "at" = some none
  x_BadCode : PySem.W.exmOne K (.ref C_BadCode) (.ref C_BadCode) = some true
  kit1 : PySem.W.kitOne K (.ref C_BadCode) (.ref C_GameError) = some true
  ok : True
/-! defs that raise: their promise, their calls (in a def that raises, in a try) -/
structure CalX (P : Program) (w : World) (K : PySem.W.Frag) (mg : Str → Option Value) (base : Heap) (k : Nat) (x : Str) (sp : Sp) (dvs : List V) : Prop where
  ex : ∃ (f : Addr) (fd : FuncData) (ps : List Str) (ds : List Value), FnOk P w K mg base (L2.CX P w) k f fd ps sp ∧ mg x = some (.ref f) ∧ PySem.W.keepIn K (.ref f) = true ∧ Binds K fd ps ds ∧ Vals dvs ds
/-- .. called with keywords -/
structure CalXK (P : Program) (w : World) (K : PySem.W.Frag) (mg : Str → Option Value) (base : Heap) (k : Nat) (x : Str) (sp : Sp) (n : Nat) (ks : List Str) (gV : List V → List V → List V) : Prop where
  ex : ∃ (f : Addr) (fd : FuncData) (ps : List Str) (g : List Value → List Value → List Value), FnOk P w K mg base (L2.CX P w) k f fd ps sp ∧ mg x = some (.ref f) ∧ PySem.W.keepIn K (.ref f) = true ∧ KBn K fd ps n ks g gV
structure MetX (P : Program) (w : World) (K : PySem.W.Frag) (mg : Str → Option Value) (base : Heap) (k : Nat) (C : Addr) (m : Str) (sp : Sp) (dvs : List V) : Prop where
  ex : ∃ (f : Addr) (fd : FuncData) (ps : List Str) (ds : List Value), Cls K C ∧ Meth K C m f ∧ FnOk P w K mg base (L2.CX P w) k f fd ps sp ∧ Binds K fd ps ds ∧ Vals dvs ds
section
variable {P : Program} {w : World} {K : PySem.W.Frag} {mg : Str → Option Value} {base : Heap}
theorem fnx {x qual : Str} {st : Stmt} {f : Addr} {fd : FuncData} {N ps : List Str} {k : Nat} {sp : Sp} (F : C8.Fun K x qual st f fd) (S : FnScope N ps (fnScope st)) (len : ∀ vs H Q E, sp vs H Q E → vs.length = ps.length)
    (hbody : ∀ (cdv : Value) (A : Around) (outer : List Env) (s : Shared) (H : Hp) (vs : List V) (Q : VK) (E : XK), Room k (A.deeper (PyProof.Rows.envOfC qual (fnScope st) s.heap.objs.size f cdv)) → sp vs H Q E →
      ∃ t, PSs (cxOf (L2.CX P w) P w K mg base N qual (fnScope st) f cdv A outer s H E) (fnBody st) t ∧ t { nx := fun _ H' => Q .non H', rt := Q } (start N vs) H) : FnOk P w K mg base (L2.CX P w) (k + 1) f fd ps sp := by
  obtain ⟨oc, od, dV, kV, doc, pm, an, cdv, ct, osl, rfl, lk, hcd⟩ := F.ex
  exact fn_of lk hcd S len fun A outer s H vs Q E hr hsp => hbody cdv A outer s H vs Q E hr hsp
theorem CalX.of {x : Str} {st : Stmt} {f : Addr} {fd : FuncData} {ps : List Str} {ds : List Value} {dvs : List V} {k : Nat} {sp : Sp} (F : C8.Def K mg x st f fd) (ok : FnOk P w K mg base (L2.CX P w) k f fd ps sp) (b : Binds K fd ps ds) (d : Vals dvs ds) : CalX P w K mg base k x sp dvs :=
  ⟨f, fd, ps, ds, ok, F.mgf, F.kp, b, d⟩
end
section
variable {X : Cx} {k j n : Nat} {C : Addr} {x m : Str} {sp : Sp} {dvs : List V} {p pos apos : Pos} {e o : Expr} {es : List Expr} {ta : TE} {t tk : TA} {E : XK} {W : WX} {ks : List Str} {gV : List V → List V → List V} {kws : List Keyword}
/-- called in a def that lets out what E says -/
theorem pe_cX (c : CalX X.prog X.w X.K X.mg X.base k x sp dvs) (hr : Room j X.A) (hk : k ≤ j) (hg : Gl X x) (hx : Passes (L2.CX X.prog X.w) X E) (ha : PA X (e :: es) t)
    (hdb : (x == ("__debug__" : Str)) = false := by decide) (he : starEach (e :: es) X.env = (false, eval e X.env) :: starEach es X.env := by rfl) (hpl : (backTo pos (starEach es X.env)).any (·.1) = false := by rfl) :
    PE X (.Call (.Name x p) (e :: es) [] pos) (tCall sp dvs E t) := by
  obtain ⟨f, fd, ps, ds, F, hm, kp, b, d⟩ := c.ex
  exact pe_call F (hr.mono hk) hg hm kp b d hx ha hdb he hpl
/-- called in a try -/
theorem pe_cS (c : CalX X.prog X.w X.K X.mg X.base k x sp dvs) (hr : Room j X.A) (hk : k ≤ j) (hg : Gl X x) (tk : Takes X W) (ha : PA X (e :: es) t)
    (hdb : (x == ("__debug__" : Str)) = false := by decide) (he : starEach (e :: es) X.env = (false, eval e X.env) :: starEach es X.env := by rfl) (hpl : (backTo pos (starEach es X.env)).any (·.1) = false := by rfl) :
    PE X (.Call (.Name x p) (e :: es) [] pos) (tCallSD sp dvs (WE W) t) := by
  obtain ⟨f, fd, ps, ds, F, hm, kp, b, d⟩ := c.ex
  exact pe_callSD F (hr.mono hk) hg hm kp b d (fun σ => passAt tk σ) ha hdb he hpl
def tCallSK (sp : Sp) (n : Nat) (ks : List Str) (gV : List V → List V → List V) (E : L2.St → XK) (t tk : TA) : TE := fun σ H Q => t σ H fun vs H1 => tk σ H1 fun zs H2 => vs.length = n ∧ zs.length = ks.length ∧ sp (gV vs zs) H2 Q (E σ)
/-- called in a try, with keywords -/
theorem pe_cKS (c : CalXK X.prog X.w X.K X.mg X.base k x sp n ks gV) (hr : Room j X.A) (hk : k ≤ j) (hg : Gl X x) (tw : Takes X W) (ha : PA X (e :: es) t) (hkw : PK X kws tk)
    (hall : (backToKw pos (keywordEach kws X.env)).all (·.1.isSome) = true := by rfl) (hks : (backToKw pos (keywordEach kws X.env)).filterMap (·.1) = ks := by rfl)
    (hdb : (x == ("__debug__" : Str)) = false := by decide) (he : starEach (e :: es) X.env = (false, eval e X.env) :: starEach es X.env := by rfl)
    (hpl : ((backTo pos (starEach (e :: es) X.env)).any (·.1) || (backToKw pos (keywordEach kws X.env)).any (·.1.isNone)) = false := by rfl) :
    PE X (.Call (.Name x p) (e :: es) kws pos) (tCallSK sp n ks gV (WE W) t tk) := by
  obtain ⟨f, fd, ps, g, F, hm, kp, b⟩ := c.ex
  refine ⟨fun pins s σ H Q I h => wpAny_Call_Name_kw (ld_glob I hg hm (PySem.W.callWith_KW (h₀ := X.base) I.ok.mod.kin kp hall (thn (ha.run pos pins s σ H _ I h) fun us s1 ⟨vs, H1, I1, r, q⟩ => ?_) hpl he) hdb)⟩
  refine thn (hkw.run pos pins s1 σ H1 _ I1 q) fun ws s2 ⟨zs, H2, I2, rz, l1, l2, q2⟩ => ⟨I2.kIn, ?_⟩
  rw [hks]
  have r2 := b.rel r rz
  refine wpAny_call (codeAny_mono (F.run X.A X.stack s2 H2 ⟨us, ks.zip ws⟩ (g us ws) (gV vs zs) Q (WE W σ) (hr.mono hk) I2.env0 (b.to s2 us ws I2.kIn (r.length.symm.trans l1) (rz.length.symm.trans l2)) r2 q2) fun r s' hq => ?_)
  cases r with
  | error er => exact passAt tw σ pins H2 s2 er s' I2 hq
  | ok fl =>
    cases fl with
    | ret u => exact I2.after hq
    | next => exact hq.elim
    | brk => exact hq.elim
    | cont => exact hq.elim
end

/-! ratios: an own object of two ints -/
theorem kND : ¬ (("num" : Str) = "den") := by decide +kernel
theorem kDN : ¬ (("den" : Str) = "num") := by decide +kernel
def rf (n d : Int) : List (Str × V) := putF "den" (.int d) (putF "num" (.int n) [])
theorem rf_num (n d : Int) : (rf n d).lookup ("num" : Str) = some (.int n) := by
  unfold rf
  rw [lookup_putF, if_neg kND, lookup_putF, if_pos rfl]
theorem rf_den (n d : Int) : (rf n d).lookup ("den" : Str) = some (.int d) := by
  unfold rf
  rw [lookup_putF, if_pos rfl]
theorem rf_no (n d : Int) {m : Str} (h1 : ¬ m = "num") (h2 : ¬ m = "den") : (rf n d).lookup m = none := by
  unfold rf
  rw [lookup_putF, if_neg h2, lookup_putF, if_neg h1]; rfl
/-- a Ratio stands at p -/
def RatAt (C : Addr) (H : Hp) (p : Addr) (n d : Int) : Prop := ∃ dx, H p = some (.ins C dx (rf n d))
theorem RatAt.keep {C p : Addr} {H H' : Hp} {W : List Addr} {n d : Int} (h : RatAt C H p n d) (k : Keep W H H') (w : p ∉ W) : RatAt C H' p n d := by
  obtain ⟨dx, h⟩ := h
  exact ⟨dx, k _ _ h w⟩
theorem RatAt.keep0 {C p : Addr} {H H' : Hp} {n d : Int} (h : RatAt C H p n d) (k : Keep [] H H') : RatAt C H' p n d := h.keep k (by simp)
/-- the sign of the divisor stands with the common part -/
def sg (n d : Int) : Int := if d < 0 then -((Nat.gcd n.natAbs d.natAbs : Nat) : Int) else ((Nat.gcd n.natAbs d.natAbs : Nat) : Int)
def redN (n d : Int) : Int := n.fdiv (sg n d)
def redD (n d : Int) : Int := d.fdiv (sg n d)
theorem gcd_pos_of {n d : Int} (h : d ≠ 0) : 0 < Nat.gcd n.natAbs d.natAbs := Nat.gcd_pos_of_pos_right _ (by omega)
theorem sg_ne {n d : Int} (h : d ≠ 0) : sg n d ≠ 0 := by
  have := gcd_pos_of (n := n) h
  unfold sg
  split <;> omega
theorem sg_dvd_n (n d : Int) : sg n d ∣ n := by
  have h : ((Nat.gcd n.natAbs d.natAbs : Nat) : Int) ∣ n := Int.ofNat_dvd_left.mpr (Nat.gcd_dvd_left _ _)
  unfold sg
  split
  · exact Int.neg_dvd.mpr h
  · exact h
theorem sg_dvd_d (n d : Int) : sg n d ∣ d := by
  have h : ((Nat.gcd n.natAbs d.natAbs : Nat) : Int) ∣ d := Int.ofNat_dvd_left.mpr (Nat.gcd_dvd_right _ _)
  unfold sg
  split
  · exact Int.neg_dvd.mpr h
  · exact h
theorem fdiv_of_mul {m c s : Int} (hs : s ≠ 0) (h : m = s * c) : m.fdiv s = c := by
  subst h; exact Int.mul_fdiv_cancel_left c hs
theorem red_n {n d : Int} (h : d ≠ 0) : redN n d * sg n d = n := by
  obtain ⟨c, hc⟩ := sg_dvd_n n d
  unfold redN
  rw [fdiv_of_mul (sg_ne h) hc, Int.mul_comm]; exact hc.symm
theorem red_d {n d : Int} (h : d ≠ 0) : redD n d * sg n d = d := by
  obtain ⟨c, hc⟩ := sg_dvd_d n d
  unfold redD
  rw [fdiv_of_mul (sg_ne h) hc, Int.mul_comm]; exact hc.symm
theorem redD_pos {n d : Int} (h : d ≠ 0) : 0 < redD n d := by
  have e := red_d (n := n) h
  have g := gcd_pos_of (n := n) h
  have hne : redD n d ≠ 0 := fun z => by rw [z, Int.zero_mul] at e; exact h e.symm
  rcases Int.lt_or_gt_of_ne hne with hl | hl
  · exfalso
    unfold sg at e
    split at e
    · rename_i hd
      have : 0 ≤ redD n d * -((Nat.gcd n.natAbs d.natAbs : Nat) : Int) := Int.mul_nonneg_of_nonpos_of_nonpos (by omega) (by omega)
      omega
    · rename_i hd
      have : redD n d * ((Nat.gcd n.natAbs d.natAbs : Nat) : Int) < 0 := Int.mul_neg_of_neg_of_pos hl (by omega)
      omega
  · exact hl
/-- the same ratio -/
theorem red_cross {n d : Int} (h : d ≠ 0) : redN n d * d = n * redD n d := by
  have e1 := red_n (n := n) h
  have e2 := red_d (n := n) h
  calc redN n d * d = redN n d * (redD n d * sg n d) := by rw [e2]
    _ = redN n d * sg n d * redD n d := by rw [Int.mul_comm (redD n d), Int.mul_assoc]
    _ = n * redD n d := by rw [e1]
theorem red_gcd {n d : Int} (h : d ≠ 0) : Nat.gcd (redN n d).natAbs (redD n d).natAbs = 1 := by
  have e1 : (redN n d).natAbs * (sg n d).natAbs = n.natAbs := by rw [← Int.natAbs_mul, red_n h]
  have e2 : (redD n d).natAbs * (sg n d).natAbs = d.natAbs := by rw [← Int.natAbs_mul, red_d h]
  have e3 : (sg n d).natAbs = Nat.gcd n.natAbs d.natAbs := by unfold sg; split <;> omega
  have e4 := Nat.gcd_mul_right (redN n d).natAbs (sg n d).natAbs (redD n d).natAbs
  rw [e1, e2, e3] at e4
  have g := gcd_pos_of (n := n) h
  exact Nat.eq_of_mul_eq_mul_right g (by omega)
theorem red_abs_n {n d : Int} (h : d ≠ 0) : (redN n d).natAbs ≤ n.natAbs := by
  have e1 : (redN n d).natAbs * (sg n d).natAbs = n.natAbs := by rw [← Int.natAbs_mul, red_n h]
  have : 0 < (sg n d).natAbs := by have := sg_ne (n := n) h; omega
  rw [← e1]
  exact Nat.le_mul_of_pos_right _ this
theorem red_dvd {n d : Int} (h : d ≠ 0) : redD n d ∣ d := ⟨sg n d, (red_d h).symm⟩
/-- what the rules ask of numbers below a power of two -/
theorem log2_lt9 {i : Int} {b : Nat} (h : i.natAbs < 2 ^ b) (h0 : 0 < b) : i.natAbs.log2 < b := PySem.Flt.log2_lt_of h0 h
section
variable {X : Cx}
def CDivG (_ j : Int) : Prop := j ≠ 0 ∧ j.natAbs.log2 < 9000
theorem op_fdivG : OpR X (binaryOp .FloorDiv) (rI CDivG fun i j => .int (i.fdiv j)) := opI fun i j _ _ _ _ _ hc q =>
  PyProof.Rows.floordiv_int hc.1 q (.inl (PyProof.noPylong_of_log2 hc.2))
def CPowB (i j : Int) : Prop := 2 ≤ i.natAbs ∧ 1 ≤ j ∧ (Builtin.Int.intBits i : Int) * j ≤ 100000000
theorem op_mulO : OpR X (binaryOp .Mult) (rI IntMulOk fun i j => .int (i * j)) := opI fun _ _ _ _ _ _ _ hc q => PyProof.Rows.mul_int q hc
end
def sp_rat (C : Addr) : Sp := fun vs H Q _ => ∃ (x dx : Addr) (n d : Int), vs = [.ref x, .int n, .int d] ∧ d ≠ 0 ∧ d.natAbs < 2 ^ 8000 ∧ H x = some (.ins C dx []) ∧
  ∀ H', Keep [x] H H' → H' x = some (.ins C dx (rf (redN n d) (redD n d))) → Q .non H'

/-! the law's draws -/
def Pool (H : Hp) (p q : Addr) (ns : List Int) (bud : Int) : Prop := ∃ (i1 i2 i3 i4 : Int), H p = some (.lst [.ref q, .int i1, .int i2, .int i3, .int i4, .int bud]) ∧ H q = some (.lst (ns.map V.int)) ∧ q ≠ p ∧ 0 ≤ i1
theorem Pool.some {H : Hp} {p q : Addr} {ns : List Int} {bud : Int} (h : Pool H p q ns bud) : ∃ o, H p = Option.some o := by
  obtain ⟨i1, i2, i3, i4, h, _⟩ := h
  exact ⟨_, h⟩
theorem Pool.some2 {H : Hp} {p q : Addr} {ns : List Int} {bud : Int} (h : Pool H p q ns bud) : ∃ o, H q = Option.some o := by
  obtain ⟨i1, i2, i3, i4, _, h, _⟩ := h
  exact ⟨_, h⟩
theorem Pool.keep {H H' : Hp} {p q : Addr} {ns : List Int} {bud : Int} {W : List Addr} (h : Pool H p q ns bud) (k : Keep W H H') (w : ∀ b, b ∈ W → H b = none) : Pool H' p q ns bud := by
  obtain ⟨i1, i2, i3, i4, h1, h2, h3, h4⟩ := h
  have no : ∀ b o, H b = Option.some o → b ∉ W := fun b o e z => by rw [w b z] at e; cases e
  exact ⟨i1, i2, i3, i4, k _ _ h1 (no _ _ h1), k _ _ h2 (no _ _ h2), h3, h4⟩
theorem Pool.keep0 {H H' : Hp} {p q : Addr} {ns : List Int} {bud : Int} (h : Pool H p q ns bud) (k : Keep [] H H') : Pool H' p q ns bud := h.keep k fun _ z => by cases z
theorem Pool.new {H : Hp} {p q a : Addr} {ns : List Int} {bud : Int} {o : HO} (h : Pool H p q ns bud) (n : H a = none) : Pool (upd H a o) p q ns bud := h.keep0 (Keep.new n)
theorem Pool.own {H : Hp} {p q a : Addr} {ns : List Int} {bud : Int} {o : HO} (h : Pool H p q ns bud) (h1 : a ≠ p) (h2 : a ≠ q) : Pool (upd H a o) p q ns bud := by
  obtain ⟨i1, i2, i3, i4, g1, g2, g3, g4⟩ := h
  exact ⟨i1, i2, i3, i4, by rw [upd_ne h1.symm]; exact g1, by rw [upd_ne h2.symm]; exact g2, g3, g4⟩
theorem Pool.free {H H' : Hp} {p q l : Addr} {ns : List Int} {bud : Int} (P : Pool H' p q ns bud) (e : Keep [p] H H') (h : H' l = none) : H l = none := by
  obtain ⟨o, ho⟩ := P.some
  exact e.free1 ho h
theorem Pool.nep {H : Hp} {p q l : Addr} {ns : List Int} {bud : Int} (P : Pool H p q ns bud) (h : H l = none) : l ≠ p := by
  obtain ⟨o, ho⟩ := P.some
  exact (ne_of_none ho h).symm
theorem Pool.neq {H : Hp} {p q l : Addr} {ns : List Int} {bud : Int} (P : Pool H p q ns bud) (h : H l = none) : l ≠ q := by
  obtain ⟨o, ho⟩ := P.some2
  exact (ne_of_none ho h).symm
def sp_law_pool (K : PySem.W.Frag) : Sp := fun vs H Q _ => ∃ (a : Addr) (ns : List Int) (bud : Int), vs = [.ref a, .int bud] ∧ SqL K H a (ns.map V.int) ∧
  ∀ p q H', H p = none → Pool H' p q ns bud → Keep [] H H' → Q (.ref p) H'
def sp_law_draw : Sp := fun vs H Q _ => ∃ (p q : Addr) (ns : List Int) (bud size : Int), vs = [.ref p, .int size] ∧ 0 < size ∧ size < 2 ^ 60 ∧ Pool H p q ns bud ∧
  ∀ r H', 0 ≤ r → r < size → Pool H' p q ns bud → Keep [p] H H' → Q (.int r) H'
def sp_law_spend : Sp := fun vs H Q _ => ∃ p q ns bud, vs = [.ref p] ∧ Pool H p q ns bud ∧ ∀ H', Pool H' p q ns (bud - 1) → Keep [p] H H' → Q (.bl (decide (bud - 1 ≥ 0))) H'
section
variable {P : Program} {w : World} {K : PySem.W.Frag} {mg : Str → Option Value} {base : Heap} {C_Tape : Addr} {C_Thinker : Addr} {C_Brain : Addr} {C_Mind : Addr} {C_Frame : Addr} {C_Thinking : Addr} {C_Checker : Addr} {C_GameError : Addr} {C_BadCode : Addr} {f_BadCode___init : Addr} {T_EVENTS : Addr} {T_SIGNS : Addr} {T_ROUND_NAMES : Addr} {T_BRAIN_NAMES : Addr} {T_EFFECTS : Addr}
theorem ok_law_pool {f : Addr} {fd : FuncData} (D : C8.Def K mg "_law_pool" s_law_pool f fd) (b : Binds K fd ["script", "budget"] []) (T : Txt K mg C_Tape C_Thinker C_Brain C_Mind C_Frame C_Thinking C_Checker C_GameError C_BadCode T_EVENTS T_SIGNS T_ROUND_NAMES T_BRAIN_NAMES T_EFFECTS) : C8.Cal P w K mg base 1 "_law_pool" (sp_law_pool K) [] := by
  refine cal0 D b .nil sc_law_pool (fun vs H Q E h => ?_) (fun cdv A outer s H vs Q E hr h => ?_)
  · obtain ⟨a, ns, b, rfl, _⟩ := h
    rfl
  · obtain ⟨a, ns, b, rfl, hS, k⟩ := h
    refine ⟨_, (pss_one (ps_ret (pe_lst (pa_cons (pe_callTy call_list_of (by rfl) T.n_list bo_list (pa_cons (pv 0) pa_nil)) (pa_cons pe_int (pa_cons pe_int (pa_cons pe_int (pa_cons pe_int (pa_cons (pv 1) pa_nil))))))))), ?_⟩
    refine ⟨_, rfl, _, _, rfl, .inl hS, fun l hl => ⟨_, rfl, (by show 6 ≤ sizeLine; decide), fun p hp => ?_⟩⟩
    have hlp : l ≠ p := ne_of_none (H := upd H l (.lst (ns.map V.int))) upd_same hp
    have hp0 : H p = none := (Keep.new (W := []) hl).free hp
    refine k p l _ hp0 ⟨_, _, _, _, upd_same, (by rw [upd_ne hlp]; exact upd_same), hlp, Int.le_refl 0⟩ ((Keep.new hl).then_new hp)
theorem ok_law_draw {f : Addr} {fd : FuncData} (D : C8.Def K mg "_law_draw" s_law_draw f fd) (b : Binds K fd ["pool", "size"] []) (T : Txt K mg C_Tape C_Thinker C_Brain C_Mind C_Frame C_Thinking C_Checker C_GameError C_BadCode T_EVENTS T_SIGNS T_ROUND_NAMES T_BRAIN_NAMES T_EFFECTS) : C8.Cal P w K mg base 1 "_law_draw" sp_law_draw [] := by
  refine cal0 D b .nil sc_law_draw (fun vs H Q E h => ?_) (fun cdv A outer s H vs Q E hr h => ?_)
  · obtain ⟨p, q, ns, bud, size, rfl, _⟩ := h
    rfl
  · obtain ⟨p, q, ns, bud, size, rfl, hs0, hs1, ⟨i1, i2, i3, i4, h1, h2, hqp, hi1⟩, k⟩ := h
    have hbig : (2147483647 : Int) > 0 := by decide
    have cdg : ∀ {i : Int}, CDivG i size := ⟨by omega, Nat.lt_trans (log2_lt9 (b := 60) (by omega) (by decide)) (by decide)⟩
    refine ⟨_, (pss_cut (ps_if (PW.pt (pw_and (pt_cmpR op_le (pe_ix ix_list (pv 0) pe_int (fun _ _ => rfl)) pe_int (nomark _)) (pw_and (pt_cmpR op_le (pe_ix ix_list (pv 0) pe_int (fun _ _ => rfl)) pe_int (nomark _)) (pw_and1 (pt_cmpR op_lt (pe_ix ix_list (pv 0) pe_int (fun _ _ => rfl)) (pe_callB call_len_seq (by rfl) T.n_len bo_len (pa_cons (pe_ix ix_list (pv 0) pe_int (fun _ _ => rfl)) pa_nil)) (nomark _))))))
  (pss_cons (ps_set (i := 2) sc_law_draw.nd rfl (by first | exact Or.inl rfl | exact Or.inr rfl) (pe_ix ix_list (pe_ix ix_list (pv 0) pe_int (fun _ _ => rfl)) (pe_ix ix_list (pv 0) pe_int (fun _ _ => rfl)) (fun _ _ => rfl)))
  (pss_cons (ps_asg (pe_op op_add (pe_ix ix_list (pv 0) pe_int (fun _ _ => rfl)) pe_int) (pg_sub (pv 0) pe_int set_list))
  (pss_cons (ps_asg (pe_op op_mod (pe_callTy call_int1 (by rfl) T.n_int bo_int (pa_cons (pe_op op_add (pe_op op_mul (pe_ix ix_list (pv 0) pe_int (fun _ _ => rfl)) pe_int) (pv 2)) pa_nil)) pe_int) (pg_sub (pv 0) pe_int set_list))
  (pss_cons (ps_asg pe_int (pg_sub (pv 0) pe_int set_list))
  (pss_one (ps_if (pt_cmpR op_ge (pv 2) (pe_op op_pow pe_int pe_int) (nomark _))
    (pss_one (ps_asg (pv 2) (pg_sub (pv 0) pe_int set_list)))
    pss_nil))))))
  pss_nil)
(pss_cons (ps_if (pt_cmpR op_gt (pe_ix ix_list (pv 0) pe_int (fun _ _ => rfl)) pe_int (nomark _))
  (pss_cons (ps_set (i := 3) sc_law_draw.nd rfl (by first | exact Or.inl rfl | exact Or.inr rfl) (pe_op op_mod (pe_callTy call_int1 (by rfl) T.n_int bo_int (pa_cons (pe_ix ix_list (pv 0) pe_int (fun _ _ => rfl)) pa_nil)) (pv 1)))
  (pss_cons (ps_asg (pe_op op_fdivG (pe_ix ix_list (pv 0) pe_int (fun _ _ => rfl)) (pv 1)) (pg_sub (pv 0) pe_int set_list))
  (pss_cons (ps_asg pe_int (pg_sub (pv 0) pe_int set_list))
  (pss_one (ps_ret (pv 3))))))
  pss_nil)
(pss_cons (ps_asg (pe_op op_sub (pe_ix ix_list (pv 0) pe_int (fun _ _ => rfl)) pe_int) (pg_sub (pv 0) pe_int set_list))
(pss_cons (ps_asg (pe_op op_mod (pe_callTy call_int1 (by rfl) T.n_int bo_int (pa_cons (pe_op op_add (pe_op op_mul (pe_ix ix_list (pv 0) pe_int (fun _ _ => rfl)) pe_int) pe_int) pa_nil)) pe_int) (pg_sub (pv 0) pe_int set_list))
(pss_one (ps_ret (pe_op op_mod (pe_op op_mod (pe_callTy call_int1 (by rfl) T.n_int bo_int (pa_cons (pe_op op_add (pe_op op_mul (pe_ix ix_list (pv 0) pe_int (fun _ _ => rfl)) pe_int) pe_int) pa_nil)) pe_int) (pv 1)))))))), ?_⟩
    -- the state between the statements
    refine ⟨fun σ H' => ∃ (c : Option V) (j1 j2 j3 j4 : Int), σ = [some (.ref p), some (.int size), c, none] ∧ H' p = some (.lst [.ref q, .int j1, .int j2, .int j3, .int j4, .int bud]) ∧ Keep [p] H H' ∧ 0 ≤ j1, ?_, ?_⟩
    · have stay : ∃ (c : Option V) (j1 j2 j3 j4 : Int), ([some (.ref p), some (.int size), none, none] : List (Option V)) = [some (.ref p), some (.int size), c, none] ∧ H p = some (.lst [.ref q, .int j1, .int j2, .int j3, .int j4, .int bud]) ∧ Keep [p] H H ∧ 0 ≤ j1 :=
        ⟨_, i1, i2, i3, i4, rfl, h1, Keep.refl _ _, hi1⟩
      refine ⟨_, rfl, _, _, _, _, rfl, rfl, SqL.of h1, rfl, _, _, rfl, rfl, _, rfl, iteD (fun _ => ?_) (fun _ => stay)⟩
      refine ⟨_, rfl, _, _, _, _, rfl, rfl, SqL.of h1, rfl, _, _, rfl, rfl, _, rfl, iteD (fun _ => ?_) (fun _ => stay)⟩
      refine ⟨_, rfl, _, _, _, _, rfl, rfl, SqL.of h1, rfl, _, rfl, _, _, _, _, rfl, rfl, SqL.of h1, rfl, _, _, rfl, .inl (SqL.of h2), _, _, rfl, rfl, _, rfl, iteD (fun hlt => ?_) (fun _ => stay)⟩
      obtain ⟨j, rfl⟩ : ∃ j : Nat, i1 = (j : Int) := ⟨i1.toNat, by omega⟩
      rw [List.length_map] at hlt
      have hj : j < ns.length := by omega
      have hc : (ns.map V.int)[j]? = some (.int ns[j]) := by rw [List.getElem?_map, List.getElem?_eq_getElem hj]; rfl
      refine ⟨_, rfl, _, _, _, _, rfl, rfl, SqL.of h1, rfl, _, rfl, _, _, _, _, rfl, rfl, SqL.of h1, rfl, _, _, _, _, rfl, rfl, SqL.of h2, atI_nat hc, ?_⟩
      refine ⟨_, rfl, _, _, _, _, rfl, rfl, SqL.of h1, rfl, _, _, rfl, rfl, _, rfl, _, _, _, _, rfl, rfl, h1, rfl, ?_⟩
      refine ⟨_, rfl, _, _, _, _, rfl, rfl, SqL.of upd_same, rfl, _, _, rfl, rfl, .inr ⟨by decide, by decide⟩, _, rfl, _, _, rfl, rfl, .inl ⟨_, rfl, _, _, rfl, rfl, hbig, _, rfl, _, _, _, _, rfl, rfl, upd_same, rfl, ?_⟩⟩
      refine ⟨_, rfl, _, _, _, _, rfl, rfl, upd_same, rfl, ?_⟩
      have kk : Keep [p] H (upd (upd (upd H p (.lst (List.set [.ref q, .int (j : Int), .int i2, .int i3, .int i4, .int bud] 1 (.int ((j : Int) + 1))))) p
        (.lst (List.set (List.set [.ref q, .int (j : Int), .int i2, .int i3, .int i4, .int bud] 1 (.int ((j : Int) + 1))) 3 (.int ((i3 * 31 + ns[j]) % 2147483647))))) p
        (.lst (List.set (List.set (List.set [.ref q, .int (j : Int), .int i2, .int i3, .int i4, .int bud] 1 (.int ((j : Int) + 1))) 3 (.int ((i3 * 31 + ns[j]) % 2147483647))) 4 (.int 7)))) :=
        ((Keep.at_ (List.mem_singleton.mpr rfl)).then_at (List.mem_singleton.mpr rfl)).then_at (List.mem_singleton.mpr rfl)
      refine ⟨_, rfl, _, _, rfl, rfl, ⟨by decide, by decide, by decide⟩, _, _, rfl, rfl, _, rfl, iteD (fun _ => ?_) (fun _ => ?_)⟩
      · refine ⟨_, rfl, _, rfl, _, _, _, _, rfl, rfl, upd_same, rfl, ?_⟩
        exact ⟨_, _, _, _, _, rfl, upd_same, kk.then_at (List.mem_singleton.mpr rfl), by omega⟩
      · exact ⟨_, _, _, _, _, rfl, upd_same, kk, by omega⟩
    · rintro σ' H' ⟨c, j1, j2, j3, j4, rfl, g1, kk, hj1⟩
      have g2 : H' q = some (.lst (ns.map V.int)) := kk q _ h2 (by simpa using hqp)
      refine ⟨_, rfl, _, _, _, _, rfl, rfl, SqL.of g1, rfl, _, _, rfl, rfl, _, rfl, iteD (fun _ => ?_) (fun _ => ?_)⟩
      · refine ⟨_, rfl, _, _, _, _, rfl, rfl, SqL.of g1, rfl, .inl ⟨_, rfl, _, rfl, _, _, rfl, rfl, hs0, ?_⟩⟩
        refine ⟨_, rfl, _, _, _, _, rfl, rfl, SqL.of g1, rfl, _, rfl, _, _, rfl, rfl, cdg, _, rfl, _, _, _, _, rfl, rfl, g1, rfl, ?_⟩
        refine ⟨_, rfl, _, _, _, _, rfl, rfl, upd_same, rfl, ?_⟩
        refine ⟨_, rfl, ?_⟩
        refine k _ _ (Int.emod_nonneg _ (by omega)) (Int.emod_lt_of_pos _ hs0) ⟨_, _, _, _, upd_same, ?_, hqp, hj1⟩ ((kk.then_at (List.mem_singleton.mpr rfl)).then_at (List.mem_singleton.mpr rfl))
        rw [upd_ne hqp, upd_ne hqp]; exact g2
      · refine ⟨_, rfl, _, _, _, _, rfl, rfl, SqL.of g1, rfl, _, _, rfl, rfl, _, rfl, _, _, _, _, rfl, rfl, g1, rfl, ?_⟩
        refine ⟨_, rfl, _, _, _, _, rfl, rfl, SqL.of upd_same, rfl, _, _, rfl, rfl, .inr ⟨by decide, by decide⟩, _, _, rfl, rfl, .inl ⟨_, rfl, _, _, rfl, rfl, hbig, _, rfl, _, _, _, _, rfl, rfl, upd_same, rfl, ?_⟩⟩
        refine ⟨_, rfl, _, _, _, _, rfl, rfl, SqL.of upd_same, rfl, _, _, rfl, rfl, .inr ⟨by decide, by decide⟩, _, _, rfl, rfl, .inl ⟨_, rfl, _, _, rfl, rfl, hbig, _, rfl, _, _, rfl, rfl, hs0, ?_⟩⟩
        refine k _ _ (Int.emod_nonneg _ (by omega)) (Int.emod_lt_of_pos _ hs0) ⟨_, _, _, _, upd_same, ?_, hqp, hj1⟩ ((kk.then_at (List.mem_singleton.mpr rfl)).then_at (List.mem_singleton.mpr rfl))
        rw [upd_ne hqp, upd_ne hqp]; exact g2
theorem ok_law_spend {f : Addr} {fd : FuncData} (D : C8.Def K mg "_law_spend" s_law_spend f fd) (b : Binds K fd ["pool"] []) (T : Txt K mg C_Tape C_Thinker C_Brain C_Mind C_Frame C_Thinking C_Checker C_GameError C_BadCode T_EVENTS T_SIGNS T_ROUND_NAMES T_BRAIN_NAMES T_EFFECTS) : C8.Cal P w K mg base 1 "_law_spend" sp_law_spend [] := by
  refine cal0 D b .nil sc_law_spend (fun vs H Q E h => ?_) (fun cdv A outer s H vs Q E hr h => ?_)
  · obtain ⟨p, q, ns, bud, rfl, _⟩ := h
    rfl
  · obtain ⟨p, q, ns, bud, rfl, ⟨i1, i2, i3, i4, h1, h2, hqp, hi1⟩, k⟩ := h
    refine ⟨_, (pss_cons (ps_asg (pe_op op_sub (pe_ix ix_list (pv 0) pe_int (fun _ _ => rfl)) pe_int) (pg_sub (pv 0) pe_int set_list))
(pss_one (ps_ret (pe_cmpR op_ge (pe_ix ix_list (pv 0) pe_int (fun _ _ => rfl)) pe_int (nomark _))))), ?_⟩
    refine ⟨_, rfl, _, _, _, _, rfl, rfl, SqL.of h1, rfl, _, _, rfl, rfl, _, rfl, _, _, _, _, rfl, rfl, h1, rfl, ?_⟩
    refine ⟨_, rfl, _, _, _, _, rfl, rfl, SqL.of upd_same, rfl, _, _, rfl, rfl, ?_⟩
    exact k _ ⟨_, _, _, _, upd_same, by rw [upd_ne hqp]; exact h2, hqp, hi1⟩ (Keep.at_ (List.mem_singleton.mpr rfl))
end

/-- tuples stand -/
def TK (H H' : Hp) : Prop := ∀ b xs, H b = some (.tup xs) → H' b = some (.tup xs)
theorem TK.refl (H : Hp) : TK H H := fun _ _ h => h
theorem TK.trans {H H1 H2 : Hp} (a : TK H H1) (b : TK H1 H2) : TK H H2 := fun c xs h => b c xs (a c xs h)
theorem TK.new {H : Hp} {p : Addr} {o : HO} (h : H p = none) : TK H (upd H p o) := fun b xs q => by rw [upd_ne (ne_of_none q h)]; exact q
theorem TK.lst {H : Hp} {p : Addr} {o : HO} {ys : List V} (h : H p = some (.lst ys)) : TK H (upd H p o) := fun b xs q => by
  rw [upd_ne (ne_of q h (by intro z; cases z))]; exact q
theorem Keep.tk {H H' : Hp} (k : Keep [] H H') : TK H H' := fun b xs q => k b _ q (by simp)
theorem Keep.tk1 {H H' : Hp} {p : Addr} {ys : List V} (k : Keep [p] H H') (h : H p = some (.lst ys)) : TK H H' := fun b xs q => k b _ q (by
  have := ne_of q h (by intro z; cases z)
  simpa using this)

/-! tuples that stand, in the walk's heap or in the module's -/
def KT (K : PySem.W.Frag) (a : Addr) (xs : List V) : Prop := ∃ (o : Obj) (its : Array Value) (n : Nat), K.lookup a = some o ∧ o.cls = .type "tuple" ∧ o.data = .seq its n ∧ its.size ≤ sizeLine ∧ Vals xs its.toList
def At (K : PySem.W.Frag) (H : Hp) (a : Addr) (xs : List V) : Prop := H a = some (.tup xs) ∨ KT K a xs
theorem At.sq {K : PySem.W.Frag} {H : Hp} {a : Addr} {xs : List V} (h : At K H a xs) : SqT K H a xs := by
  rcases h with h | h
  · exact SqT.of h
  · exact .inr h
theorem At.ty {K : PySem.W.Frag} {H : Hp} {a : Addr} {xs : List V} (h : At K H a xs) : TyX K H (.ref a) (.type "tuple") := by
  rcases h with h | ⟨o, its, n, h, c, _⟩
  · exact .base (.tup h)
  · exact .kTuple h c
theorem At.tk {K : PySem.W.Frag} {H H' : Hp} {a : Addr} {xs : List V} (k : TK H H') (h : At K H a xs) : At K H' a xs := by
  rcases h with h | h
  · exact .inl (k _ _ h)
  · exact .inr h
/-! the law's look whether two values are the same: only the answer True is told -/
def SameV (K : PySem.W.Frag) : Nat → Hp → V → V → Prop
  | 0, _, _, _ => False
  | n + 1, H, a, d => (a = d ∧ ((∃ x, d = .str x) ∨ (∃ i, d = .int i) ∨ (∃ b, d = .bl b) ∨ d = .non)) ∨
    ∃ p q xs ys, a = .ref p ∧ d = .ref q ∧ ((H p = some (.lst xs) ∧ H q = some (.lst ys)) ∨ (At K H p xs ∧ At K H q ys)) ∧ xs.length = ys.length ∧ xs.length ≤ sizeLine ∧
      ∀ (i : Nat) x y, xs[i]? = some x → ys[i]? = some y → SameV K n H x y
def sp_law_same (K : PySem.W.Frag) (n : Nat) : Sp := fun vs H Q _ => ∃ a d, vs = [a, d] ∧ SameV K n H a d ∧ Q (.bl true) H
theorem sameV_atom {K : PySem.W.Frag} {n : Nat} {H : Hp} {d : V} (h : (∃ x, d = .str x) ∨ (∃ i, d = .int i) ∨ (∃ b, d = .bl b) ∨ d = .non) : SameV K (n + 1) H d d := .inl ⟨rfl, h⟩
section
variable {K : PySem.W.Frag}
theorem kLT : PySem.W.kitOne K (.type "list") (.type "tuple") = some false := kit_ty (by decide +kernel)
theorem kLL : PySem.W.kitOne K (.type "list") (.type "list") = some true := kit_ty (by decide +kernel)
theorem kTT : PySem.W.kitOne K (.type "tuple") (.type "tuple") = some true := kit_ty (by decide +kernel)
theorem kTL : PySem.W.kitOne K (.type "tuple") (.type "list") = some false := kit_ty (by decide +kernel)
theorem kST : PySem.W.kitOne K (.type "str") (.type "tuple") = some false := kit_ty (by decide +kernel)
theorem kSL : PySem.W.kitOne K (.type "str") (.type "list") = some false := kit_ty (by decide +kernel)
theorem kSB : PySem.W.kitOne K (.type "str") (.type "bool") = some false := kit_ty (by decide +kernel)
theorem kSI : PySem.W.kitOne K (.type "str") (.type "int") = some false := kit_ty (by decide +kernel)
theorem kSS : PySem.W.kitOne K (.type "str") (.type "str") = some true := kit_ty (by decide +kernel)
theorem kIT : PySem.W.kitOne K (.type "int") (.type "tuple") = some false := kit_ty (by decide +kernel)
theorem kIL : PySem.W.kitOne K (.type "int") (.type "list") = some false := kit_ty (by decide +kernel)
theorem kIB : PySem.W.kitOne K (.type "int") (.type "bool") = some false := kit_ty (by decide +kernel)
theorem kII : PySem.W.kitOne K (.type "int") (.type "int") = some true := kit_ty (by decide +kernel)
theorem kBT : PySem.W.kitOne K (.type "bool") (.type "tuple") = some false := kit_ty (by decide +kernel)
theorem kBL : PySem.W.kitOne K (.type "bool") (.type "list") = some false := kit_ty (by decide +kernel)
theorem kBB : PySem.W.kitOne K (.type "bool") (.type "bool") = some true := kit_ty (by decide +kernel)
theorem kBI : PySem.W.kitOne K (.type "bool") (.type "int") = some true := kit_ty (by decide +kernel)
theorem kNT : PySem.W.kitOne K (.type "NoneType") (.type "tuple") = some false := kit_ty (by decide +kernel)
theorem kNL : PySem.W.kitOne K (.type "NoneType") (.type "list") = some false := kit_ty (by decide +kernel)
theorem kNB : PySem.W.kitOne K (.type "NoneType") (.type "bool") = some false := kit_ty (by decide +kernel)
theorem kNI : PySem.W.kitOne K (.type "NoneType") (.type "int") = some false := kit_ty (by decide +kernel)
end

section
variable {P : Program} {w : World} {K : PySem.W.Frag} {mg : Str → Option Value} {base : Heap} {C_Tape : Addr} {C_Thinker : Addr} {C_Brain : Addr} {C_Mind : Addr} {C_Frame : Addr} {C_Thinking : Addr} {C_Checker : Addr} {C_GameError : Addr} {C_BadCode : Addr} {f_BadCode___init : Addr} {T_EVENTS : Addr} {T_SIGNS : Addr} {T_ROUND_NAMES : Addr} {T_BRAIN_NAMES : Addr} {T_EFFECTS : Addr}
theorem ok_law_same0 {f : Addr} {fd : FuncData} (D : C8.Def K mg "_law_same" s_law_same f fd) (b : Binds K fd ["actual", "due"] []) : C8.Cal P w K mg base 0 "_law_same" (sp_law_same K 0) [] :=
  ⟨f, fd, ["actual", "due"], [], ⟨fun vs H Q E h => (by obtain ⟨a, d, rfl, _⟩ := h; rfl), fun A outer s H args us vs Q E _ _ _ _ h => (by obtain ⟨a, d, _, z, _⟩ := h; exact z.elim)⟩, D.mgf, D.kp, b, .nil⟩
theorem ok_law_same {f : Addr} {fd : FuncData} (D : C8.Def K mg "_law_same" s_law_same f fd) (b : Binds K fd ["actual", "due"] []) (T : Txt K mg C_Tape C_Thinker C_Brain C_Mind C_Frame C_Thinking C_Checker C_GameError C_BadCode T_EVENTS T_SIGNS T_ROUND_NAMES T_BRAIN_NAMES T_EFFECTS) {n k : Nat} (c_law_same : C8.Cal P w K mg base k "_law_same" (sp_law_same K n) []) :
    C8.Cal P w K mg base (k + 1) "_law_same" (sp_law_same K (n + 1)) [] := by
  refine cal0 D b .nil sc_law_same (fun vs H Q E h => ?_) (fun cdv A outer s H vs Q E hr h => ?_)
  · obtain ⟨a, d, rfl, _⟩ := h
    rfl
  · obtain ⟨a, d, rfl, hs, k⟩ := h
    have hu := hu_of hr
    refine ⟨_, (pss_cons (ps_if (PW.pt (pw_or (pt_val (pe_callB call_isi (by rfl) T.n_isinstance bo_isinstance (pa_cons (pv 1) (pa_cons (pe_bltn (v := .ty "tuple") (by rfl) T.n_tuple bo_tuple rfl) pa_nil)))) (pw_or1 (pt_val (pe_callB call_isi (by rfl) T.n_isinstance bo_isinstance (pa_cons (pv 1) (pa_cons (pe_bltn (v := .ty "list") (by rfl) T.n_list bo_list rfl) pa_nil)))))))
  (pss_cons (ps_if (PW.pt (pw_or (pt_cmpR op_ne (pe_callB call_isi (by rfl) T.n_isinstance bo_isinstance (pa_cons (pv 1) (pa_cons (pe_bltn (v := .ty "tuple") (by rfl) T.n_tuple bo_tuple rfl) pa_nil))) (pe_callB call_isi (by rfl) T.n_isinstance bo_isinstance (pa_cons (pv 0) (pa_cons (pe_bltn (v := .ty "tuple") (by rfl) T.n_tuple bo_tuple rfl) pa_nil))) (nomark _)) (pw_or1 (pt_cmpR op_ne (pe_callB call_isi (by rfl) T.n_isinstance bo_isinstance (pa_cons (pv 1) (pa_cons (pe_bltn (v := .ty "list") (by rfl) T.n_list bo_list rfl) pa_nil))) (pe_callB call_isi (by rfl) T.n_isinstance bo_isinstance (pa_cons (pv 0) (pa_cons (pe_bltn (v := .ty "list") (by rfl) T.n_list bo_list rfl) pa_nil))) (nomark _)))))
    (pss_one (ps_ret pe_bl))
    pss_nil)
  (pss_cons (ps_if (pt_cmpR op_ne (pe_callB call_len_seq (by rfl) T.n_len bo_len (pa_cons (pv 0) pa_nil)) (pe_callB call_len_seq (by rfl) T.n_len bo_len (pa_cons (pv 1) pa_nil)) (nomark _))
    (pss_one (ps_ret pe_bl))
    pss_nil)
  (pss_cons (ps_for PassesOwn.never rfl (pi_range1 (by rfl) T.n_range (pa_cons (pe_callB call_len_seq (by rfl) T.n_len bo_len (pa_cons (pv 1) pa_nil)) pa_nil)) (pg_name (i := 2) sc_law_same.nd rfl (by first | exact Or.inl rfl | exact Or.inr rfl))
    (pss_one (ps_if (pt_not (pt_val (pe_c c_law_same hr (by first | exact Nat.le_refl _ | decide | omega) rfl (pa_cons (pe_ix ix_seq (pv 0) (pv 2) (fun _ _ => rfl)) (pa_cons (pe_ix ix_seq (pv 1) (pv 2) (fun _ _ => rfl)) pa_nil)))))
      (pss_one (ps_ret pe_bl))
      pss_nil)))
  (pss_one (ps_ret pe_bl)))))
  pss_nil)
(pss_cons (ps_if (PW.pt (pw_or (pt_cmpR op_isN (pv 1) pe_non (nomark _)) (pw_or1 (pt_val (pe_callB call_isi (by rfl) T.n_isinstance bo_isinstance (pa_cons (pv 1) (pa_cons (pe_bltn (v := .ty "bool") (by rfl) T.n_bool bo_bool rfl) pa_nil)))))))
  (pss_one (ps_ret (pe_and (pe_cmpR op_eq (pe_cmpR op_isN (pv 0) pe_non (nomark _)) (pe_cmpR op_isN (pv 1) pe_non (nomark _)) (nomark _)) (pe_and (pe_or (pe_cmpR op_isN (pv 1) pe_non (nomark _)) (pe_one (pe_callB call_isi (by rfl) T.n_isinstance bo_isinstance (pa_cons (pv 0) (pa_cons (pe_bltn (v := .ty "bool") (by rfl) T.n_bool bo_bool rfl) pa_nil))))) (pe_one (pe_cmpR op_eq (pv 0) (pv 1) (nomark _)))))))
  pss_nil)
(pss_cons (ps_if (pt_val (pe_callB call_isi (by rfl) T.n_isinstance bo_isinstance (pa_cons (pv 1) (pa_cons (pe_bltn (v := .ty "int") (by rfl) T.n_int bo_int rfl) pa_nil))))
  (pss_one (ps_ret (pe_and (pe_callB call_isi (by rfl) T.n_isinstance bo_isinstance (pa_cons (pv 0) (pa_cons (pe_bltn (v := .ty "int") (by rfl) T.n_int bo_int rfl) pa_nil))) (pe_and (pe_not (pe_callB call_isi (by rfl) T.n_isinstance bo_isinstance (pa_cons (pv 0) (pa_cons (pe_bltn (v := .ty "bool") (by rfl) T.n_bool bo_bool rfl) pa_nil)))) (pe_one (pe_cmpR op_eq (pv 0) (pv 1) (nomark _)))))))
  pss_nil)
(pss_one (ps_ret (pe_and (pe_callB call_isi (by rfl) T.n_isinstance bo_isinstance (pa_cons (pv 0) (pa_cons (pe_bltn (v := .ty "str") (by rfl) T.n_str bo_str rfl) pa_nil))) (pe_one (pe_cmpR op_eq (pv 0) (pv 1) (nomark _))))))))), ?_⟩
    -- the part behind the lengths, for lists and for tuples
    rcases hs with ⟨rfl, ⟨x, rfl⟩ | ⟨x, rfl⟩ | ⟨x, rfl⟩ | rfl⟩ | ⟨p, q, xs, ys, rfl, rfl, hh, hl, hz, hall⟩
    · refine ⟨_, rfl, _, _, _, _, _, rfl, .ty _, .base (.str x), kST, _, rfl, iteF ⟨_, rfl, _, _, _, _, _, rfl, .ty _, .base (.str x), kSL, _, rfl, iteF ?_⟩⟩
      refine ⟨_, rfl, rfl, _, rfl, iteDF (by simp) ⟨_, rfl, _, _, _, _, _, rfl, .ty _, .base (.str x), kSB, _, rfl, iteF ?_⟩⟩
      refine ⟨_, rfl, _, _, _, _, _, rfl, .ty _, .base (.str x), kSI, _, rfl, iteF ?_⟩
      refine ⟨_, rfl, _, _, _, _, _, rfl, .ty _, .base (.str x), kSS, _, rfl, iteT ⟨_, rfl, _, rfl, rfl, ?_⟩⟩
      rw [decide_eq_true rfl]; exact k
    · refine ⟨_, rfl, _, _, _, _, _, rfl, .ty _, .base (.int x), kIT, _, rfl, iteF ⟨_, rfl, _, _, _, _, _, rfl, .ty _, .base (.int x), kIL, _, rfl, iteF ?_⟩⟩
      refine ⟨_, rfl, rfl, _, rfl, iteDF (by simp) ⟨_, rfl, _, _, _, _, _, rfl, .ty _, .base (.int x), kIB, _, rfl, iteF ?_⟩⟩
      refine ⟨_, rfl, _, _, _, _, _, rfl, .ty _, .base (.int x), kII, _, rfl, iteT ?_⟩
      refine ⟨_, rfl, _, _, _, _, _, rfl, .ty _, .base (.int x), kII, _, rfl, iteT ⟨_, rfl, _, _, _, _, _, rfl, .ty _, .base (.int x), kIB, _, rfl, _, rfl, iteT ⟨_, rfl, _, rfl, rfl, ?_⟩⟩⟩
      rw [decide_eq_true rfl]; exact k
    · refine ⟨_, rfl, _, _, _, _, _, rfl, .ty _, .base (.bl x), kBT, _, rfl, iteF ⟨_, rfl, _, _, _, _, _, rfl, .ty _, .base (.bl x), kBL, _, rfl, iteF ?_⟩⟩
      refine ⟨_, rfl, rfl, _, rfl, iteDF (by simp) ⟨_, rfl, _, _, _, _, _, rfl, .ty _, .base (.bl x), kBB, _, rfl, iteT ?_⟩⟩
      refine ⟨_, rfl, rfl, _, rfl, rfl, rfl, _, rfl, iteDT (by simp) ?_⟩
      refine ⟨_, rfl, rfl, _, rfl, iteDF (by simp) ?_⟩
      refine ⟨_, rfl, _, _, _, _, _, rfl, .ty _, .base (.bl x), kBB, ?_⟩
      refine ⟨_, rfl, iteT ⟨_, rfl, _, rfl, rfl, ?_⟩⟩
      rw [decide_eq_true rfl]; exact k
    · refine ⟨_, rfl, _, _, _, _, _, rfl, .ty _, .base .non, kNT, _, rfl, iteF ⟨_, rfl, _, _, _, _, _, rfl, .ty _, .base .non, kNL, _, rfl, iteF ?_⟩⟩
      refine ⟨_, rfl, rfl, _, rfl, iteDT (by simp) ?_⟩
      refine ⟨_, rfl, rfl, _, rfl, rfl, rfl, _, rfl, iteDT (by simp) ?_⟩
      refine ⟨_, rfl, rfl, _, rfl, iteDT (by simp) ?_⟩
      refine ⟨_, rfl, iteT ⟨_, rfl, _, rfl, rfl, ?_⟩⟩
      rw [decide_eq_true rfl]; exact k
    · obtain ⟨t, b1, b2, ty1, ty2, k1, k2, hb, sq⟩ : ∃ (t : Value) (b1 b2 : Bool), TyX K H (.ref p) t ∧ TyX K H (.ref q) t ∧ PySem.W.kitOne K t (.type "tuple") = some b1 ∧ PySem.W.kitOne K t (.type "list") = some b2 ∧ (b1 = true ∨ b2 = true) ∧
          ((SqL K H p xs ∧ SqL K H q ys) ∨ (SqT K H p xs ∧ SqT K H q ys)) := by
        rcases hh with ⟨h1, h2⟩ | ⟨h1, h2⟩
        · exact ⟨_, _, _, .base (.lst h1), .base (.lst h2), kLT, kLL, .inr rfl, .inl ⟨SqL.of h1, SqL.of h2⟩⟩
        · exact ⟨_, _, _, h1.ty, h2.ty, kTT, kTL, .inl rfl, .inr ⟨h1.sq, h2.sq⟩⟩
      have sqp : SqL K H p xs ∨ SqT K H p xs := sq.elim (fun z => .inl z.1) fun z => .inr z.1
      have sqq : SqL K H q ys ∨ SqT K H q ys := sq.elim (fun z => .inl z.2) fun z => .inr z.2
      have bz : (ys.length : Int) < 2 ^ 62 := by
        have e : sizeLine = 16777216 := sizeLine_eq
        have : ys.length ≤ 16777216 := by omega
        omega
      -- the part behind the first test
      have rest : ∀ {D : Ends} {t1 : TS}, t1 D [some (.ref p), some (.ref q), none] H → t1 D [some (.ref p), some (.ref q), none] H := fun z => z
      refine ⟨_, rfl, _, _, _, _, _, rfl, .ty _, ty2, k1, _, rfl, iteB (fun e1 => ?_) (fun e1 => ⟨_, rfl, _, _, _, _, _, rfl, .ty _, ty2, k2, _, rfl, iteB (fun e2 => ?_) (fun e2 => ?_)⟩)⟩
      rotate_left 2
      · rcases hb with z | z
        · rw [e1] at z; cases z
        · rw [e2] at z; cases z
      all_goals
        refine ⟨_, rfl, _, _, _, _, _, rfl, .ty _, ty2, k1, _, rfl, _, _, _, _, _, rfl, .ty _, ty1, k1, rfl, _, rfl, iteNF (by simp) ?_⟩
        refine ⟨_, rfl, _, _, _, _, _, rfl, .ty _, ty2, k2, _, rfl, _, _, _, _, _, rfl, .ty _, ty1, k2, rfl, _, rfl, iteNF (by simp) ?_⟩
        refine ⟨_, rfl, _, _, rfl, sqp, _, rfl, _, _, rfl, sqq, rfl, _, rfl, iteNF (by rw [hl]) ?_⟩
        refine ⟨_, rfl, _, _, rfl, sqq, _, rfl, by omega, bz, for_range (lo := 0) (n := ys.length) (fun i σ H' => ∃ kv, σ = [some (.ref p), some (.ref q), kv] ∧ H' = H) ⟨none, rfl, rfl⟩ ?_ ?_⟩
        · rintro i σ H' hi ⟨kv, rfl, rfl⟩
          have hx : xs[i]? = some (xs[i]'(by omega)) := List.getElem?_eq_getElem _
          have hy : ys[i]? = some ys[i] := List.getElem?_eq_getElem _
          have e0 : (0 : Int) + (i : Int) = (i : Int) := by omega
          rw [e0]
          rcases sq with ⟨s1, s2⟩ | ⟨s1, s2⟩
          · refine ⟨_, rfl, _, rfl, .inl ⟨_, _, _, _, rfl, rfl, s1, atI_nat hx, _, rfl, _, rfl, .inl ⟨_, _, _, _, rfl, rfl, s2, atI_nat hy, ?_⟩⟩⟩
            exact ⟨_, _, rfl, hall i _ _ hx hy, _, rfl, iteF ⟨_, rfl, rfl⟩⟩
          · refine ⟨_, rfl, _, rfl, .inr (.inl ⟨_, _, _, _, rfl, rfl, s1, atI_nat hx, _, rfl, _, rfl, .inr (.inl ⟨_, _, _, _, rfl, rfl, s2, atI_nat hy, ?_⟩)⟩)⟩
            exact ⟨_, _, rfl, hall i _ _ hx hy, _, rfl, iteF ⟨_, rfl, rfl⟩⟩
        · rintro σ H' ⟨kv, rfl, rfl⟩
          exact k
end

/-! addresses that all stand and are unlike one another -/
structure Liv (H : Hp) (L : List Addr) : Prop where
  nd : L.Nodup
  on : ∀ a ∈ L, ∃ o, H a = some o
theorem Liv.nil {H : Hp} : Liv H [] := ⟨List.nodup_nil, fun _ h => by cases h⟩
theorem Liv.cons {H : Hp} {L : List Addr} {a : Addr} {o : HO} (h : Liv H L) (n : H a = none) : Liv (upd H a o) (a :: L) := by
  have hne : ∀ b ∈ L, b ≠ a := fun b hb => by obtain ⟨u, hu⟩ := h.on b hb; exact ne_of_none hu n
  refine ⟨List.nodup_cons.mpr ⟨fun z => hne a z rfl, h.nd⟩, fun b hb => ?_⟩
  rcases List.mem_cons.mp hb with rfl | hb
  · exact ⟨_, upd_same⟩
  · obtain ⟨u, hu⟩ := h.on b hb
    exact ⟨u, by rw [upd_ne (hne b hb)]; exact hu⟩
/-- one that stands, new since a heap in which the others stand -/
theorem Liv.cons' {H H' : Hp} {L : List Addr} {a : Addr} {o : HO} (h : Liv H L) (n : H a = none) (h' : Liv H' L) (ha : H' a = some o) : Liv H' (a :: L) :=
  ⟨List.nodup_cons.mpr ⟨fun z => (by obtain ⟨u, hu⟩ := h.on a z; rw [n] at hu; cases hu), h.nd⟩, fun b hb => by
    rcases List.mem_cons.mp hb with rfl | hb
    · exact ⟨_, ha⟩
    · exact h'.on b hb⟩
theorem Liv.keep {H H' : Hp} {L W : List Addr} (h : Liv H L) (k : Keep W H H') (w : ∀ a ∈ W, ∃ o, H' a = some o) : Liv H' L :=
  ⟨h.nd, fun a ha => by
    by_cases z : a ∈ W
    · exact w a z
    · obtain ⟨o, ho⟩ := h.on a ha
      exact ⟨o, k _ _ ho z⟩⟩
theorem Liv.keep0 {H H' : Hp} {L : List Addr} (h : Liv H L) (k : Keep [] H H') : Liv H' L := h.keep k fun _ z => by cases z
theorem Liv.keep1 {H H' : Hp} {L : List Addr} {p : Addr} {o : HO} (h : Liv H L) (k : Keep [p] H H') (hp : H' p = some o) : Liv H' L := h.keep k fun a z => by
  rw [List.mem_singleton] at z; exact ⟨o, by rw [z]; exact hp⟩
theorem nodup_ne {L : List Addr} (h : L.Nodup) {i j : Nat} {a b : Addr} (ha : L[i]? = some a) (hb : L[j]? = some b) (hij : i ≠ j) : a ≠ b := by
  obtain ⟨h1, e1⟩ := List.getElem?_eq_some_iff.mp ha
  obtain ⟨h2, e2⟩ := List.getElem?_eq_some_iff.mp hb
  have hp := List.pairwise_iff_getElem.mp h
  rcases Nat.lt_or_gt_of_ne hij with z | z
  · have := hp i j h1 h2 z
    rwa [e1, e2] at this
  · have := hp j i h2 h1 z
    rw [e1, e2] at this
    exact fun w => this w.symm
theorem Liv.ne {H : Hp} {L : List Addr} (h : Liv H L) (i j : Nat) {a b : Addr} (ha : L[i]? = some a) (hb : L[j]? = some b) (hij : i ≠ j := by decide) : a ≠ b := nodup_ne h.nd ha hb hij
theorem Liv.notNew {H : Hp} {L : List Addr} (h : Liv H L) {a : Addr} (n : H a = none) : a ∉ L := fun z => by
  obtain ⟨u, hu⟩ := h.on a z; rw [n] at hu; cases hu
theorem Liv.cons2 {H H' : Hp} {L : List Addr} {a b : Addr} {o u : HO} (h : Liv H L) (na : H a = none) (nb : H b = none) (ne : a ≠ b) (h' : Liv H' L) (ha : H' a = some o) (hb : H' b = some u) : Liv H' (b :: a :: L) := by
  have h1 := h.cons' na h' ha
  refine ⟨List.nodup_cons.mpr ⟨fun z => ?_, h1.nd⟩, fun c hc => ?_⟩
  · rcases List.mem_cons.mp z with z | z
    · exact ne z.symm
    · exact h.notNew nb z
  · rcases List.mem_cons.mp hc with rfl | hc
    · exact ⟨_, hb⟩
    · exact h1.on c hc
/-- a new instance and its dict -/
theorem Liv.made {H : Hp} {L : List Addr} {x d : Addr} {o : HO} (h : Liv H L) (nx : H x = none) (nd : H d = none) (ne : d ≠ x) : Liv (upd (upd H d (.own x)) x o) (x :: L) :=
  (h.keep0 (Keep.new nd)).cons (by rw [upd_ne ne.symm]; exact nx)
theorem made_at {H : Hp} {x d b : Addr} {o u : HO} (hx : H x = none) (hd : H d = none) (h : H b = some u) : upd (upd H d (.own x)) x o b = some u := by
  rw [upd_ne (ne_of_none h hx), upd_ne (ne_of_none h hd)]; exact h
theorem Keep.made {H : Hp} {x d : Addr} {o : HO} (hx : H x = none) (hd : H d = none) : Keep [] H (upd (upd H d (.own x)) x o) := fun _ _ h _ => made_at hx hd h
theorem Keep.tkL {H H' : Hp} {W : List Addr} (k : Keep W H H') (h : ∀ a ∈ W, ∃ ys, H a = some (.lst ys)) : TK H H' := fun b xs q => k b _ q fun z => by
  obtain ⟨ys, hy⟩ := h b z
  rw [q] at hy; cases hy

theorem calUp {P : Program} {w : World} {K : PySem.W.Frag} {mg : Str → Option Value} {base : Heap} {j k : Nat} {x : Str} {sp : Sp} {dvs : List V} (c : C8.Cal P w K mg base j x sp dvs) (h : j ≤ k) : C8.Cal P w K mg base k x sp dvs := by
  obtain ⟨f, fd, ps, ds, F, hm, kp, b, d⟩ := c.ex
  exact ⟨f, fd, ps, ds, F.mono h, hm, kp, b, d⟩

/-! codes, in plain words -/
abbrev In2 := Str × Int
def allNm : List Str := ["push", "load", "store", "sign", "jump", "skip", "lot", "end", "ask", "show", "pay", "take", "view", "long", "unit", "back"]
def nmsOf (brain : Bool) : List Str := if brain then ["push", "load", "store", "sign", "jump", "skip", "lot", "end", "view", "long", "unit", "back"] else ["push", "load", "store", "sign", "jump", "skip", "lot", "end", "ask", "show", "pay", "take"]
def fitsA (n : Str) (a slots moves : Int) : Bool :=
  if n = "push" then decide (0 ≤ a ∧ a ≤ 65535) else if n = "load" ∨ n = "store" then decide (0 ≤ a ∧ a < slots) else if n = "sign" then decide (0 ≤ a ∧ a < 7) else if n = "show" then decide (0 ≤ a ∧ a ≤ 2)
  else if n = "ask" then decide (0 ≤ a ∧ a < moves) else if n = "jump" ∨ n = "skip" ∨ n = "back" then decide (a ≥ 0) else decide (a = 0)
def tgts (at_ : Int) (n : Str) (a : Int) : List Int := if n = "end" ∨ n = "back" then [] else if n = "jump" then [at_ + 1 + a] else if n = "skip" then [at_ + 1, at_ + 1 + a] else [at_ + 1]
def eff (n : Str) : Int × Int :=
  if n = "push" ∨ n = "load" ∨ n = "ask" ∨ n = "long" then (0, 1) else if n = "store" ∨ n = "skip" ∨ n = "show" ∨ n = "pay" ∨ n = "take" then (1, 0) else if n = "sign" then (2, 1) else if n = "lot" ∨ n = "view" then (1, 1) else (0, 0)
abbrev Hts := Int → Option Int
def setH (h : Hts) (i v : Int) : Hts := fun j => if j = i then some v else h j
/-- the heights at the targets -/
def reach (len : Nat) (v : Int) : List Int → Hts → Option Hts
  | [], h => some h
  | t :: ts, h => if t ≥ (len : Int) ∨ (h t).getD v ≠ v then none else reach len v ts (setH h t v)
def backOk (cs : List In2) (h : Hts) (i t : Int) : Bool := decide (0 ≤ t ∧ t < i) && decide (cs[t.toNat]? = some (("unit" : Str), (0 : Int))) && decide (h t = h i)
def b2i' (b : Bool) : Int := if b then 1 else 0
/-- one place of a code -/
def good1 (cs : List In2) (slots moves : Int) (brain : Bool) (i : Int) (n : Str) (a : Int) (h : Hts) (top : Int) : Option (Hts × Int) :=
  match h i with
  | none => none
  | some v =>
    if n ∉ nmsOf brain then none else if fitsA n a slots moves = false then none
    else if v < (eff n).1 ∨ v - (eff n).1 + (eff n).2 > 16 then none
    else
      let w := v - (eff n).1 + (eff n).2
      let top' := if w > top then w else top
      if n = "end" then (if v = b2i' brain then some (h, top') else none)
      else if n = "back" then (if backOk cs h i (i - a) = true then some (h, top') else none)
      else (reach cs.length w (tgts i n a) h).map fun h' => (h', top')
def h0 : Hts := fun j => if j = 0 then some 0 else none
/-- the first i places -/
def upto (cs : List In2) (slots moves : Int) (brain : Bool) : Nat → Option (Hts × Int)
  | 0 => some (h0, 0)
  | i + 1 => match upto cs slots moves brain i, cs[i]? with
    | some s, some p => good1 cs slots moves brain (i : Int) p.1 p.2 s.1 s.2
    | _, _ => none
/-! codes in the heap -/
inductive Prs (H : Hp) : List V → List In2 → Prop
  | nil : Prs H [] []
  | cons {t : Addr} {n : Str} {a : Int} {vs : List V} {l : List In2} : H t = some (.tup [.str n, .int a]) → Prs H vs l → Prs H (.ref t :: vs) ((n, a) :: l)
theorem Prs.tk {H H' : Hp} (k : TK H H') {vs : List V} {l : List In2} (h : Prs H vs l) : Prs H' vs l := by
  induction h with
  | nil => exact .nil
  | cons h _ ih => exact .cons (k _ _ h) ih
theorem Prs.app {H : Hp} {vs us : List V} {l m : List In2} (h : Prs H vs l) (g : Prs H us m) : Prs H (vs ++ us) (l ++ m) := by
  induction h with
  | nil => exact g
  | cons h _ ih => exact .cons h ih
theorem Prs.len {H : Hp} {vs : List V} {l : List In2} (h : Prs H vs l) : vs.length = l.length := by
  induction h with
  | nil => rfl
  | cons _ _ ih => rw [List.length_cons, List.length_cons, ih]
theorem Prs.get {H : Hp} {vs : List V} {l : List In2} (h : Prs H vs l) : ∀ {i : Nat} {n : Str} {a : Int}, l[i]? = some (n, a) → ∃ t, vs[i]? = some (.ref t) ∧ H t = some (.tup [.str n, .int a]) := by
  induction h with
  | nil => intro i n a h; simp at h
  | cons h _ ih =>
    intro i n a hv
    cases i with
    | zero => simp at hv; obtain ⟨rfl, rfl⟩ := hv; exact ⟨_, rfl, h⟩
    | succ i => simpa using ih (by simpa using hv)
theorem Prs.take {H : Hp} {vs : List V} {l : List In2} (h : Prs H vs l) : ∀ (i : Nat), Prs H (vs.take i) (l.take i) := by
  induction h with
  | nil => intro i; simp; exact .nil
  | cons h _ ih =>
    intro i
    cases i with
    | zero => exact .nil
    | succ i => exact .cons h (ih i)
theorem Prs.drop {H : Hp} {vs : List V} {l : List In2} (h : Prs H vs l) : ∀ (i : Nat), Prs H (vs.drop i) (l.drop i) := by
  induction h with
  | nil => intro i; simp; exact .nil
  | cons h h2 ih =>
    intro i
    cases i with
    | zero => exact .cons h h2
    | succ i => exact ih i
/-- a code, as a list or as a tuple -/
def CodeAt (H : Hp) (c : Addr) (cs : List In2) : Prop := ∃ xs, (H c = some (.lst xs) ∨ H c = some (.tup xs)) ∧ Prs H xs cs
theorem CodeAt.keep {H H' : Hp} {c : Addr} {cs : List In2} {W : List Addr} (h : CodeAt H c cs) (k : Keep W H H') (t : TK H H') (w : c ∉ W) : CodeAt H' c cs := by
  obtain ⟨xs, h1, h2⟩ := h
  exact ⟨xs, h1.elim (fun z => .inl (k _ _ z w)) fun z => .inr (k _ _ z w), h2.tk t⟩
/-- the names that a code may hold -/
def NmOk (cs : List In2) : Prop := ∀ p ∈ cs, p.1 ∈ allNm ++ (["", "halt", "push ", "pushes"] : List Str)
/-- the heights, as the dict has them -/
def HtsAt (H : Hp) (d : Addr) (h : Hts) (m : Nat) : Prop := ∃ kvs : List (Key × V), H d = some (.dK kvs) ∧ kvs.length ≤ m ∧ ∀ i : Int, valV kvs (.inl i) = (h i).map V.int
theorem HtsAt.get {H : Hp} {d : Addr} {h : Hts} {m : Nat} (x : HtsAt H d h m) (i : Int) : DGet H d (.int i) ((h i).map V.int) := by
  obtain ⟨kvs, h1, _, h3⟩ := x
  rw [← h3]
  exact DGet.k (k := .inl i) h1
theorem HtsAt.put {H : Hp} {d : Addr} {h : Hts} {m : Nat} (x : HtsAt H d h m) (i v : Int) (hm : m < 1000000) : ∃ H', DPut H d (.int i) (.int v) H' ∧ HtsAt H' d (setH h i v) (m + 1) ∧ (∃ o, H d = some o ∧ ∃ kvs, o = .dK kvs) ∧ ∃ o', H' = upd H d o' := by
  obtain ⟨kvs, h1, h2, h3⟩ := x
  refine ⟨_, DPut.k (k := .inl i) h1 (smallL (by omega)), ⟨_, upd_same, ?_, fun j => ?_⟩, ⟨_, h1, _, rfl⟩, _, rfl⟩
  · have := length_putK kvs (.inl i) (.int v)
    omega
  · rw [valV_put]
    unfold setH
    by_cases e : j = i
    · subst e; rw [if_pos rfl, if_pos rfl]; rfl
    · rw [if_neg (fun z => e (Sum.inl.inj z)), if_neg e, h3]
def chkF (c d : Addr) (slots moves : Int) (brain : Bool) (top : Int) : List (Str × V) := [("code", .ref c), ("slots", .int slots), ("moves", .int moves), ("thinking", .bl brain), ("heights", .ref d), ("highest", .int top)]
/-- a Checker at x -/
structure ChkAt (C : Addr) (H : Hp) (x c d : Addr) (cs : List In2) (slots moves : Int) (brain : Bool) (h : Hts) (top : Int) (m : Nat) : Prop where
  o : ∃ dx, H x = some (.ins C dx (chkF c d slots moves brain top))
  c : CodeAt H c cs
  d : HtsAt H d h m
theorem inV_strs (z : Str) : ∀ ys : List Str, inV (.str z) (ys.map V.str) = decide (z ∈ ys)
  | [] => rfl
  | y :: r => by
    have ih := inV_strs z r
    unfold inV at ih ⊢
    rw [List.map_cons, List.any_cons, ih]
    have e : eqV (.str y) (.str z) = decide (y = z) := by
      show (y == z) = _
      by_cases h : y = z
      · subst h; simp
      · simp [h]
    rw [e]
    by_cases h : z = y
    · subst h; simp
    · have h' : ¬ y = z := fun q => h q.symm
      simp [h, h']
theorem flat_strs (ys : List Str) : (ys.map V.str).all flatV = true := by
  rw [List.all_eq_true]
  intro x hx
  obtain ⟨y, _, rfl⟩ := List.mem_map.mp hx
  rfl
/-! the defs -/
def sp_fits (K : PySem.W.Frag) : Sp := fun vs H Q _ => ∃ (t : Addr) (n : Str) (a slots moves : Int), vs = [.ref t, .int slots, .int moves] ∧ H t = some (.tup [.str n, .int a]) ∧ Q (.bl (fitsA n a slots moves)) H
def sp_tgts (K : PySem.W.Frag) : Sp := fun vs H Q _ => ∃ (t : Addr) (n : Str) (a i : Int), vs = [.int i, .ref t] ∧ H t = some (.tup [.str n, .int a]) ∧ ∀ l H', H l = none → H' l = some (.lst ((tgts i n a).map V.int)) → Keep [] H H' → Q (.ref l) H'
theorem boolQ {Q : Bool → Prop} {p q : Bool} (h : p = q) (k : Q p) : Q q := h ▸ k
section
variable {P : Program} {w : World} {K : PySem.W.Frag} {mg : Str → Option Value} {base : Heap} {C_Tape : Addr} {C_Thinker : Addr} {C_Brain : Addr} {C_Mind : Addr} {C_Frame : Addr} {C_Thinking : Addr} {C_Checker : Addr} {C_GameError : Addr} {C_BadCode : Addr} {f_BadCode___init : Addr} {T_EVENTS : Addr} {T_SIGNS : Addr} {T_ROUND_NAMES : Addr} {T_BRAIN_NAMES : Addr} {T_EFFECTS : Addr}
theorem ok_fits {f : Addr} {fd : FuncData} (D : C8.Def K mg "argument_fits" s_argument_fits f fd) (b : Binds K fd ["instruction", "slots", "moves"] []) (T : Txt K mg C_Tape C_Thinker C_Brain C_Mind C_Frame C_Thinking C_Checker C_GameError C_BadCode T_EVENTS T_SIGNS T_ROUND_NAMES T_BRAIN_NAMES T_EFFECTS) : C8.Cal P w K mg base 1 "argument_fits" (sp_fits K) [] := by
  refine cal0 D b .nil sc_argument_fits (fun vs H Q E h => ?_) (fun cdv A outer s H vs Q E hr h => ?_)
  · obtain ⟨t, n, a, sl, mo, rfl, _⟩ := h
    rfl
  · obtain ⟨t, n, a, sl, mo, rfl, ht, k⟩ := h
    refine ⟨_, (pss_cons (ps_asg (pv 0) (pg_tup (by rfl) (pgs_cons (pg_name (i := 3) sc_argument_fits.nd rfl (by first | exact Or.inl rfl | exact Or.inr rfl)) (pgs_cons (pg_name (i := 4) sc_argument_fits.nd rfl (by first | exact Or.inl rfl | exact Or.inr rfl)) pgs_nil))))
(pss_cons (ps_if (pt_cmpR op_eq (pv 3) pe_str (nomark _))
  (pss_one (ps_ret (pe_chain op_le op_le pe_int (pv 4) (pe_gc rfl T.v_GREATEST))))
  pss_nil)
(pss_cons (ps_if (PW.pt (pw_or (pt_cmpR op_eq (pv 3) pe_str (nomark _)) (pw_or1 (pt_cmpR op_eq (pv 3) pe_str (nomark _)))))
  (pss_one (ps_ret (pe_chain op_le op_lt pe_int (pv 4) (pv 1))))
  pss_nil)
(pss_cons (ps_if (pt_cmpR op_eq (pv 3) pe_str (nomark _))
  (pss_one (ps_ret (pe_chain op_le op_lt pe_int (pv 4) (pe_callB call_len_seq (by rfl) T.n_len bo_len (pa_cons (pe_gc rfl T.v_SIGNS) pa_nil)))))
  pss_nil)
(pss_cons (ps_if (pt_cmpR op_eq (pv 3) pe_str (nomark _))
  (pss_one (ps_ret (pe_chain op_le op_le pe_int (pv 4) pe_int)))
  pss_nil)
(pss_cons (ps_if (pt_cmpR op_eq (pv 3) pe_str (nomark _))
  (pss_one (ps_ret (pe_chain op_le op_lt pe_int (pv 4) (pv 2))))
  pss_nil)
(pss_cons (ps_if (PW.pt (pw_or (pt_cmpR op_eq (pv 3) pe_str (nomark _)) (pw_or (pt_cmpR op_eq (pv 3) pe_str (nomark _)) (pw_or1 (pt_cmpR op_eq (pv 3) pe_str (nomark _))))))
  (pss_one (ps_ret (pe_cmpR op_ge (pv 4) pe_int (nomark _))))
  pss_nil)
(pss_one (ps_ret (pe_cmpR op_eq (pv 4) pe_int (nomark _))))))))))), ?_⟩
    unfold fitsA at k
    refine ⟨_, rfl, t, _, rfl, SqT.of ht, rfl, _, _, rfl, _, _, rfl, rfl, ?_⟩
    have ch : ∀ {p q : Prop} [Decidable p] [Decidable q], p → decide (p ∧ q) = decide q := fun hp => by simp [hp]
    have cf : ∀ {p q : Prop} [Decidable p] [Decidable q], ¬ p → decide (p ∧ q) = false := fun hp => by simp [hp]
    have two : ∀ {lo hi : Prop} [Decidable lo] [Decidable hi], Q (.bl (decide (lo ∧ hi))) H → (lo → Q (.bl (decide hi)) H) ∧ (¬ lo → Q (.bl false) H) := fun z => ⟨fun hp => by rwa [ch hp] at z, fun hp => by rwa [cf hp] at z⟩
    have ne : ∀ {y : Str}, ¬ V.str n = V.str y → ¬ n = y := fun h z => h (congrArg V.str z)
    refine ⟨_, rfl, rfl, _, rfl, iteD (fun e => ?_) (fun e => ?_)⟩
    · rw [if_pos (V.str.inj e)] at k
      exact ⟨_, rfl, _, _, rfl, rfl, _, rfl, iteD (fun h => ⟨_, _, rfl, rfl, (two k).1 h⟩) (fun h => (two k).2 h)⟩
    rw [if_neg (ne e)] at k
    have slotsCase : (n = "load" ∨ n = "store") → ∃ x, some (some (V.int a)) = some (some x) ∧ ∃ i j : Int, V.int 0 = .int i ∧ x = .int j ∧ ∃ c, V.bl (decide (i ≤ j)) = .bl c ∧ if c = true then ∃ y, some (some (V.int sl)) = some (some y) ∧ ∃ i' j' : Int, x = .int i' ∧ y = .int j' ∧ Q (.bl (decide (i' < j'))) H else Q (.bl false) H := fun e2 => by
      rw [if_pos e2] at k
      exact ⟨_, rfl, _, _, rfl, rfl, _, rfl, iteD (fun h => ⟨_, rfl, _, _, rfl, rfl, (two k).1 h⟩) (fun h => (two k).2 h)⟩
    refine ⟨_, rfl, rfl, _, rfl, iteD (fun e => slotsCase (.inl (V.str.inj e))) (fun e => ⟨_, rfl, rfl, _, rfl, iteD (fun e2 => slotsCase (.inr (V.str.inj e2))) (fun e2 => ?_)⟩)⟩
    rw [if_neg (fun z => z.elim (ne e) (ne e2))] at k
    refine ⟨_, rfl, rfl, _, rfl, iteD (fun e => ?_) (fun e => ?_)⟩
    · rw [if_pos (V.str.inj e)] at k
      exact ⟨_, rfl, _, _, rfl, rfl, _, rfl, iteD (fun h => ⟨_, _, rfl, .inr (T.q_SIGNS _), _, _, rfl, rfl, (two k).1 h⟩) (fun h => (two k).2 h)⟩
    rw [if_neg (ne e)] at k
    refine ⟨_, rfl, rfl, _, rfl, iteD (fun e => ?_) (fun e => ?_)⟩
    · rw [if_pos (V.str.inj e)] at k
      exact ⟨_, rfl, _, _, rfl, rfl, _, rfl, iteD (fun h => ⟨_, _, rfl, rfl, (two k).1 h⟩) (fun h => (two k).2 h)⟩
    rw [if_neg (ne e)] at k
    refine ⟨_, rfl, rfl, _, rfl, iteD (fun e => ?_) (fun e => ?_)⟩
    · rw [if_pos (V.str.inj e)] at k
      exact ⟨_, rfl, _, _, rfl, rfl, _, rfl, iteD (fun h => ⟨_, rfl, _, _, rfl, rfl, (two k).1 h⟩) (fun h => (two k).2 h)⟩
    rw [if_neg (ne e)] at k
    have geCase : (n = "jump" ∨ n = "skip" ∨ n = "back") → Q (.bl (decide (a ≥ 0))) H := fun e2 => by rwa [if_pos e2] at k
    refine ⟨_, rfl, rfl, _, rfl, iteD (fun e => ⟨_, rfl, _, _, rfl, rfl, geCase (.inl (V.str.inj e))⟩) (fun e => ⟨_, rfl, rfl, _, rfl, iteD (fun e2 => ⟨_, rfl, _, _, rfl, rfl, geCase (.inr (.inl (V.str.inj e2)))⟩) (fun e2 => ⟨_, rfl, rfl, _, rfl, iteD (fun e3 => ⟨_, rfl, _, _, rfl, rfl, geCase (.inr (.inr (V.str.inj e3)))⟩) (fun e3 => ?_)⟩)⟩)⟩
    rw [if_neg (fun z => z.elim (ne e) fun z => z.elim (ne e2) (ne e3))] at k
    refine ⟨_, rfl, rfl, ?_⟩
    have : decide (V.int a = V.int 0) = decide (a = 0) := by simp
    rw [this]; exact k
theorem ok_tgts {f : Addr} {fd : FuncData} (D : C8.Def K mg "targets_of" s_targets_of f fd) (b : Binds K fd ["at", "instruction"] []) (T : Txt K mg C_Tape C_Thinker C_Brain C_Mind C_Frame C_Thinking C_Checker C_GameError C_BadCode T_EVENTS T_SIGNS T_ROUND_NAMES T_BRAIN_NAMES T_EFFECTS) : C8.Cal P w K mg base 1 "targets_of" (sp_tgts K) [] := by
  refine cal0 D b .nil sc_targets_of (fun vs H Q E h => ?_) (fun cdv A outer s H vs Q E hr h => ?_)
  · obtain ⟨t, n, a, i, rfl, _⟩ := h
    rfl
  · obtain ⟨t, n, a, i, rfl, ht, k⟩ := h
    refine ⟨_, (pss_cons (ps_asg (pv 1) (pg_tup (by rfl) (pgs_cons (pg_name (i := 2) sc_targets_of.nd rfl (by first | exact Or.inl rfl | exact Or.inr rfl)) (pgs_cons (pg_name (i := 3) sc_targets_of.nd rfl (by first | exact Or.inl rfl | exact Or.inr rfl)) pgs_nil))))
(pss_cons (ps_if (PW.pt (pw_or (pt_cmpR op_eq (pv 2) pe_str (nomark _)) (pw_or1 (pt_cmpR op_eq (pv 2) pe_str (nomark _)))))
  (pss_one (ps_ret (pe_lst pa_nil)))
  pss_nil)
(pss_cons (ps_if (pt_cmpR op_eq (pv 2) pe_str (nomark _))
  (pss_one (ps_ret (pe_lst (pa_cons (pe_op op_add (pe_op op_add (pv 0) pe_int) (pv 3)) pa_nil))))
  pss_nil)
(pss_cons (ps_if (pt_cmpR op_eq (pv 2) pe_str (nomark _))
  (pss_one (ps_ret (pe_lst (pa_cons (pe_op op_add (pv 0) pe_int) (pa_cons (pe_op op_add (pe_op op_add (pv 0) pe_int) (pv 3)) pa_nil)))))
  pss_nil)
(pss_one (ps_ret (pe_lst (pa_cons (pe_op op_add (pv 0) pe_int) pa_nil)))))))), ?_⟩
    unfold tgts at k
    have ne : ∀ {y : Str}, ¬ V.str n = V.str y → ¬ n = y := fun h z => h (congrArg V.str z)
    refine ⟨_, rfl, t, _, rfl, SqT.of ht, rfl, _, _, rfl, _, _, rfl, rfl, ?_⟩
    have c0 : (n = "end" ∨ n = "back") → 0 ≤ sizeLine ∧ ∀ p, H p = none → Q (.ref p) (upd H p (.lst [])) := fun e => by
      rw [if_pos e] at k
      exact ⟨Nat.zero_le _, fun p np => k p _ np upd_same (Keep.new np)⟩
    refine ⟨_, rfl, rfl, _, rfl, iteD (fun e => c0 (.inl (V.str.inj e))) (fun e => ⟨_, rfl, rfl, _, rfl, iteD (fun e2 => c0 (.inr (V.str.inj e2))) (fun e2 => ?_)⟩)⟩
    rw [if_neg (fun z => z.elim (ne e) (ne e2))] at k
    refine ⟨_, rfl, rfl, _, rfl, iteD (fun e => ?_) (fun e => ?_)⟩
    · rw [if_pos (V.str.inj e)] at k
      exact ⟨_, rfl, _, _, rfl, rfl, _, rfl, _, _, rfl, rfl, by show 1 ≤ sizeLine; decide, fun p np => k p _ np upd_same (Keep.new np)⟩
    rw [if_neg (ne e)] at k
    refine ⟨_, rfl, rfl, _, rfl, iteD (fun e => ?_) (fun e => ?_)⟩
    · rw [if_pos (V.str.inj e)] at k
      exact ⟨_, rfl, _, _, rfl, rfl, _, rfl, _, _, rfl, rfl, _, rfl, _, _, rfl, rfl, by show 2 ≤ sizeLine; decide, fun p np => k p _ np upd_same (Keep.new np)⟩
    rw [if_neg (ne e)] at k
    exact ⟨_, rfl, _, _, rfl, rfl, by show 1 ≤ sizeLine; decide, fun p np => k p _ np upd_same (Keep.new np)⟩
end

theorem nm_ok : ∀ n ∈ allNm ++ (["", "halt", "push ", "pushes"] : List Str), PyData.strOk n = true := by decide +kernel
theorem shp {n : Str} {a : Int} (h : PyData.strOk n = true) : SeqAt.shaped (.tuple [.str n, .int a]) = true := by
  simp [SeqAt.shaped, PyData.canLay0, PyData.canLayAll0, PyData.depth, PyData.depthAll, h]
theorem eqv_ins (n m : Str) (a c : Int) : PyData.eqv (.tuple [.str n, .int a]) (.tuple [.str m, .int c]) = decide ((n, a) = (m, c)) := by
  have e1 : PyData.eqv (.str n) (.str m) = decide (n = m) := by
    by_cases h : n = m
    · subst h; simp [PyData.eqv]
    · simp [PyData.eqv, h]
  have e2 : PyData.eqv (.int a) (.int c) = decide (a = c) := by
    by_cases h : a = c
    · subst h; simp [PyData.eqv]
    · simp [PyData.eqv, h]
  have e3 : PyData.eqv (.tuple [.str n, .int a]) (.tuple [.str m, .int c]) = (PyData.eqv (.str n) (.str m) && (PyData.eqv (.int a) (.int c) && true)) := by
    simp [PyData.eqv, PyData.eqvAll]
  rw [e3, e1, e2]
  by_cases h : n = m <;> by_cases g : a = c <;> simp [h, g]
theorem dpIns {K : PySem.W.Frag} {H : Hp} {t : Addr} {n : Str} {a : Int} (h : H t = some (.tup [.str n, .int a])) : Dp K H (.ref t) (.tuple [.str n, .int a]) := .tup (SqT.of h) (.cons (.str n) (.cons (.int a) .nil))
theorem ChkAt.sq {K : PySem.W.Frag} {C : Addr} {H : Hp} {x c d : Addr} {cs : List In2} {sl mo : Int} {b : Bool} {h : Hts} {top : Int} {m : Nat} (z : ChkAt C H x c d cs sl mo b h top m) : ∃ xs, (SqL K H c xs ∨ SqT K H c xs) ∧ Prs H xs cs := by
  obtain ⟨xs, h1, h2⟩ := z.c
  exact ⟨xs, h1.elim (fun w => .inl (SqL.of w)) fun w => .inr (SqT.of w), h2⟩
theorem HtsAt.isD {H : Hp} {d : Addr} {h : Hts} {m : Nat} (z : HtsAt H d h m) : IsD H d := by
  obtain ⟨kvs, h1, _⟩ := z
  exact .inl ⟨kvs, .inl h1⟩
theorem ChkAt.keepD {C : Addr} {H H' : Hp} {x c d : Addr} {cs : List In2} {sl mo : Int} {b : Bool} {h h' : Hts} {top : Int} {m m' : Nat} {o : HO} (z : ChkAt C H x c d cs sl mo b h top m) (e : H' = upd H d o) (w : HtsAt H' d h' m') : ChkAt C H' x c d cs sl mo b h' top m' := by
  obtain ⟨⟨dx, o1⟩, c1, ⟨kvs, d1, _⟩⟩ := z
  obtain ⟨xs, h1, h2⟩ := c1
  subst e
  refine ⟨⟨dx, by rw [upd_ne (ne_of o1 d1 (by intro z; cases z))]; exact o1⟩, ⟨xs, ?_, h2.tk fun b ys q => by rw [upd_ne (ne_of q d1 (by intro z; cases z))]; exact q⟩, w⟩
  rcases h1 with h1 | h1
  · left; rw [upd_ne (ne_of h1 d1 (by intro z; cases z))]; exact h1
  · right; rw [upd_ne (ne_of h1 d1 (by intro z; cases z))]; exact h1
theorem ChkAt.keep0 {C : Addr} {H H' : Hp} {x c d : Addr} {cs : List In2} {sl mo : Int} {b : Bool} {h : Hts} {top : Int} {m : Nat} (z : ChkAt C H x c d cs sl mo b h top m) (k : Keep [] H H') : ChkAt C H' x c d cs sl mo b h top m := by
  obtain ⟨⟨dx, o1⟩, c1, ⟨kvs, d1, d2⟩⟩ := z
  exact ⟨⟨dx, k _ _ o1 (by simp)⟩, c1.keep k k.tk (by simp), ⟨kvs, k _ _ d1 (by simp), d2⟩⟩
def sp_chk (C : Addr) : Sp := fun vs H Q _ => ∃ (x dx c : Addr) (cs : List In2) (sl mo : Int) (b : Bool), vs = [.ref x, .ref c, .int sl, .int mo, .bl b] ∧ H x = some (.ins C dx []) ∧ CodeAt H c cs ∧ ∀ d H', H d = none → Keep [x] H H' → ChkAt C H' x c d cs sl mo b h0 0 1 → Q .non H'
def sp_reaches (C : Addr) : Sp := fun vs H Q _ => ∃ (x c d l : Addr) (cs : List In2) (sl mo : Int) (b : Bool) (h : Hts) (top : Int) (m : Nat) (ts : List Int) (v : Int), vs = [.ref x, .ref l, .int v] ∧ ChkAt C H x c d cs sl mo b h top m ∧ H l = some (.lst (ts.map V.int)) ∧ m + ts.length < 1000000 ∧ cs.length ≤ 1000000 ∧
  ((∀ h' H', reach cs.length v ts h = some h' → ChkAt C H' x c d cs sl mo b h' top (m + ts.length) → Keep [d] H H' → Q (.bl true) H') ∧ (∀ H', reach cs.length v ts h = none → Keep [d] H H' → Q (.bl false) H'))
def sp_returns (C : Addr) : Sp := fun vs H Q _ => ∃ (x c d : Addr) (cs : List In2) (sl mo : Int) (b : Bool) (h : Hts) (top : Int) (m : Nat) (i t v : Int), vs = [.ref x, .int i, .int t] ∧ ChkAt C H x c d cs sl mo b h top m ∧ NmOk cs ∧ i < (cs.length : Int) ∧ h i = some v ∧ (∀ j : Int, 0 ≤ j → j < i → (h j).isSome) ∧
  ∀ H', Keep [] H H' → Q (.bl (backOk cs h i t)) H'
section
variable {P : Program} {w : World} {K : PySem.W.Frag} {mg : Str → Option Value} {base : Heap} {C_Tape : Addr} {C_Thinker : Addr} {C_Brain : Addr} {C_Mind : Addr} {C_Frame : Addr} {C_Thinking : Addr} {C_Checker : Addr} {C_GameError : Addr} {C_BadCode : Addr} {f_BadCode___init : Addr} {T_EVENTS : Addr} {T_SIGNS : Addr} {T_ROUND_NAMES : Addr} {T_BRAIN_NAMES : Addr} {T_EFFECTS : Addr}
theorem ok_chk_init {f : Addr} {fd : FuncData} (M : Mk K C_Checker f) (F : C8.Fun K "__init__" "Checker.__init__" s_Checker___init f fd) (b : Binds K fd ["self", "code", "slots", "moves", "thinking"] []) (T : Txt K mg C_Tape C_Thinker C_Brain C_Mind C_Frame C_Thinking C_Checker C_GameError C_BadCode T_EVENTS T_SIGNS T_ROUND_NAMES T_BRAIN_NAMES T_EFFECTS) : C8.Mak P w K mg base 1 "Checker" C_Checker (sp_chk C_Checker) [] := by
  refine mak0 M T.m_Checker F b .nil sc_Checker___init (fun vs H Q E h => ?_) (fun cdv A outer s H vs Q E hr h => ?_)
  · obtain ⟨x, dx, c, cs, sl, mo, b, rfl, _⟩ := h
    rfl
  · obtain ⟨x, dx, c, cs, sl, mo, b, rfl, hx, hc, k⟩ := h
    refine ⟨_, (pss_cons (ps_fld (pv 0) (pv 1) rfl)
(pss_cons (ps_fld (pv 0) (pv 2) rfl)
(pss_cons (ps_fld (pv 0) (pv 3) rfl)
(pss_cons (ps_fld (pv 0) (pv 4) rfl)
(pss_cons (ps_fld (pv 0) (pe_disp (pps_cons pe_int pe_int pps_nil) (by rfl) (by rfl) (fun z => by cases z) (by decide)) rfl)
(pss_one (ps_fld (pv 0) pe_int rfl))))))), ?_⟩
    refine ⟨_, rfl, _, rfl, x, C_Checker, dx, [], rfl, hx, T.cl_Checker, T.a_Checker_code, by show 0 < 1000; decide, ?_⟩
    refine ⟨_, rfl, _, rfl, x, C_Checker, dx, _, rfl, upd_same, T.cl_Checker, T.a_Checker_slots, by show 1 < 1000; decide, ?_⟩
    refine ⟨_, rfl, _, rfl, x, C_Checker, dx, _, rfl, upd_same, T.cl_Checker, T.a_Checker_moves, by show 2 < 1000; decide, ?_⟩
    refine ⟨_, rfl, _, rfl, x, C_Checker, dx, _, rfl, upd_same, T.cl_Checker, T.a_Checker_thinking, by show 3 < 1000; decide, ?_⟩
    refine fun d nd => ⟨upd_same, [(.inl 0, .int 0)], rfl, by decide, ?_⟩
    have exd : x ≠ d := ne_of_none upd_same nd
    refine ⟨_, rfl, x, C_Checker, dx, _, rfl, by rw [upd_ne exd, upd_ne exd]; exact upd_same, T.cl_Checker, T.a_Checker_heights, by show 4 < 1000; decide, ?_⟩
    refine ⟨_, rfl, x, C_Checker, dx, _, rfl, upd_same, T.cl_Checker, T.a_Checker_highest, by show 5 < 1000; decide, ?_⟩
    have nd0 : H d = none := by
      rw [upd_ne exd.symm, upd_ne exd.symm, upd_ne exd.symm, upd_ne exd.symm] at nd
      exact nd
    refine (?_ : ∀ H9 : Hp, H9 = _ → Q .non H9) _ rfl
    intro H9 e9
    have mx : x ∈ [x] := List.mem_singleton.mpr rfl
    have kk : Keep [x] H H9 := by
      rw [e9]
      exact ((((((((Keep.at_ mx).then_at mx).then_at mx).then_at mx).then_own nd0).then_own nd0).then_at mx).then_at mx)
    refine k d _ nd0 kk ⟨⟨dx, by rw [e9]; exact upd_same⟩, ?_, ⟨[(.inl 0, .int 0)], ?_, Nat.le_refl _, fun i => ?_⟩⟩
    · have ncx : c ≠ x := by
        obtain ⟨xs, h1, _⟩ := hc
        rcases h1 with h1 | h1 <;> exact ne_of h1 hx (by intro z; cases z)
      refine hc.keep kk (fun e ys q => kk _ _ q ?_) (by simpa using ncx)
      have := ne_of q hx (by intro z; cases z)
      simpa using this
    · rw [e9, upd_ne exd.symm, upd_ne exd.symm]; exact upd_same
    · unfold h0
      by_cases e : i = 0
      · subst e; rfl
      · rw [if_neg e, valV_neg (fun z => e (Sum.inl.inj z).symm)]; rfl
theorem ok_reaches {f : Addr} {fd : FuncData} (me : Meth K C_Checker "reaches" f) (F : C8.Fun K "reaches" "Checker.reaches" s_Checker_reaches f fd) (b : Binds K fd ["self", "targets", "height"] []) (T : Txt K mg C_Tape C_Thinker C_Brain C_Mind C_Frame C_Thinking C_Checker C_GameError C_BadCode T_EVENTS T_SIGNS T_ROUND_NAMES T_BRAIN_NAMES T_EFFECTS) : C8.Met P w K mg base 1 C_Checker "reaches" (sp_reaches C_Checker) [] := by
  refine met0 T.cl_Checker me F b sc_Checker_reaches (fun vs H Q E h => ?_) (fun cdv A outer s H vs Q E hr h => ?_)
  · obtain ⟨x, c, d, l, cs, sl, mo, b, h, top, m, ts, v, rfl, _⟩ := h
    rfl
  · obtain ⟨x, c, d, l, cs, sl, mo, b, h, top, m, ts, v, rfl, hC, hl, hm, hn, kT, kF⟩ := h
    have hu := hu_of hr
    refine ⟨_, (pss_cons (ps_for PassesOwn.never rfl (pi_list (pv 1)) (pg_name (i := 3) sc_Checker_reaches.nd rfl (by first | exact Or.inl rfl | exact Or.inr rfl))
  (pss_cons (ps_if (PW.pt (pw_or (pt_cmpR op_ge (pv 3) (pe_callB call_len_seq (by rfl) T.n_len bo_len (pa_cons (pe_fld (pv 0) rfl) pa_nil)) (nomark _)) (pw_or1 (pt_cmpR op_ne (pe_dget2 hu (pe_fld (pv 0) rfl) (pv 3) (pv 2) ⟨rfl, by rfl, rfl, rfl⟩) (pv 2) (nomark _)))))
    (pss_one (ps_ret pe_bl))
    pss_nil)
  (pss_one (ps_dput hu (pe_fld (pv 0) rfl) (pv 3) (pv 2) (by rfl)))))
(pss_one (ps_ret pe_bl))), ?_⟩
    have nld : l ∉ [d] := by
      obtain ⟨kvs, d1, _⟩ := hC.d
      simpa using ne_of hl d1 (by intro z; cases z)
    refine ⟨_, rfl, l, rfl, ⟨_, SqL.of hl⟩, for_list (K := K) (a := l) (xs := ts.map V.int) (fun i σ H' => ∃ (hi : Hts) (o3 : Option V), σ = [some (.ref x), some (.ref l), some (.int v), o3] ∧ ChkAt C_Checker H' x c d cs sl mo b hi top (m + i) ∧ reach cs.length v ts h = reach cs.length v (ts.drop i) hi ∧ Keep [d] H H')
      ⟨h, none, rfl, hC, rfl, Keep.refl _ _⟩ (fun i σ H' _ ⟨_, _, _, _, _, kk⟩ => SqL.of (kk _ _ hl nld)) ?_ ?_⟩
    · rintro i y σ H' hi ⟨hh, o3, rfl, hC', hre, kk⟩
      obtain ⟨t, ht, rfl⟩ := ints_get hi
      obtain ⟨hlt, he⟩ := List.getElem?_eq_some_iff.mp ht
      rw [List.drop_eq_getElem_cons hlt, he] at hre
      obtain ⟨dx, ho⟩ := hC'.o
      obtain ⟨xs, sq, prs⟩ := hC'.sq (K := K)
      have hlen := prs.len
      have go : ¬ t ≥ (cs.length : Int) → ¬ (hh t).getD v ≠ v → reach cs.length v ts h = reach cs.length v (ts.drop (i + 1)) (setH hh t v) := fun h1 h2 => by
        rw [hre]
        show (if t ≥ (cs.length : Int) ∨ (hh t).getD v ≠ v then none else reach cs.length v (ts.drop (i + 1)) (setH hh t v)) = _
        rw [if_neg (fun z => z.elim h1 h2)]
      have no : (t ≥ (cs.length : Int) ∨ (hh t).getD v ≠ v) → reach cs.length v ts h = none := fun z => by
        rw [hre]
        exact if_pos z
      refine ⟨_, rfl, _, rfl, x, C_Checker, dx, _, _, rfl, ho, T.cl_Checker, T.a_Checker_code, rfl, _, _, rfl, sq, _, _, rfl, rfl, _, rfl, iteD (fun h1 => ?_) (fun h1 => ?_)⟩
      · exact kF _ (no (.inl (by rw [hlen] at h1; exact h1))) kk
      refine ⟨_, rfl, x, C_Checker, dx, _, _, rfl, ho, T.cl_Checker, T.a_Checker_heights, rfl, d, rfl, hC'.d.isD, _, rfl, _, rfl, _, hC'.d.get t, _, rfl, ?_, _, rfl, ?_⟩
      · cases hh t <;> rfl
      have eg : ((hh t).map V.int).getD (.int v) = .int ((hh t).getD v) := by cases hh t <;> rfl
      rw [eg]
      refine iteN (fun h2 => ?_) (fun h2 => ?_)
      · exact kF _ (no (.inr fun z => h2 (congrArg V.int z))) kk
      obtain ⟨H2, dp, ha, ⟨od, hod, kvs0, _⟩, o', eH⟩ := hC'.d.put t v (show m + i < 1000000 by
        have : i < ts.length := hlt
        omega)
      refine ⟨_, rfl, _, rfl, x, C_Checker, dx, _, _, rfl, ho, T.cl_Checker, T.a_Checker_heights, rfl, _, rfl, d, H2, rfl, dp, ?_⟩
      refine ⟨_, _, rfl, hC'.keepD eH ha, go (by rw [hlen] at h1; exact h1) (fun z => z (V.int.inj h2)), ?_⟩
      rw [eH]
      exact kk.then_at (List.mem_singleton.mpr rfl)
    · rintro σ H' ⟨hh, o3, rfl, hC', hre, kk⟩
      rw [List.length_map] at hC' hre
      rw [List.drop_of_length_le (Nat.le_refl _)] at hre
      exact kT hh _ hre hC' kk
theorem ok_returns {f : Addr} {fd : FuncData} (me : Meth K C_Checker "returns" f) (F : C8.Fun K "returns" "Checker.returns" s_Checker_returns f fd) (b : Binds K fd ["self", "at", "target"] []) (T : Txt K mg C_Tape C_Thinker C_Brain C_Mind C_Frame C_Thinking C_Checker C_GameError C_BadCode T_EVENTS T_SIGNS T_ROUND_NAMES T_BRAIN_NAMES T_EFFECTS) : C8.Met P w K mg base 1 C_Checker "returns" (sp_returns C_Checker) [] := by
  refine met0 T.cl_Checker me F b sc_Checker_returns (fun vs H Q E h => ?_) (fun cdv A outer s H vs Q E hr h => ?_)
  · obtain ⟨x, c, d, cs, sl, mo, b, h, top, m, i, t, v, rfl, _⟩ := h
    rfl
  · obtain ⟨x, c, d, cs, sl, mo, b, h, top, m, i, t, v, rfl, hC, hnm, hi, hv, hall, k⟩ := h
    have hu := hu_of hr
    refine ⟨_, (pss_cons (ps_if (PW.pt (pw_or (pt_not (pt_chain op_le op_lt pe_int (pv 2) (pv 1))) (pw_or1 (pt_cmpR (op_neD hr.units) (pe_ix ix_seq (pe_fld (pv 0) rfl) (pv 2) (fun _ _ => rfl)) (pe_tup (pa_cons pe_str (pa_cons pe_int pa_nil))) (nomark _)))))
  (pss_one (ps_ret pe_bl))
  pss_nil)
(pss_one (ps_ret (pe_cmpR op_eq (pe_dget hu (pe_fld (pv 0) rfl) (pv 2) (fun _ _ => rfl)) (pe_dget hu (pe_fld (pv 0) rfl) (pv 1) (fun _ _ => rfl)) (nomark _))))), ?_⟩
    unfold backOk at k
    obtain ⟨dx, ho⟩ := hC.o
    obtain ⟨xs, sq, prs⟩ := hC.sq (K := K)
    have out : ¬ (0 ≤ t ∧ t < i) → Q (.bl false) H := fun z => by
      have := k H (Keep.refl _ _)
      rw [decide_eq_false z] at this
      exact this
    refine ⟨_, rfl, _, _, rfl, rfl, _, rfl, iteD (fun h1 => ⟨_, rfl, _, _, rfl, rfl, _, rfl, iteN (fun h2 => out fun z => h2 z.2) (fun h2 => ?_)⟩) (fun h1 => ⟨_, rfl, iteT (out fun z => h1 z.1)⟩)⟩
    have hlt : t.toNat < cs.length := by omega
    have ht : cs[t.toNat]? = some cs[t.toNat] := List.getElem?_eq_getElem _
    have hmem : cs[t.toNat] ∈ cs := List.getElem_mem _
    generalize cs[t.toNat] = p at ht hmem
    obtain ⟨n, a⟩ := p
    obtain ⟨u, hu1, hu2⟩ := prs.get ht
    have et : t = ((t.toNat : Nat) : Int) := by omega
    have hnn : PyData.strOk n = true := nm_ok n (hnm (n, a) hmem)
    have atu : atI xs t = some (.ref u) := by rw [et]; exact atI_nat hu1
    have ixr : ∀ {Q' : VK}, Q' (.ref u) H → rIxL K (.ref c) (.int t) H Q' ∨ rIxT K (.ref c) (.int t) H Q' ∨ rIxS (.ref c) (.int t) H Q' := fun q => sq.elim (fun w => .inl ⟨_, _, _, _, rfl, rfl, w, atu, q⟩) fun w => .inr (.inl ⟨_, _, _, _, rfl, rfl, w, atu, q⟩)
    refine ⟨_, rfl, x, C_Checker, dx, _, _, rfl, ho, T.cl_Checker, T.a_Checker_code, rfl, _, rfl, ixr ?_⟩
    refine ⟨by show 2 ≤ sizeLine; decide, fun w nw => ?_⟩
    have k1 : Keep [] H (upd H w (.tup [.str "unit", .int 0])) := Keep.new nw
    refine ⟨_, _, dpIns (k1 _ _ hu2 (by simp)), dpIns upd_same, shp hnn, shp (by decide +kernel), _, rfl, ?_⟩
    rw [eqv_ins]
    have kk := k _ k1
    rw [decide_eq_true (show 0 ≤ t ∧ t < i from ⟨h1, h2⟩), ht] at kk
    refine iteN (fun e => ?_) (fun e => ?_)
    · rw [decide_eq_false (fun z => e (Option.some.inj z))] at kk
      exact kk
    · rw [decide_eq_true (congrArg some e)] at kk
      have hC1 := hC.keep0 k1
      obtain ⟨dx1, ho1⟩ := hC1.o
      obtain ⟨v', hv'⟩ := Option.isSome_iff_exists.mp (hall t h1 h2)
      have g1 := hC1.d.get t
      have g2 := hC1.d.get i
      rw [hv'] at g1
      rw [hv] at g2
      refine ⟨_, rfl, x, C_Checker, dx1, _, _, rfl, ho1, T.cl_Checker, T.a_Checker_heights, rfl, _, rfl, d, _, rfl, g1, _, rfl, x, C_Checker, dx1, _, _, rfl, ho1, T.cl_Checker, T.a_Checker_heights, rfl, _, rfl, d, _, rfl, g2, rfl, ?_⟩
      have e2 : decide (h t = h i) = decide (V.int v' = V.int v) := by
        rw [hv', hv]; simp
      rw [e2] at kk
      exact kk
end

theorem ChkAt.setTop {C : Addr} {H : Hp} {x c d : Addr} {cs : List In2} {sl mo : Int} {b : Bool} {h : Hts} {top top' : Int} {m : Nat} {dx : Addr} (z : ChkAt C H x c d cs sl mo b h top m) (ho : H x = some (.ins C dx (chkF c d sl mo b top))) : ChkAt C (upd H x (.ins C dx (chkF c d sl mo b top'))) x c d cs sl mo b h top' m := by
  obtain ⟨_, ⟨xs, h1, h2⟩, ⟨kvs, d1, d2⟩⟩ := z
  refine ⟨⟨dx, upd_same⟩, ⟨xs, ?_, h2.tk fun e ys q => by rw [upd_ne (ne_of q ho (by intro z; cases z))]; exact q⟩, ⟨kvs, by rw [upd_ne (ne_of d1 ho (by intro z; cases z))]; exact d1, d2⟩⟩
  rcases h1 with h1 | h1
  · left; rw [upd_ne (ne_of h1 ho (by intro z; cases z))]; exact h1
  · right; rw [upd_ne (ne_of h1 ho (by intro z; cases z))]; exact h1
theorem HtsAt.mono {H : Hp} {d : Addr} {h : Hts} {m m' : Nat} (z : HtsAt H d h m) (e : m ≤ m') : HtsAt H d h m' := by
  obtain ⟨kvs, h1, h2, h3⟩ := z
  exact ⟨kvs, h1, Nat.le_trans h2 e, h3⟩
theorem ChkAt.mono {C : Addr} {H : Hp} {x c d : Addr} {cs : List In2} {sl mo : Int} {b : Bool} {h : Hts} {top : Int} {m m' : Nat} (z : ChkAt C H x c d cs sl mo b h top m) (e : m ≤ m') : ChkAt C H x c d cs sl mo b h top m' := ⟨z.o, z.c, z.d.mono e⟩
def EffOk (K : PySem.W.Frag) (w : World) (TE : Addr) : Prop := ∀ n ∈ allNm, ∃ tp, KDct K w TE n (.ref tp) ∧ ∀ H : Hp, SqT K H tp [.int (eff n).1, .int (eff n).2]
theorem nms_all : ∀ b : Bool, ∀ n ∈ nmsOf b, n ∈ allNm := by decide +kernel
theorem tgts_len (i : Int) (n : Str) (a : Int) : (tgts i n a).length ≤ 2 := by
  unfold tgts
  split
  · simp
  · split
    · simp
    · split <;> simp
def sp_good (C : Addr) : Sp := fun vs H Q _ => ∃ (x c d : Addr) (cs : List In2) (sl mo : Int) (b : Bool) (h : Hts) (top : Int) (m : Nat) (i : Nat) (n : Str) (a : Int), vs = [.ref x, .int (i : Int)] ∧ ChkAt C H x c d cs sl mo b h top m ∧ NmOk cs ∧ cs[i]? = some (n, a) ∧ m + 2 < 1000000 ∧ cs.length ≤ 1000000 ∧ (∀ j : Int, 0 ≤ j → j < (i : Int) → (h j).isSome) ∧
  ((∀ r H', good1 cs sl mo b (i : Int) n a h top = some r → ChkAt C H' x c d cs sl mo b r.1 r.2 (m + 2) → Keep [x, d] H H' → Q (.bl true) H') ∧ (∀ H', good1 cs sl mo b (i : Int) n a h top = none → Keep [x, d] H H' → Q (.bl false) H'))
section
variable {P : Program} {w : World} {K : PySem.W.Frag} {mg : Str → Option Value} {base : Heap} {C_Tape : Addr} {C_Thinker : Addr} {C_Brain : Addr} {C_Mind : Addr} {C_Frame : Addr} {C_Thinking : Addr} {C_Checker : Addr} {C_GameError : Addr} {C_BadCode : Addr} {f_BadCode___init : Addr} {T_EVENTS : Addr} {T_SIGNS : Addr} {T_ROUND_NAMES : Addr} {T_BRAIN_NAMES : Addr} {T_EFFECTS : Addr}
theorem ok_good {f : Addr} {fd : FuncData} (me : Meth K C_Checker "good" f) (F : C8.Fun K "good" "Checker.good" s_Checker_good f fd) (b : Binds K fd ["self", "at"] []) (T : Txt K mg C_Tape C_Thinker C_Brain C_Mind C_Frame C_Thinking C_Checker C_GameError C_BadCode T_EVENTS T_SIGNS T_ROUND_NAMES T_BRAIN_NAMES T_EFFECTS) (hE : EffOk K w T_EFFECTS) (c_argument_fits : C8.Cal P w K mg base 1 "argument_fits" (sp_fits K) []) (c_targets_of : C8.Cal P w K mg base 1 "targets_of" (sp_tgts K) [])
    (c_Checker_returns : C8.Met P w K mg base 1 C_Checker "returns" (sp_returns C_Checker) []) (c_Checker_reaches : C8.Met P w K mg base 1 C_Checker "reaches" (sp_reaches C_Checker) []) : C8.Met P w K mg base 2 C_Checker "good" (sp_good C_Checker) [] := by
  refine met0 T.cl_Checker me F b sc_Checker_good (fun vs H Q E h => ?_) (fun cdv A outer s H vs Q E hr h => ?_)
  · obtain ⟨x, c, d, cs, sl, mo, b, h, top, m, i, n, a, rfl, _⟩ := h
    rfl
  · obtain ⟨x, c, d, cs, sl, mo, b, h, top, m, i, n, a, rfl, hC, hnm, hi, hm, hn, hall, kT, kF⟩ := h
    have hu := hu_of hr
    refine ⟨_, (pss_cut (ps_set (i := 2) sc_Checker_good.nd rfl (by first | exact Or.inl rfl | exact Or.inr rfl) (pe_ifExp (pt_val (pe_fld (pv 0) rfl)) (pe_gc rfl T.v_BRAIN_NAMES) (pe_gc rfl T.v_ROUND_NAMES)))
(pss_cons (ps_set (i := 3) sc_Checker_good.nd rfl (by first | exact Or.inl rfl | exact Or.inr rfl) (pe_ix ix_seq (pe_fld (pv 0) rfl) (pv 1) (fun _ _ => rfl)))
(pss_cons (ps_if (PW.pt (pw_or (pt_cmp (pc_dnotin hu (pv 1) (pe_fld (pv 0) rfl))) (pw_or1 (pt_cmpR op_notIn_seq (pe_ix ix_tup (pv 3) pe_int (fun _ _ => rfl)) (pv 2) (by rfl)))))
  (pss_one (ps_ret pe_bl))
  pss_nil)
(pss_cons (ps_if (pt_not (pt_val (pe_c c_argument_fits hr (by first | exact Nat.le_refl _ | decide | omega) rfl (pa_cons (pv 3) (pa_cons (pe_fld (pv 0) rfl) (pa_cons (pe_fld (pv 0) rfl) pa_nil))))))
  (pss_one (ps_ret pe_bl))
  pss_nil)
(pss_cons (ps_asg (pe_ix ix_kdict (pe_gc rfl T.v_EFFECTS) (pe_ix ix_tup (pv 3) pe_int (fun _ _ => rfl)) (fun _ _ => rfl)) (pg_tup (by rfl) (pgs_cons (pg_name (i := 4) sc_Checker_good.nd rfl (by first | exact Or.inl rfl | exact Or.inr rfl)) (pgs_cons (pg_name (i := 5) sc_Checker_good.nd rfl (by first | exact Or.inl rfl | exact Or.inr rfl)) pgs_nil))))
(pss_cons (ps_set (i := 6) sc_Checker_good.nd rfl (by first | exact Or.inl rfl | exact Or.inr rfl) (pe_dget hu (pe_fld (pv 0) rfl) (pv 1) (fun _ _ => rfl)))
(pss_cons (ps_set (i := 7) sc_Checker_good.nd rfl (by first | exact Or.inl rfl | exact Or.inr rfl) (pe_op op_add (pe_op op_sub (pv 6) (pv 4)) (pv 5)))
(pss_cons (ps_if (PW.pt (pw_or (pt_cmpR op_lt (pv 6) (pv 4) (nomark _)) (pw_or1 (pt_cmpR op_gt (pv 7) (pe_gc rfl T.v_HIGHEST) (nomark _)))))
  (pss_one (ps_ret pe_bl))
  pss_nil)
(pss_cons (ps_fld (pv 0) (pe_callB (call_max2 rfl) (by rfl) T.n_max bo_max (pa_cons (pe_fld (pv 0) rfl) (pa_cons (pv 7) pa_nil))) rfl)
(pss_cons (ps_if (pt_cmpR op_eq (pe_ix ix_tup (pv 3) pe_int (fun _ _ => rfl)) pe_str (nomark _))
  (pss_one (ps_ret (pe_cmpR op_eq (pv 6) (pe_callTy call_int1 (by rfl) T.n_int bo_int (pa_cons (pe_fld (pv 0) rfl) pa_nil)) (nomark _))))
  pss_nil)
(pss_cons (ps_if (pt_cmpR op_eq (pe_ix ix_tup (pv 3) pe_int (fun _ _ => rfl)) pe_str (nomark _))
  (pss_one (ps_ret (pe_mt c_Checker_returns hr (by first | exact Nat.le_refl _ | decide | omega) (pv 0) (pa_cons (pv 1) (pa_cons (pe_op op_sub (pv 1) (pe_ix ix_tup (pv 3) pe_int (fun _ _ => rfl))) pa_nil)))))
  pss_nil)
(pss_one (ps_ret (pe_mt c_Checker_reaches hr (by first | exact Nat.le_refl _ | decide | omega) (pv 0) (pa_cons (pe_c c_targets_of hr (by first | exact Nat.le_refl _ | decide | omega) rfl (pa_cons (pv 1) (pa_cons (pv 3) pa_nil))) (pa_cons (pv 7) pa_nil)))))))))))))))), ?_⟩
    obtain ⟨dx, ho⟩ := hC.o
    obtain ⟨xs, sq, prs⟩ := hC.sq (K := K)
    have nx : ∀ {H1 H2 : Hp}, Keep [] H1 H2 → Keep [x, d] H1 H2 := fun k => k.mono (by simp)
    -- the names
    refine ⟨fun σ H' => H' = H ∧ ∃ tn : Addr, (∀ H0 : Hp, SqT K H0 tn ((nmsOf b).map V.str)) ∧ σ = [some (.ref x), some (.int (i : Int)), some (.ref tn), none, none, none, none, none], ?_, ?_⟩
    · refine ⟨_, rfl, x, C_Checker, dx, _, _, rfl, ho, T.cl_Checker, T.a_Checker_thinking, rfl, _, rfl, iteB (fun e => ?_) (fun e => ?_)⟩
      · subst e; exact ⟨rfl, _, T.q_BRAIN_NAMES, rfl⟩
      · subst e; exact ⟨rfl, _, T.q_ROUND_NAMES, rfl⟩
    rintro σ H' ⟨rfl, tn, htn, rfl⟩
    obtain ⟨u, hu1, hu2⟩ := prs.get hi
    have ixr : ∀ {Q' : VK}, Q' (.ref u) H' → rIxL K (.ref c) (.int (i : Int)) H' Q' ∨ rIxT K (.ref c) (.int (i : Int)) H' Q' ∨ rIxS (.ref c) (.int (i : Int)) H' Q' := fun q => sq.elim (fun w => .inl ⟨_, _, _, _, rfl, rfl, w, atI_nat hu1, q⟩) fun w => .inr (.inl ⟨_, _, _, _, rfl, rfl, w, atI_nat hu1, q⟩)
    refine ⟨_, rfl, x, C_Checker, dx, _, _, rfl, ho, T.cl_Checker, T.a_Checker_code, rfl, _, rfl, ixr ?_⟩
    have hg := hC.d.get (i : Int)
    unfold good1 at kT kF
    refine ⟨_, rfl, _, rfl, x, C_Checker, dx, _, _, rfl, ho, T.cl_Checker, T.a_Checker_heights, rfl, d, _, rfl, hg, _, rfl, ?_⟩
    cases hv : h (i : Int) with
    | none =>
      simp only [hv] at kF
      exact iteT (kF _ trivial (Keep.refl _ _))
    | some v =>
      rw [hv] at hg
      simp only [hv] at kT kF
      refine iteF ?_
      refine ⟨_, rfl, _, _, _, _, rfl, rfl, SqT.of hu2, rfl, _, rfl, _, _, rfl, .inr (htn _), rfl, flat_strs _, _, rfl, iteB (fun e => ?_) (fun e => ?_)⟩
      · have e' : (!inV (.str n) ((nmsOf b).map V.str)) = true := e
        rw [inV_strs] at e'
        have hno : n ∉ nmsOf b := by simpa using e'
        rw [if_pos hno] at kF
        exact kF _ rfl (Keep.refl _ _)
      have e' : (!inV (.str n) ((nmsOf b).map V.str)) = false := e
      rw [inV_strs] at e'
      have hin : n ∈ nmsOf b := by simpa using e'
      rw [if_neg (fun z => z hin)] at kT kF
      refine ⟨_, rfl, _, rfl, x, C_Checker, dx, _, _, rfl, ho, T.cl_Checker, T.a_Checker_slots, rfl, _, rfl, x, C_Checker, dx, _, _, rfl, ho, T.cl_Checker, T.a_Checker_moves, rfl, u, n, a, sl, mo, rfl, hu2, _, rfl, ?_⟩
      cases hf : fitsA n a sl mo with
      | false =>
        rw [if_pos hf] at kF
        exact iteT (kF _ rfl (Keep.refl _ _))
      | true =>
        rw [if_neg (by rw [hf]; simp)] at kT kF
        refine iteF ?_
        obtain ⟨tp, hkd, hsq⟩ := hE n (nms_all b n hin)
        refine ⟨_, rfl, _, _, _, _, rfl, rfl, SqT.of hu2, rfl, T_EFFECTS, n, _, rfl, rfl, hkd, tp, _, rfl, hsq _, rfl, _, _, rfl, _, _, rfl, rfl, ?_⟩
        refine ⟨_, rfl, x, C_Checker, dx, _, _, rfl, ho, T.cl_Checker, T.a_Checker_heights, rfl, _, rfl, d, _, rfl, hg, ?_⟩
        refine ⟨_, rfl, _, rfl, _, _, rfl, rfl, _, rfl, _, _, rfl, rfl, ?_⟩
        have bad : (v < (eff n).1 ∨ v - (eff n).1 + (eff n).2 > 16) → Q (.bl false) H' := fun z => by
          rw [if_pos z] at kF
          exact kF _ rfl (Keep.refl _ _)
        refine ⟨_, rfl, _, rfl, _, _, rfl, rfl, _, rfl, iteD (fun z => bad (.inl z)) (fun z1 => ⟨_, rfl, _, _, rfl, rfl, _, rfl, iteD (fun z => bad (.inr z)) (fun z2 => ?_)⟩)⟩
        rw [if_neg (fun z => z.elim z1 z2)] at kT kF
        refine ⟨_, rfl, x, C_Checker, dx, _, _, rfl, ho, T.cl_Checker, T.a_Checker_highest, rfl, _, rfl, _, _, rfl, _, rfl, x, C_Checker, dx, _, rfl, ho, T.cl_Checker, T.a_Checker_highest, by show 6 < 1000; decide, ?_⟩
        have hC1 := hC.setTop (top' := if v - (eff n).1 + (eff n).2 > top then v - (eff n).1 + (eff n).2 else top) ho
        have K1 : Keep [x, d] H' (upd H' x (.ins C_Checker dx (chkF c d sl mo b (if v - (eff n).1 + (eff n).2 > top then v - (eff n).1 + (eff n).2 else top)))) := Keep.at_ (by simp)
        have K0 : ∀ {e : Addr} {ys : List V}, H' e = some (.tup ys) → upd H' x (.ins C_Checker dx (chkF c d sl mo b (if v - (eff n).1 + (eff n).2 > top then v - (eff n).1 + (eff n).2 else top))) e = some (.tup ys) := fun q => by
          rw [upd_ne (ne_of q ho (by intro z; cases z))]; exact q
        have hu3 := K0 hu2
        have ho1 : upd H' x (.ins C_Checker dx (chkF c d sl mo b (if v - (eff n).1 + (eff n).2 > top then v - (eff n).1 + (eff n).2 else top))) x = some (.ins C_Checker dx (chkF c d sl mo b (if v - (eff n).1 + (eff n).2 > top then v - (eff n).1 + (eff n).2 else top))) := upd_same
        refine ⟨_, rfl, _, _, _, _, rfl, rfl, SqT.of hu3, rfl, rfl, _, rfl, iteD (fun e1 => ?_) (fun e1 => ?_)⟩
        · have e1 := V.str.inj e1
          refine ⟨_, rfl, _, rfl, x, C_Checker, dx, _, _, rfl, ho1, T.cl_Checker, T.a_Checker_thinking, rfl, .inr ⟨_, rfl, rfl, ?_⟩⟩
          rw [if_pos e1] at kT kF
          have eb : decide (V.int v = V.int (if b = true then 1 else 0)) = decide (v = b2i' b) := by
            unfold b2i'
            simp
          rw [eb]
          by_cases hb : v = b2i' b
          · rw [if_pos hb] at kT
            rw [decide_eq_true hb]
            exact kT _ _ rfl (hC1.mono (by omega)) K1
          · rw [if_neg hb] at kF
            rw [decide_eq_false hb]
            exact kF _ rfl K1
        have e1 : ¬ n = "end" := fun z => e1 (congrArg V.str z)
        rw [if_neg e1] at kT kF
        refine ⟨_, rfl, _, _, _, _, rfl, rfl, SqT.of hu3, rfl, rfl, _, rfl, iteD (fun e2 => ?_) (fun e2 => ?_)⟩
        · have e2 := V.str.inj e2
          rw [if_pos e2] at kT kF
          have hil : (i : Int) < (cs.length : Int) := by
            have := (List.getElem?_eq_some_iff.mp hi).1
            omega
          refine ⟨_, rfl, x, dx, _, rfl, ho1, rfl, _, rfl, _, rfl, _, rfl, _, _, _, _, rfl, rfl, SqT.of hu3, rfl, _, _, rfl, rfl, x, c, d, cs, sl, mo, b, h, _, m, (i : Int), (i : Int) - a, v, rfl, hC1, hnm, hil, hv, hall, fun H2 K2 => ?_⟩
          cases hb : backOk cs h (i : Int) ((i : Int) - a) with
          | true =>
            rw [if_pos hb] at kT
            exact kT _ _ rfl ((hC1.keep0 K2).mono (by omega)) (K1.trans (nx K2))
          | false =>
            rw [if_neg (by rw [hb]; simp)] at kF
            exact kF _ rfl (K1.trans (nx K2))
        have e2 : ¬ n = "back" := fun z => e2 (congrArg V.str z)
        rw [if_neg e2] at kT kF
        refine ⟨_, rfl, x, dx, _, rfl, ho1, rfl, _, rfl, _, rfl, u, n, a, (i : Int), rfl, hu3, fun l H2 nl hl K2 => ?_⟩
        have hC2 := hC1.keep0 K2
        have hlen := tgts_len (i : Int) n a
        refine ⟨_, rfl, x, c, d, l, cs, sl, mo, b, h, _, m, tgts (i : Int) n a, v - (eff n).1 + (eff n).2, rfl, hC2, hl, by omega, hn, fun h' H3 er hC3 K3 => ?_, fun H3 er K3 => ?_⟩
        · rw [er] at kT
          exact kT _ _ rfl (hC3.mono (by omega)) ((K1.trans (nx K2)).trans (K3.mono (by simp)))
        · rw [er] at kF
          exact kF _ rfl ((K1.trans (nx K2)).trans (K3.mono (by simp)))
end

theorem reach_mono {len : Nat} {v : Int} : ∀ (ts : List Int) {h h' : Hts}, reach len v ts h = some h' → ∀ j, (h j).isSome → (h' j).isSome
  | [], h, h', e, j, hj => by cases e; exact hj
  | t :: ts, h, h', e, j, hj => by
    unfold reach at e
    split at e
    · cases e
    · refine reach_mono ts e j ?_
      unfold setH
      split
      · rfl
      · exact hj
theorem good1_mono {cs : List In2} {sl mo : Int} {b : Bool} {i : Int} {n : Str} {a : Int} {h : Hts} {top : Int} {r : Hts × Int} (e : good1 cs sl mo b i n a h top = some r) : (h i).isSome ∧ ∀ j, (h j).isSome → (r.1 j).isSome := by
  unfold good1 at e
  cases hv : h i with
  | none => simp [hv] at e
  | some v =>
    refine ⟨rfl, ?_⟩
    simp only [hv] at e
    split at e
    · cases e
    split at e
    · cases e
    split at e
    · cases e
    split at e
    · split at e
      · cases e; exact fun j hj => hj
      · cases e
    split at e
    · split at e
      · cases e; exact fun j hj => hj
      · cases e
    rw [Option.map_eq_some_iff] at e
    obtain ⟨h', e1, rfl⟩ := e
    exact reach_mono _ e1
def BadAt (cs : List In2) (sl mo : Int) (b : Bool) (i : Nat) : Prop := (cs = [] ∧ i = 0) ∨ (i < cs.length ∧ (∃ s, upto cs sl mo b i = some s) ∧ upto cs sl mo b (i + 1) = none)
def sp_check (CB : Addr) : Sp := fun vs H Q E => ∃ (c : Addr) (cs : List In2) (sl mo : Int) (b : Bool), vs = [.ref c, .int sl, .int mo, .bl b] ∧ CodeAt H c cs ∧ NmOk cs ∧ cs.length ≤ 200000 ∧
  (∀ s H', cs ≠ [] → upto cs sl mo b cs.length = some s → Keep [] H H' → Q (.int s.2) H') ∧ (∀ (i : Nat) d H', BadAt cs sl mo b i → H d = none → H' d = some (.xd [(("at" : Str), .int (i : Int))]) → Keep [] H H' → E (.ref CB) (some d) H')
section
variable {P : Program} {w : World} {K : PySem.W.Frag} {mg : Str → Option Value} {base : Heap} {C_Tape : Addr} {C_Thinker : Addr} {C_Brain : Addr} {C_Mind : Addr} {C_Frame : Addr} {C_Thinking : Addr} {C_Checker : Addr} {C_GameError : Addr} {C_BadCode : Addr} {f_BadCode___init : Addr} {T_EVENTS : Addr} {T_SIGNS : Addr} {T_ROUND_NAMES : Addr} {T_BRAIN_NAMES : Addr} {T_EFFECTS : Addr}
theorem ok_check {f : Addr} {fd : FuncData} (D : C8.Def K mg "check_code" s_check_code f fd) (T : Txt K mg C_Tape C_Thinker C_Brain C_Mind C_Frame C_Thinking C_Checker C_GameError C_BadCode T_EVENTS T_SIGNS T_ROUND_NAMES T_BRAIN_NAMES T_EFFECTS) (X_BadCode : SupX_BadCode.Txt P K mg "BadCode" C_BadCode f_BadCode___init) (c_Checker : C8.Mak P w K mg base 1 "Checker" C_Checker (sp_chk C_Checker) [])
    (c_Checker_good : C8.Met P w K mg base 2 C_Checker "good" (sp_good C_Checker) []) : FnOk P w K mg base (L2.CX P w) 3 f fd ["code", "slots", "moves", "thinking"] (sp_check C_BadCode) := by
  refine fnx D.fn sc_check_code (fun vs H Q E h => ?_) (fun cdv A outer s H vs Q E hr h => ?_)
  · obtain ⟨c, cs, sl, mo, b, rfl, _⟩ := h
    rfl
  · obtain ⟨c, cs, sl, mo, b, rfl, hc, hnm, hn, kQ, kE⟩ := h
    refine ⟨_, (pss_cons (ps_if (pt_not (pt_truth (pv 0) (by intro _; rfl)))
  (pss_one (SupX_BadCode.ps_raiseE rfl X_BadCode hr (takes_of rfl rfl rfl rfl) (pa_cons pe_int pa_nil)))
  pss_nil)
(pss_cons (ps_set (i := 4) sc_check_code.nd rfl (by first | exact Or.inl rfl | exact Or.inr rfl) (pe_mk c_Checker hr (by first | exact Nat.le_refl _ | decide | omega) rfl (pa_cons (pv 0) (pa_cons (pv 1) (pa_cons (pv 2) (pa_cons (pv 3) pa_nil))))))
(pss_cons (ps_for (passes_of rfl) rfl (pi_range1 (by rfl) T.n_range (pa_cons (pe_callB call_len_seq (by rfl) T.n_len bo_len (pa_cons (pv 0) pa_nil)) pa_nil)) (pg_name (i := 5) sc_check_code.nd rfl (by first | exact Or.inl rfl | exact Or.inr rfl))
  (pss_one (ps_if (pt_not (pt_truth (pe_mt c_Checker_good hr (by first | exact Nat.le_refl _ | decide | omega) (pv 4) (pa_cons (pv 5) pa_nil)) (by intro _; rfl)))
    (pss_one (SupX_BadCode.ps_raiseE rfl X_BadCode hr (takes_of rfl rfl rfl rfl) (pa_cons (pv 5) pa_nil)))
    pss_nil)))
(pss_one (ps_ret (pe_fld (pv 4) rfl)))))), ?_⟩
    obtain ⟨xs, h1, prs⟩ := id hc
    have hlen := prs.len
    have sq : ∀ {H' : Hp}, Keep [] H H' → SqL K H' c xs ∨ SqT K H' c xs := fun k => h1.elim (fun z => .inl (SqL.of (k _ _ z (by simp)))) fun z => .inr (SqT.of (k _ _ z (by simp)))
    refine ⟨_, rfl, !xs.isEmpty, (sq (Keep.refl _ _)).elim (fun z => .inl ⟨xs, z, rfl⟩) (fun z => .inr (.inl ⟨xs, z, rfl⟩)), iteB (fun e => ?_) (fun e => ?_)⟩
    · refine ⟨_, rfl, fun d nd => kE 0 d _ (.inl ⟨?_, rfl⟩) nd upd_same (Keep.new nd)⟩
      have : xs = [] := by
        cases xs with
        | nil => rfl
        | cons y r => simp at e
      rw [this] at hlen
      exact List.eq_nil_of_length_eq_zero hlen.symm
    have hne : cs ≠ [] := fun z => by
      rw [z] at hlen
      have : xs = [] := List.eq_nil_of_length_eq_zero hlen
      rw [this] at e
      cases e
    refine ⟨_, rfl, _, rfl, _, rfl, _, rfl, fun x dx nx nd ne => ⟨x, dx, c, cs, sl, mo, b, rfl, upd_same, hc.keep (Keep.made nx nd) (Keep.made nx nd).tk (by simp), fun d H2 nd2 K2 hC => ⟨rfl, ?_⟩⟩⟩
    have K02 := keep_made nx nd K2
    have nd2' : H d = none := (Keep.made (o := .ins C_Checker dx []) nx nd).free nd2
    refine ⟨_, rfl, _, _, rfl, sq K02, _, rfl, by omega, by omega, ?_⟩
    rw [hlen]
    refine for_range (lo := 0) (n := cs.length) (fun i σ H' => ∃ (st : Hts × Int) (o5 : Option V), σ = [some (.ref c), some (.int sl), some (.int mo), some (.bl b), some (.ref x), o5] ∧ upto cs sl mo b i = some st ∧ ChkAt C_Checker H' x c d cs sl mo b st.1 st.2 (1 + 2 * i) ∧ (∀ j : Int, 0 ≤ j → j < (i : Int) → (st.1 j).isSome) ∧ Keep [] H H')
      ⟨(h0, 0), none, rfl, rfl, hC, fun j h1 h2 => by omega, K02⟩ ?_ ?_
    · rintro i σ H' hi ⟨st, o5, rfl, hst, hC', hall, kk⟩
      have e0 : (0 : Int) + (i : Int) = (i : Int) := by omega
      rw [e0]
      have hget : cs[i]? = some cs[i] := List.getElem?_eq_getElem hi
      generalize cs[i] = p at hget
      obtain ⟨n, a⟩ := p
      have hup : upto cs sl mo b (i + 1) = good1 cs sl mo b (i : Int) n a st.1 st.2 := by
        show (match upto cs sl mo b i, cs[i]? with | some s, some p => good1 cs sl mo b (i : Int) p.1 p.2 s.1 s.2 | _, _ => none) = _
        rw [hst, hget]
      obtain ⟨dx', ho⟩ := hC'.o
      have kown : ∀ {H2 : Hp}, Keep [x, d] H' H2 → Keep [] H H2 := fun k2 e o he hw => k2 e o (kk e o he (by simp)) (by simp [ne_of_none he nx, ne_of_none he nd2'])
      refine ⟨_, rfl, x, dx', _, rfl, ho, rfl, _, rfl, x, c, d, cs, sl, mo, b, st.1, st.2, _, i, n, a, rfl, hC', hnm, hget, by omega, by omega, hall, fun r H2 er hC2 K2 => ⟨_, rfl, iteF (A := True) ?_⟩, fun H2 er K2 => ⟨_, rfl, iteT (B := True) ?_⟩⟩
      · have mono := good1_mono er
        refine ⟨r, _, rfl, hup.trans er, hC2.mono (by omega), fun j j0 j1 => ?_, kown K2⟩
        by_cases z : j = (i : Int)
        · rw [z]; exact mono.2 _ mono.1
        · exact mono.2 _ (hall j j0 (by omega))
      · exact ⟨_, rfl, _, rfl, fun d2 nd3 => kE i d2 _ (.inr ⟨hi, ⟨st, hst⟩, hup.trans er⟩) ((kown K2).free nd3) upd_same ((kown K2).then_new nd3)⟩
    · rintro σ H' ⟨st, o5, rfl, hst, hC', hall, kk⟩
      obtain ⟨dx', ho⟩ := hC'.o
      exact ⟨_, rfl, x, C_Checker, dx', _, _, rfl, ho, T.cl_Checker, T.a_Checker_highest, rfl, kQ st _ hne hst kk⟩
end

def rowsL : List Str := ["sign:21", "store:10", "skip:10", "lot:11", "show:10", "pay:10", "take:10", "view:11", "push:01", "load:01", "ask:01", "long:01"]
def rowNm (r : Str) : Str := cutS r none (some ((r.length : Int) - 3))
def rowA (r : Str) (k : Nat) : Nat := r.cps.toList.getD (r.length - k) 0
def takesL (n : Str) : Int × Int := match rowsL.find? (fun r => decide (rowNm r = n)) with
  | some r => ((rowA r 2 : Int) - 48, (rowA r 1 : Int) - 48)
  | none => (0, 0)
theorem rows_ok : ∀ r ∈ rowsL, r.length ≤ 20 ∧ atI r.cps.toList ((r.length : Int) - 2) = some (rowA r 2) ∧ atI r.cps.toList ((r.length : Int) - 1) = some (rowA r 1) := by decide +kernel
theorem takes_eff : ∀ n ∈ allNm ++ (["", "halt", "push ", "pushes"] : List Str), takesL n = eff n := by decide +kernel
theorem rows_split : Txt.split "sign:21 store:10 skip:10 lot:11 show:10 pay:10 take:10 view:11 push:01 load:01 ask:01 long:01" " " = rowsL := by decide +kernel
theorem names_split : Txt.split "push load store sign jump skip lot end ask show pay take view long unit back" " " = allNm := by decide +kernel
def sp_names : Sp := fun vs H Q _ => vs = [] ∧ ∀ l H', H l = none → H' l = some (.lst (allNm.map V.str)) → Keep [] H H' → Q (.ref l) H'
def sp_takes : Sp := fun vs H Q _ => ∃ n, vs = [.str n] ∧ ∀ t H', H t = none → H' t = some (.tup [.int (takesL n).1, .int (takesL n).2]) → Keep [] H H' → Q (.ref t) H'
def sp_arg : Sp := fun vs H Q _ => ∃ (t : Addr) (n : Str) (a sl mo : Int), vs = [.ref t, .int sl, .int mo] ∧ H t = some (.tup [.str n, .int a]) ∧ ∀ H', Keep [] H H' → Q (.bl (fitsA n a sl mo)) H'
section
variable {P : Program} {w : World} {K : PySem.W.Frag} {mg : Str → Option Value} {base : Heap} {C_Tape : Addr} {C_Thinker : Addr} {C_Brain : Addr} {C_Mind : Addr} {C_Frame : Addr} {C_Thinking : Addr} {C_Checker : Addr} {C_GameError : Addr} {C_BadCode : Addr} {f_BadCode___init : Addr} {T_EVENTS : Addr} {T_SIGNS : Addr} {T_ROUND_NAMES : Addr} {T_BRAIN_NAMES : Addr} {T_EFFECTS : Addr}
theorem ok_law_names {f : Addr} {fd : FuncData} (D : C8.Def K mg "_law_names_of_code" s_law_names_of_code f fd) (b : Binds K fd [] []) (T : Txt K mg C_Tape C_Thinker C_Brain C_Mind C_Frame C_Thinking C_Checker C_GameError C_BadCode T_EVENTS T_SIGNS T_ROUND_NAMES T_BRAIN_NAMES T_EFFECTS) : C8.Cal P w K mg base 1 "_law_names_of_code" sp_names [] := by
  refine cal0 D b .nil sc_law_names_of_code (fun vs H Q E h => ?_) (fun cdv A outer s H vs Q E hr h => ?_)
  · rw [h.1]; rfl
  · obtain ⟨rfl, k⟩ := h
    refine ⟨_, (pss_cons (ps_set (i := 0) sc_law_names_of_code.nd rfl (by first | exact Or.inl rfl | exact Or.inr rfl) pe_str)
(pss_one (ps_ret (pe_split (pv 0) pe_str)))), ?_⟩
    refine ⟨_, rfl, ⟨_, rfl⟩, _, _, rfl, rfl, by decide +kernel, smallM (by decide +kernel), fun p np => k p _ np ?_ (Keep.new np)⟩
    rw [names_split]; exact upd_same
theorem ok_law_takes {f : Addr} {fd : FuncData} (D : C8.Def K mg "_law_takes" s_law_takes f fd) (b : Binds K fd ["name"] []) (T : Txt K mg C_Tape C_Thinker C_Brain C_Mind C_Frame C_Thinking C_Checker C_GameError C_BadCode T_EVENTS T_SIGNS T_ROUND_NAMES T_BRAIN_NAMES T_EFFECTS) : C8.Cal P w K mg base 1 "_law_takes" sp_takes [] := by
  refine cal0 D b .nil sc_law_takes (fun vs H Q E h => ?_) (fun cdv A outer s H vs Q E hr h => ?_)
  · obtain ⟨n, rfl, _⟩ := h
    rfl
  · obtain ⟨n, rfl, k⟩ := h
    refine ⟨_, (pss_cons (ps_set (i := 1) sc_law_takes.nd rfl (by first | exact Or.inl rfl | exact Or.inr rfl) pe_str)
(pss_cons (ps_for PassesOwn.never rfl (pi_list (pe_split (pv 1) pe_str)) (pg_name (i := 2) sc_law_takes.nd rfl (by first | exact Or.inl rfl | exact Or.inr rfl))
  (pss_one (ps_if (pt_cmpR op_eq (pe_slice sl_str (pv 2) po_none (po_some (pe_op op_sub (pe_callB call_len_str (by rfl) T.n_len bo_len (pa_cons (pv 2) pa_nil)) pe_int))) (pv 0) (nomark _))
    (pss_one (ps_ret (pe_tup (pa_cons (pe_op op_sub (pe_callB call_ord (by rfl) T.n_ord bo_ord (pa_cons (pe_ix ix_str (pv 2) (pe_op op_sub (pe_callB call_len_str (by rfl) T.n_len bo_len (pa_cons (pv 2) pa_nil)) pe_int) (fun _ _ => rfl)) pa_nil)) pe_int) (pa_cons (pe_op op_sub (pe_callB call_ord (by rfl) T.n_ord bo_ord (pa_cons (pe_ix ix_str (pv 2) (pe_op op_sub (pe_callB call_len_str (by rfl) T.n_len bo_len (pa_cons (pv 2) pa_nil)) pe_int) (fun _ _ => rfl)) pa_nil)) pe_int) pa_nil)))))
    pss_nil)))
(pss_one (ps_ret (pe_tup (pa_cons pe_int (pa_cons pe_int pa_nil))))))), ?_⟩
    refine ⟨_, rfl, ⟨_, rfl⟩, _, _, rfl, rfl, by decide +kernel, smallM (by decide +kernel), fun p np => ?_⟩
    rw [rows_split]
    refine ⟨p, rfl, ⟨_, SqL.of upd_same⟩, for_list (K := K) (a := p) (xs := rowsL.map V.str) (fun i σ H' => H' = upd H p (.lst (rowsL.map V.str)) ∧ (∃ (o1 o2 : Option V), σ = [some (.str n), o1, o2]) ∧ rowsL.find? (fun r => decide (rowNm r = n)) = (rowsL.drop i).find? (fun r => decide (rowNm r = n))) ⟨rfl, ⟨_, none, rfl⟩, rfl⟩ (fun i σ H' _ h => by rw [h.1]; exact SqL.of upd_same) ?_ ?_⟩
    · rintro i y σ H' hi ⟨rfl, ⟨o1, o2, rfl⟩, hf⟩
      obtain ⟨r, hr', rfl⟩ := strs_get hi
      obtain ⟨hlt, he⟩ := List.getElem?_eq_some_iff.mp hr'
      have hmem : r ∈ rowsL := he ▸ List.getElem_mem hlt
      obtain ⟨q1, q2, q3⟩ := rows_ok r hmem
      rw [List.drop_eq_getElem_cons hlt, he, List.find?_cons] at hf
      refine ⟨_, rfl, _, rfl, _, rfl, smallM (by omega), _, _, rfl, rfl, _, rfl, _, rfl, smallM (by omega), _, rfl, rfl, _, rfl, iteD (fun e => ?_) (fun e => ?_)⟩
      · have e : rowNm r = n := V.str.inj e
        rw [decide_eq_true e] at hf
        refine ⟨_, rfl, _, rfl, _, rfl, smallM (by omega), _, _, rfl, rfl, _, _, _, rfl, rfl, smallM (by omega), q2, _, rfl, rfl, _, _, rfl, rfl, ?_⟩
        refine ⟨_, rfl, _, rfl, _, rfl, smallM (by omega), _, _, rfl, rfl, _, _, _, rfl, rfl, smallM (by omega), q3, _, rfl, rfl, _, _, rfl, rfl, ?_⟩
        refine ⟨by show 2 ≤ sizeLine; decide, fun t nt => ?_⟩
        have kk : Keep [] H (upd (upd H p (.lst (rowsL.map V.str))) t (.tup [.int ((rowA r 2 : Int) - 48), .int ((rowA r 1 : Int) - 48)])) := (Keep.new np).then_new nt
        refine k t _ ((Keep.new (W := []) np).free nt) ?_ kk
        have : takesL n = ((rowA r 2 : Int) - 48, (rowA r 1 : Int) - 48) := by
          unfold takesL
          rw [hf]
        rw [this]; exact upd_same
      · have e' : ¬ rowNm r = n := fun z => e (congrArg V.str z)
        rw [decide_eq_false e'] at hf
        exact ⟨rfl, ⟨_, _, rfl⟩, hf⟩
    · rintro σ H' ⟨rfl, ⟨o1, o2, rfl⟩, hf⟩
      rw [List.length_map, List.drop_of_length_le (Nat.le_refl _), List.find?_nil] at hf
      refine ⟨by show 2 ≤ sizeLine; decide, fun t nt => ?_⟩
      have kk : Keep [] H (upd (upd H p (.lst (rowsL.map V.str))) t (.tup [.int 0, .int 0])) := (Keep.new np).then_new nt
      refine k t _ ((Keep.new (W := []) np).free nt) ?_ kk
      have : takesL n = (0, 0) := by
        unfold takesL
        rw [hf]
      rw [this]; exact upd_same
end

def m1 (n : Str) (a : Int) : Int := if n ∈ (["jump", "skip", "back", "push"] : List Str) then 65535 + (if a > 0 then a else 0) * (if (!decide (V.str n = V.str "push")) = true then 1 else 0) else 0
def m2 (n : Str) (a sl : Int) : Int := if n = "load" ∨ n = "store" then sl - 1 else m1 n a
def m3 (n : Str) (a sl : Int) : Int := if n = "sign" then 6 else m2 n a sl
def m4 (n : Str) (a sl : Int) : Int := if n = "show" then 2 else m3 n a sl
def m5 (n : Str) (a sl mo : Int) : Int := if n = "ask" then mo - 1 else m4 n a sl
theorem m5_fits (n : Str) (a sl mo : Int) : decide (0 ≤ a ∧ a ≤ m5 n a sl mo) = fitsA n a sl mo := by
  have dd : ∀ {p q : Prop} [Decidable p] [Decidable q], (p ↔ q) → decide p = decide q := fun h => decide_eq_decide.mpr h
  have s1 : ∀ x y : Str, x = y → (x = y) = True := fun x y h => by simp [h]
  by_cases e1 : n = "push"
  · subst e1
    have : m5 "push" a sl mo = 65535 := by
      have hm : ("push" : Str) ∈ (["jump", "skip", "back", "push"] : List Str) := by decide +kernel
      have hp : ¬ (!decide (V.str "push" = V.str "push")) = true := by simp
      unfold m5 m4 m3 m2
      rw [if_neg (by decide +kernel), if_neg (by decide +kernel), if_neg (by decide +kernel), if_neg (by decide +kernel)]
      unfold m1
      rw [if_pos hm, if_neg hp, Int.mul_zero]
      omega
    rw [this]
    unfold fitsA
    rw [if_pos rfl]
  by_cases e2 : n = "load" ∨ n = "store"
  · have : m5 n a sl mo = sl - 1 := by
      unfold m5 m4 m3 m2
      rcases e2 with rfl | rfl
      · rw [if_neg (by decide +kernel), if_neg (by decide +kernel), if_neg (by decide +kernel), if_pos (by decide +kernel)]
      · rw [if_neg (by decide +kernel), if_neg (by decide +kernel), if_neg (by decide +kernel), if_pos (by decide +kernel)]
    rw [this]
    unfold fitsA
    rw [if_neg e1, if_pos e2]
    exact dd (by omega)
  by_cases e3 : n = "sign"
  · subst e3
    have : m5 "sign" a sl mo = 6 := by
      unfold m5 m4 m3
      rw [if_neg (by decide +kernel), if_neg (by decide +kernel), if_pos rfl]
    rw [this]
    unfold fitsA
    rw [if_neg e1, if_neg e2, if_pos rfl]
    exact dd (by omega)
  by_cases e4 : n = "show"
  · subst e4
    have : m5 "show" a sl mo = 2 := by
      unfold m5 m4
      rw [if_neg (by decide +kernel), if_pos rfl]
    rw [this]
    unfold fitsA
    rw [if_neg e1, if_neg e2, if_neg e3, if_pos rfl]
  by_cases e5 : n = "ask"
  · subst e5
    have : m5 "ask" a sl mo = mo - 1 := by
      unfold m5
      rw [if_pos rfl]
    rw [this]
    unfold fitsA
    rw [if_neg e1, if_neg e2, if_neg e3, if_neg e4, if_pos rfl]
    exact dd (by omega)
  have e6 : m5 n a sl mo = m1 n a := by
    unfold m5 m4 m3 m2
    rw [if_neg e5, if_neg e4, if_neg e3, if_neg e2]
  rw [e6]
  unfold fitsA
  rw [if_neg e1, if_neg e2, if_neg e3, if_neg e4, if_neg e5]
  by_cases e7 : n = "jump" ∨ n = "skip" ∨ n = "back"
  · rw [if_pos e7]
    have : m1 n a = 65535 + (if a > 0 then a else 0) := by
      have hm : n ∈ (["jump", "skip", "back", "push"] : List Str) := by rcases e7 with rfl | rfl | rfl <;> decide +kernel
      have hp : (!decide (V.str n = V.str "push")) = true := by simp [e1]
      unfold m1
      rw [if_pos hm, if_pos hp, Int.mul_one]
    rw [this]
    refine dd ⟨fun h => h.1, fun h => ⟨h, ?_⟩⟩
    split <;> omega
  · rw [if_neg e7]
    have : m1 n a = 0 := by
      unfold m1
      refine if_neg fun h => ?_
      simp only [List.mem_cons, List.not_mem_nil, or_false] at h
      rcases h with h | h | h | h
      · exact e7 (.inl h)
      · exact e7 (.inr (.inl h))
      · exact e7 (.inr (.inr h))
      · exact e1 h
    rw [this]
    exact dd (by omega)
section
variable {P : Program} {w : World} {K : PySem.W.Frag} {mg : Str → Option Value} {base : Heap} {C_Tape : Addr} {C_Thinker : Addr} {C_Brain : Addr} {C_Mind : Addr} {C_Frame : Addr} {C_Thinking : Addr} {C_Checker : Addr} {C_GameError : Addr} {C_BadCode : Addr} {f_BadCode___init : Addr} {T_EVENTS : Addr} {T_SIGNS : Addr} {T_ROUND_NAMES : Addr} {T_BRAIN_NAMES : Addr} {T_EFFECTS : Addr}
theorem ok_law_argument {f : Addr} {fd : FuncData} (D : C8.Def K mg "_law_argument" s_law_argument f fd) (b : Binds K fd ["pair", "slots", "moves"] []) (T : Txt K mg C_Tape C_Thinker C_Brain C_Mind C_Frame C_Thinking C_Checker C_GameError C_BadCode T_EVENTS T_SIGNS T_ROUND_NAMES T_BRAIN_NAMES T_EFFECTS) : C8.Cal P w K mg base 1 "_law_argument" sp_arg [] := by
  refine cal0 D b .nil sc_law_argument (fun vs H Q E h => ?_) (fun cdv A outer s H vs Q E hr h => ?_)
  · obtain ⟨t, n, a, sl, mo, rfl, _⟩ := h
    rfl
  · obtain ⟨t, n, a, sl, mo, rfl, ht, k⟩ := h
    refine ⟨_, (pss_cons (ps_set (i := 3) sc_law_argument.nd rfl (by first | exact Or.inl rfl | exact Or.inr rfl) pe_int)
(pss_cut (ps_if (pt_cmpR op_in_seq (pe_ix ix_tup (pv 0) pe_int (fun _ _ => rfl)) (pe_tup (pa_cons pe_str (pa_cons pe_str (pa_cons pe_str (pa_cons pe_str pa_nil))))) (by rfl))
  (pss_one (ps_set (i := 3) sc_law_argument.nd rfl (by first | exact Or.inl rfl | exact Or.inr rfl) (pe_op op_add pe_int (pe_op op_mul (pe_callB (call_max2 rfl) (by rfl) T.n_max bo_max (pa_cons pe_int (pa_cons (pe_ix ix_tup (pv 0) pe_int (fun _ _ => rfl)) pa_nil))) (pe_callTy call_int1 (by rfl) T.n_int bo_int (pa_cons (pe_cmpR op_ne (pe_ix ix_tup (pv 0) pe_int (fun _ _ => rfl)) pe_str (nomark _)) pa_nil))))))
  pss_nil)
(pss_cut (ps_if (PW.pt (pw_or (pt_cmpR op_eq (pe_ix ix_tup (pv 0) pe_int (fun _ _ => rfl)) pe_str (nomark _)) (pw_or1 (pt_cmpR op_eq (pe_ix ix_tup (pv 0) pe_int (fun _ _ => rfl)) pe_str (nomark _)))))
  (pss_one (ps_set (i := 3) sc_law_argument.nd rfl (by first | exact Or.inl rfl | exact Or.inr rfl) (pe_op op_sub (pv 1) pe_int)))
  pss_nil)
(pss_cut (ps_if (pt_cmpR op_eq (pe_ix ix_tup (pv 0) pe_int (fun _ _ => rfl)) pe_str (nomark _))
  (pss_one (ps_set (i := 3) sc_law_argument.nd rfl (by first | exact Or.inl rfl | exact Or.inr rfl) pe_int))
  pss_nil)
(pss_cut (ps_if (pt_cmpR op_eq (pe_ix ix_tup (pv 0) pe_int (fun _ _ => rfl)) pe_str (nomark _))
  (pss_one (ps_set (i := 3) sc_law_argument.nd rfl (by first | exact Or.inl rfl | exact Or.inr rfl) pe_int))
  pss_nil)
(pss_cut (ps_if (pt_cmpR op_eq (pe_ix ix_tup (pv 0) pe_int (fun _ _ => rfl)) pe_str (nomark _))
  (pss_one (ps_set (i := 3) sc_law_argument.nd rfl (by first | exact Or.inl rfl | exact Or.inr rfl) (pe_op op_sub (pv 2) pe_int)))
  pss_nil)
(pss_one (ps_ret (pe_chain op_le op_le pe_int (pe_ix ix_tup (pv 0) pe_int (fun _ _ => rfl)) (pv 3)))))))))), ?_⟩
    have sig : ∀ v : Int, ([some (.ref t), some (.int sl), some (.int mo), some (.int v)] : List (Option V)) = [some (.ref t), some (.int sl), some (.int mo), some (.int v)] := fun _ => rfl
    refine ⟨fun σ H' => Keep [] H H' ∧ σ = [some (.ref t), some (.int sl), some (.int mo), some (.int (m1 n a))], ?_, ?_⟩
    · refine ⟨_, rfl, _, _, _, _, rfl, rfl, SqT.of ht, rfl, by show 4 ≤ sizeLine; decide, fun u nu => ⟨u, _, rfl, .inr (SqT.of upd_same), rfl, flat_strs ["jump", "skip", "back", "push"], _, rfl, iteB (fun e => ?_) (fun e => ?_)⟩⟩
      · have e' : inV (.str n) ((["jump", "skip", "back", "push"] : List Str).map V.str) = true := e
        rw [inV_strs] at e'
        have k1 : Keep [] H (upd H u (.tup ((["jump", "skip", "back", "push"] : List Str).map V.str))) := Keep.new nu
        have ht1 := k1 _ _ ht (by simp)
        refine ⟨_, rfl, _, _, _, _, rfl, rfl, SqT.of ht1, rfl, _, _, rfl, _, rfl, _, _, _, _, rfl, rfl, SqT.of ht1, rfl, rfl, .inr ⟨_, rfl, _, _, rfl, rfl, .inr ?_, _, _, rfl, rfl, ?_⟩⟩
        · split <;> exact ⟨by decide, by decide⟩
        · refine ⟨k1, ?_⟩
          unfold m1
          rw [if_pos (of_decide_eq_true e')]
          rfl
      · have e' : inV (.str n) ((["jump", "skip", "back", "push"] : List Str).map V.str) = false := e
        rw [inV_strs] at e'
        refine ⟨Keep.new nu, ?_⟩
        unfold m1
        rw [if_neg (of_decide_eq_false e')]
        rfl
    rintro σ H1 ⟨K1, rfl⟩
    have ht1 := K1 _ _ ht (by simp)
    have ne : ∀ {y : Str}, ¬ V.str n = V.str y → ¬ n = y := fun h z => h (congrArg V.str z)
    refine ⟨fun σ H' => H' = H1 ∧ σ = [some (.ref t), some (.int sl), some (.int mo), some (.int (m2 n a sl))], ?_, ?_⟩
    · have yes : (n = "load" ∨ n = "store") → m2 n a sl = sl - 1 := fun e => if_pos e
      refine ⟨_, rfl, _, _, _, _, rfl, rfl, SqT.of ht1, rfl, rfl, _, rfl, iteD (fun e => ?_) (fun e => ⟨_, rfl, _, _, _, _, rfl, rfl, SqT.of ht1, rfl, rfl, _, rfl, iteD (fun e2 => ?_) (fun e2 => ⟨rfl, ?_⟩)⟩)⟩
      · exact ⟨_, rfl, _, _, rfl, rfl, rfl, by rw [yes (.inl (V.str.inj e))]; rfl⟩
      · exact ⟨_, rfl, _, _, rfl, rfl, rfl, by rw [yes (.inr (V.str.inj e2))]; rfl⟩
      · have : m2 n a sl = m1 n a := if_neg fun z => z.elim (ne e) (ne e2)
        rw [this]
    rintro σ H' ⟨rfl, rfl⟩
    refine ⟨fun σ H1 => H1 = H' ∧ σ = [some (.ref t), some (.int sl), some (.int mo), some (.int (m3 n a sl))], ?_, ?_⟩
    · refine ⟨_, rfl, _, _, _, _, rfl, rfl, SqT.of ht1, rfl, rfl, _, rfl, iteD (fun e => ⟨rfl, ?_⟩) (fun e => ⟨rfl, ?_⟩)⟩
      · rw [show m3 n a sl = 6 from if_pos (V.str.inj e)]; rfl
      · rw [show m3 n a sl = m2 n a sl from if_neg (ne e)]
    rintro σ H1 ⟨rfl, rfl⟩
    refine ⟨fun σ H' => H' = H1 ∧ σ = [some (.ref t), some (.int sl), some (.int mo), some (.int (m4 n a sl))], ?_, ?_⟩
    · refine ⟨_, rfl, _, _, _, _, rfl, rfl, SqT.of ht1, rfl, rfl, _, rfl, iteD (fun e => ⟨rfl, ?_⟩) (fun e => ⟨rfl, ?_⟩)⟩
      · rw [show m4 n a sl = 2 from if_pos (V.str.inj e)]; rfl
      · rw [show m4 n a sl = m3 n a sl from if_neg (ne e)]
    rintro σ H' ⟨rfl, rfl⟩
    refine ⟨fun σ H1 => H1 = H' ∧ σ = [some (.ref t), some (.int sl), some (.int mo), some (.int (m5 n a sl mo))], ?_, ?_⟩
    · refine ⟨_, rfl, _, _, _, _, rfl, rfl, SqT.of ht1, rfl, rfl, _, rfl, iteD (fun e => ⟨_, rfl, _, _, rfl, rfl, rfl, ?_⟩) (fun e => ⟨rfl, ?_⟩)⟩
      · rw [show m5 n a sl mo = mo - 1 from if_pos (V.str.inj e)]; rfl
      · rw [show m5 n a sl mo = m4 n a sl from if_neg (ne e)]
    rintro σ H1 ⟨rfl, rfl⟩
    have kk := k _ K1
    rw [← m5_fits] at kk
    refine ⟨_, rfl, _, _, _, _, rfl, rfl, SqT.of ht1, rfl, _, _, rfl, rfl, _, rfl, iteD (fun h => ⟨_, rfl, _, _, rfl, rfl, ?_⟩) (fun h => ?_)⟩
    · have : decide (0 ≤ a ∧ a ≤ m5 n a sl mo) = decide (a ≤ m5 n a sl mo) := by simp [h]
      rw [this] at kk
      exact kk
    · have : decide (0 ≤ a ∧ a ≤ m5 n a sl mo) = false := by simp [h]
      rw [this] at kk
      exact kk
theorem ok_law_targets {f : Addr} {fd : FuncData} (D : C8.Def K mg "_law_targets" s_law_targets f fd) (b : Binds K fd ["at", "pair"] []) (T : Txt K mg C_Tape C_Thinker C_Brain C_Mind C_Frame C_Thinking C_Checker C_GameError C_BadCode T_EVENTS T_SIGNS T_ROUND_NAMES T_BRAIN_NAMES T_EFFECTS) : C8.Cal P w K mg base 1 "_law_targets" (sp_tgts K) [] := by
  refine cal0 D b .nil sc_law_targets (fun vs H Q E h => ?_) (fun cdv A outer s H vs Q E hr h => ?_)
  · obtain ⟨t, n, a, i, rfl, _⟩ := h
    rfl
  · obtain ⟨t, n, a, i, rfl, ht, k⟩ := h
    refine ⟨_, (pss_cons (ps_if (PW.pt (pw_or (pt_cmpR op_eq (pe_ix ix_tup (pv 1) pe_int (fun _ _ => rfl)) pe_str (nomark _)) (pw_or1 (pt_cmpR op_eq (pe_ix ix_tup (pv 1) pe_int (fun _ _ => rfl)) pe_str (nomark _)))))
  (pss_one (ps_ret (pe_lst pa_nil)))
  pss_nil)
(pss_cons (ps_if (pt_cmpR op_eq (pe_ix ix_tup (pv 1) pe_int (fun _ _ => rfl)) pe_str (nomark _))
  (pss_one (ps_ret (pe_lst (pa_cons (pe_op op_add (pe_op op_add (pv 0) pe_int) (pe_ix ix_tup (pv 1) pe_int (fun _ _ => rfl))) pa_nil))))
  pss_nil)
(pss_cons (ps_if (pt_cmpR op_eq (pe_ix ix_tup (pv 1) pe_int (fun _ _ => rfl)) pe_str (nomark _))
  (pss_one (ps_ret (pe_lst (pa_cons (pe_op op_add (pv 0) pe_int) (pa_cons (pe_op op_add (pe_op op_add (pv 0) pe_int) (pe_ix ix_tup (pv 1) pe_int (fun _ _ => rfl))) pa_nil)))))
  pss_nil)
(pss_one (ps_ret (pe_lst (pa_cons (pe_op op_add (pv 0) pe_int) pa_nil))))))), ?_⟩
    unfold tgts at k
    have ne : ∀ {y : Str}, ¬ V.str n = V.str y → ¬ n = y := fun h z => h (congrArg V.str z)
    have c0 : (n = "end" ∨ n = "back") → 0 ≤ sizeLine ∧ ∀ p, H p = none → Q (.ref p) (upd H p (.lst [])) := fun e => by
      rw [if_pos e] at k
      exact ⟨Nat.zero_le _, fun p np => k p _ np upd_same (Keep.new np)⟩
    refine ⟨_, rfl, _, _, _, _, rfl, rfl, SqT.of ht, rfl, rfl, _, rfl, iteD (fun e => c0 (.inl (V.str.inj e))) (fun e => ⟨_, rfl, _, _, _, _, rfl, rfl, SqT.of ht, rfl, rfl, _, rfl, iteD (fun e2 => c0 (.inr (V.str.inj e2))) (fun e2 => ?_)⟩)⟩
    rw [if_neg (fun z => z.elim (ne e) (ne e2))] at k
    refine ⟨_, rfl, _, _, _, _, rfl, rfl, SqT.of ht, rfl, rfl, _, rfl, iteD (fun e => ?_) (fun e => ?_)⟩
    · rw [if_pos (V.str.inj e)] at k
      exact ⟨_, rfl, _, _, rfl, rfl, _, rfl, _, _, _, _, rfl, rfl, SqT.of ht, rfl, _, _, rfl, rfl, by show 1 ≤ sizeLine; decide, fun p np => k p _ np upd_same (Keep.new np)⟩
    rw [if_neg (ne e)] at k
    refine ⟨_, rfl, _, _, _, _, rfl, rfl, SqT.of ht, rfl, rfl, _, rfl, iteD (fun e => ?_) (fun e => ?_)⟩
    · rw [if_pos (V.str.inj e)] at k
      exact ⟨_, rfl, _, _, rfl, rfl, _, rfl, _, _, rfl, rfl, _, rfl, _, _, _, _, rfl, rfl, SqT.of ht, rfl, _, _, rfl, rfl, by show 2 ≤ sizeLine; decide, fun p np => k p _ np upd_same (Keep.new np)⟩
    rw [if_neg (ne e)] at k
    exact ⟨_, rfl, _, _, rfl, rfl, by show 1 ≤ sizeLine; decide, fun p np => k p _ np upd_same (Keep.new np)⟩
end

theorem ixN_j {n j : Nat} (hj : j < n) : ixN n (j : Int) = some j := by
  unfold ixN
  rw [if_pos (by omega), if_pos (by omega)]
  simp
/-- what a code's check comes to -/
def Out (cs : List In2) (sl mo : Int) (b : Bool) : Sum Nat Int → Prop
  | .inl i => BadAt cs sl mo b i
  | .inr t => cs ≠ [] ∧ ∃ s, upto cs sl mo b cs.length = some s ∧ t = s.2
def resV : Sum Nat Int → List V
  | .inl i => [.str "refused", .int (i : Int), .bl true]
  | .inr t => [.str "passed", .int t]
theorem upto_none {cs : List In2} {sl mo : Int} {b : Bool} {i : Nat} (h : upto cs sl mo b i = none) : ∀ k, upto cs sl mo b (i + k) = none
  | 0 => h
  | k + 1 => by
    have ih := upto_none h k
    show (match upto cs sl mo b (i + k), cs[i + k]? with | some s, some p => good1 cs sl mo b ((i + k : Nat) : Int) p.1 p.2 s.1 s.2 | _, _ => none) = none
    rw [ih]
theorem bad_le {cs : List In2} {sl mo : Int} {b : Bool} {i j : Nat} (h : upto cs sl mo b (i + 1) = none) (g : ∃ s, upto cs sl mo b j = some s) : j ≤ i := by
  obtain ⟨s, g⟩ := g
  apply Classical.byContradiction
  intro z
  have := upto_none h (j - (i + 1))
  rw [show i + 1 + (j - (i + 1)) = j by omega, g] at this
  cases this
theorem Out.one {cs : List In2} {sl mo : Int} {b : Bool} {r r' : Sum Nat Int} (h : Out cs sl mo b r) (h' : Out cs sl mo b r') : r = r' := by
  cases r with
  | inl i =>
    cases r' with
    | inl j =>
      rcases h with ⟨e, rfl⟩ | ⟨h1, h2, h3⟩
      · rcases h' with ⟨_, rfl⟩ | ⟨g1, _, _⟩
        · rfl
        · rw [e] at g1; simp at g1
      · rcases h' with ⟨e, rfl⟩ | ⟨g1, g2, g3⟩
        · rw [e] at h1; simp at h1
        · have := bad_le h3 g2
          have := bad_le g3 h2
          rw [show i = j by omega]
    | inr t =>
      obtain ⟨g1, s, g2, _⟩ := h'
      rcases h with ⟨e, _⟩ | ⟨h1, h2, h3⟩
      · exact absurd e g1
      · have := bad_le h3 ⟨s, g2⟩
        omega
  | inr t =>
    obtain ⟨h1, s, h2, rfl⟩ := h
    cases r' with
    | inl j =>
      rcases h' with ⟨e, _⟩ | ⟨g1, g2, g3⟩
      · exact absurd e h1
      · have := bad_le g3 ⟨s, h2⟩
        omega
    | inr t' =>
      obtain ⟨_, s', g2, rfl⟩ := h'
      rw [h2] at g2
      cases g2
      rfl
def optV : Option Int → V
  | none => .non
  | some v => .int v
/-- the law's list of heights -/
def HL (H : Hp) (p : Addr) (h : Hts) (len : Nat) : Prop := ∃ xs, H p = some (.lst xs) ∧ xs.length = len ∧ ∀ i : Nat, i < len → xs[i]? = some (optV (h (i : Int)))
theorem HL.put {H : Hp} {p : Addr} {h : Hts} {len i : Nat} {xs : List V} {v : Int} (h1 : H p = some (.lst xs)) (h2 : xs.length = len) (h3 : ∀ i : Nat, i < len → xs[i]? = some (optV (h (i : Int)))) (hi : i < len) : HL (upd H p (.lst (xs.set i (.int v)))) p (setH h (i : Int) v) len := by
  refine ⟨_, upd_same, by rw [List.length_set, h2], fun j hj => ?_⟩
  rw [List.getElem?_set]
  unfold setH
  by_cases e : i = j
  · subst e
    rw [if_pos rfl, if_pos (by omega), if_pos rfl]; rfl
  · rw [if_neg e, if_neg (by omega)]
    exact h3 j hj
theorem tgts_nonneg {i a sl mo : Int} {n : Str} (h : fitsA n a sl mo = true) (hi : 0 ≤ i) : ∀ t ∈ tgts i n a, 0 ≤ t := by
  intro t ht
  have ha : n = "jump" ∨ n = "skip" → 0 ≤ a := fun e => by
    unfold fitsA at h
    have e1 : ¬ n = "push" := by rcases e with rfl | rfl <;> decide +kernel
    have e2 : ¬ (n = "load" ∨ n = "store") := by rcases e with rfl | rfl <;> decide +kernel
    have e3 : ¬ n = "sign" := by rcases e with rfl | rfl <;> decide +kernel
    have e4 : ¬ n = "show" := by rcases e with rfl | rfl <;> decide +kernel
    have e5 : ¬ n = "ask" := by rcases e with rfl | rfl <;> decide +kernel
    rw [if_neg e1, if_neg e2, if_neg e3, if_neg e4, if_neg e5, if_pos (e.elim .inl fun z => .inr (.inl z))] at h
    exact of_decide_eq_true h
  unfold tgts at ht
  split at ht
  · cases ht
  split at ht
  · rename_i e
    have := ha (.inl e)
    simp only [List.mem_singleton] at ht
    omega
  split at ht
  · rename_i e
    have := ha (.inr e)
    simp only [List.mem_cons, List.not_mem_nil, or_false] at ht
    omega
  · simp only [List.mem_singleton] at ht
    omega
theorem good1_of {cs : List In2} {sl mo : Int} {b : Bool} {i : Int} {n : Str} {a : Int} {h : Hts} {top v : Int} (hv : h i = some v) (hin : n ∈ nmsOf b) (hf : fitsA n a sl mo = true) (hw : ¬ (v < (eff n).1 ∨ v - (eff n).1 + (eff n).2 > 16)) (he : n = "end" → v = b2i' b) (hb : n = "back" → backOk cs h i (i - a) = true) :
    good1 cs sl mo b i n a h top = (reach cs.length (v - (eff n).1 + (eff n).2) (tgts i n a) h).map fun h' => (h', if v - (eff n).1 + (eff n).2 > top then v - (eff n).1 + (eff n).2 else top) := by
  unfold good1
  simp only [hv]
  rw [if_neg (fun z => z hin), if_neg (by rw [hf]; simp), if_neg hw]
  by_cases e1 : n = "end"
  · rw [if_pos e1, if_pos (he e1)]
    have ht : tgts i n a = [] := by unfold tgts; exact if_pos (.inl e1)
    rw [ht]; rfl
  · rw [if_neg e1]
    by_cases e2 : n = "back"
    · rw [if_pos e2, if_pos (hb e2)]
      have ht : tgts i n a = [] := by unfold tgts; exact if_pos (.inr e2)
      rw [ht]; rfl
    · rw [if_neg e2]
def goodB (n : Str) (a sl mo : Int) (b : Bool) (o : Option Int) : Bool := o.isSome && (fitsA n a sl mo && decide (n ∈ nmsOf b))
theorem good1_no {cs : List In2} {sl mo : Int} {b : Bool} {i : Int} {n : Str} {a : Int} {h : Hts} {top : Int} (hg : goodB n a sl mo b (h i) = false) : good1 cs sl mo b i n a h top = none := by
  unfold good1
  unfold goodB at hg
  cases hv : h i with
  | none => rfl
  | some v =>
    rw [hv] at hg
    simp only
    by_cases h1 : n ∈ nmsOf b
    · rw [if_neg (fun z => z h1), if_pos]
      simpa [h1] using hg
    · rw [if_pos h1]
theorem nms_cut : ∀ b : Bool, ∀ n ∈ allNm, decide (n ∈ nmsOf b) = !decide (n ∈ (if b then ["ask", "show", "pay", "take"] else ["view", "long", "unit", "back"] : List Str)) := by decide +kernel
theorem nms_eq (b : Bool) (n : Str) : (decide (n ∈ allNm) && !decide (n ∈ (if b then ["ask", "show", "pay", "take"] else ["view", "long", "unit", "back"] : List Str))) = decide (n ∈ nmsOf b) := by
  by_cases h : n ∈ allNm
  · rw [nms_cut b n h, decide_eq_true h, Bool.true_and]
  · rw [decide_eq_false h, Bool.false_and, decide_eq_false (fun z => h (nms_all b n z))]
def sp_checked : Sp := fun vs H Q _ => ∃ (c : Addr) (xs : List V) (cs : List In2) (sl mo : Int) (b : Bool), vs = [.ref c, .int sl, .int mo, .bl b] ∧ H c = some (.lst xs) ∧ Prs H xs cs ∧ NmOk cs ∧ cs.length ≤ 200000 ∧ ∀ r t H', Out cs sl mo b r → H t = none → H' t = some (.tup (resV r)) → Keep [] H H' → Q (.ref t) H'
section
variable {P : Program} {w : World} {K : PySem.W.Frag} {mg : Str → Option Value} {base : Heap} {C_Tape : Addr} {C_Thinker : Addr} {C_Brain : Addr} {C_Mind : Addr} {C_Frame : Addr} {C_Thinking : Addr} {C_Checker : Addr} {C_GameError : Addr} {C_BadCode : Addr} {f_BadCode___init : Addr} {T_EVENTS : Addr} {T_SIGNS : Addr} {T_ROUND_NAMES : Addr} {T_BRAIN_NAMES : Addr} {T_EFFECTS : Addr}
theorem ok_law_checked {f : Addr} {fd : FuncData} (D : C8.Def K mg "_law_checked" s_law_checked f fd) (b : Binds K fd ["code", "slots", "moves", "brain"] []) (T : Txt K mg C_Tape C_Thinker C_Brain C_Mind C_Frame C_Thinking C_Checker C_GameError C_BadCode T_EVENTS T_SIGNS T_ROUND_NAMES T_BRAIN_NAMES T_EFFECTS) (c_law_takes : C8.Cal P w K mg base 1 "_law_takes" sp_takes []) (c_law_argument : C8.Cal P w K mg base 1 "_law_argument" sp_arg [])
    (c_law_names_of_code : C8.Cal P w K mg base 1 "_law_names_of_code" sp_names []) (c_law_targets : C8.Cal P w K mg base 1 "_law_targets" (sp_tgts K) []) : C8.Cal P w K mg base 2 "_law_checked" sp_checked [] := by
  refine cal0 D b .nil sc_law_checked (fun vs H Q E h => ?_) (fun cdv A outer s H vs Q E hr h => ?_)
  · obtain ⟨c, xs, cs, sl, mo, b, rfl, _⟩ := h
    rfl
  · obtain ⟨c, xs, cs, sl, mo, b, rfl, hc, prs, hnm, hn, k⟩ := h
    refine ⟨_, (pss_cons (ps_set (i := 4) sc_law_checked.nd rfl (by first | exact Or.inl rfl | exact Or.inr rfl) (pe_op op_rep (pe_lst (pa_cons pe_non pa_nil)) (pe_callB call_len_seq (by rfl) T.n_len bo_len (pa_cons (pv 0) pa_nil))))
(pss_cons (ps_set (i := 5) sc_law_checked.nd rfl (by first | exact Or.inl rfl | exact Or.inr rfl) pe_int)
(pss_cons (ps_for PassesOwn.never rfl (pi_range1 (by rfl) T.n_range (pa_cons (pe_callB call_len_seq (by rfl) T.n_len bo_len (pa_cons (pv 0) pa_nil)) pa_nil)) (pg_name (i := 6) sc_law_checked.nd rfl (by first | exact Or.inl rfl | exact Or.inr rfl))
  (pss_cut (ps_if (pt_cmpR op_eq (pv 6) pe_int (nomark _))
    (pss_one (ps_asg pe_int (pg_sub (pv 4) pe_int set_list)))
    pss_nil)
  (pss_cons (ps_set (i := 7) sc_law_checked.nd rfl (by first | exact Or.inl rfl | exact Or.inr rfl) (pe_ix ix_list (pv 0) (pv 6) (fun _ _ => rfl)))
  (pss_cons (ps_set (i := 8) sc_law_checked.nd rfl (by first | exact Or.inl rfl | exact Or.inr rfl) (pe_c c_law_takes hr (by first | exact Nat.le_refl _ | decide | omega) rfl (pa_cons (pe_ix ix_tup (pv 7) pe_int (fun _ _ => rfl)) pa_nil)))
  (pss_cut (ps_set (i := 9) sc_law_checked.nd rfl (by first | exact Or.inl rfl | exact Or.inr rfl) (pe_and (pe_cmpR op_notN (pe_ix ix_list (pv 4) (pv 6) (fun _ _ => rfl)) pe_non (nomark _)) (pe_and (pe_c c_law_argument hr (by first | exact Nat.le_refl _ | decide | omega) rfl (pa_cons (pv 7) (pa_cons (pv 1) (pa_cons (pv 2) pa_nil)))) (pe_one (pe_cmpR op_in_seq (pe_ix ix_tup (pv 7) pe_int (fun _ _ => rfl)) (pe_c0 c_law_names_of_code hr (by first | exact Nat.le_refl _ | decide | omega) rfl) (by rfl))))))
  (pss_cut (ps_if (pt_val (pv 3))
    (pss_one (ps_set (i := 9) sc_law_checked.nd rfl (by first | exact Or.inl rfl | exact Or.inr rfl) (pe_and (pv 9) (pe_one (pe_cmpR op_notIn_seq (pe_ix ix_tup (pv 7) pe_int (fun _ _ => rfl)) (pe_tup (pa_cons pe_str (pa_cons pe_str (pa_cons pe_str (pa_cons pe_str pa_nil))))) (by rfl))))))
    (pss_one (ps_set (i := 9) sc_law_checked.nd rfl (by first | exact Or.inl rfl | exact Or.inr rfl) (pe_and (pv 9) (pe_one (pe_cmpR op_notIn_seq (pe_ix ix_tup (pv 7) pe_int (fun _ _ => rfl)) (pe_tup (pa_cons pe_str (pa_cons pe_str (pa_cons pe_str (pa_cons pe_str pa_nil))))) (by rfl)))))))
  (pss_cons (ps_if (PW.pt (pw_or (pt_not (pt_val (pv 9))) (pw_or (pt_cmpR op_lt (pe_ix ix_list (pv 4) (pv 6) (fun _ _ => rfl)) (pe_ix ix_tup (pv 8) pe_int (fun _ _ => rfl)) (nomark _)) (pw_or1 (pt_cmpR op_gt (pe_op op_add (pe_op op_sub (pe_ix ix_list (pv 4) (pv 6) (fun _ _ => rfl)) (pe_ix ix_tup (pv 8) pe_int (fun _ _ => rfl))) (pe_ix ix_tup (pv 8) pe_int (fun _ _ => rfl))) pe_int (nomark _))))))
    (pss_one (ps_ret (pe_tup (pa_cons pe_str (pa_cons (pv 6) (pa_cons pe_bl pa_nil))))))
    pss_nil)
  (pss_cut (ps_if (PW.pt (pw_and (pt_cmpR op_eq (pe_ix ix_tup (pv 7) pe_int (fun _ _ => rfl)) pe_str (nomark _)) (pw_and1 (pt_cmpR op_ne (pe_ix ix_list (pv 4) (pv 6) (fun _ _ => rfl)) (pe_callTy call_int1 (by rfl) T.n_int bo_int (pa_cons (pv 3) pa_nil)) (nomark _)))))
    (pss_one (ps_ret (pe_tup (pa_cons pe_str (pa_cons (pv 6) (pa_cons pe_bl pa_nil))))))
    pss_nil)
  (pss_cons (ps_set (i := 10) sc_law_checked.nd rfl (by first | exact Or.inl rfl | exact Or.inr rfl) (pe_op op_add (pe_op op_sub (pe_ix ix_list (pv 4) (pv 6) (fun _ _ => rfl)) (pe_ix ix_tup (pv 8) pe_int (fun _ _ => rfl))) (pe_ix ix_tup (pv 8) pe_int (fun _ _ => rfl))))
  (pss_cons (ps_set (i := 5) sc_law_checked.nd rfl (by first | exact Or.inl rfl | exact Or.inr rfl) (pe_callB (call_max2 rfl) (by rfl) T.n_max bo_max (pa_cons (pv 5) (pa_cons (pv 10) pa_nil))))
  (pss_cut (ps_if (pt_cmpR op_eq (pe_ix ix_tup (pv 7) pe_int (fun _ _ => rfl)) pe_str (nomark _))
    (pss_cons (ps_set (i := 11) sc_law_checked.nd rfl (by first | exact Or.inl rfl | exact Or.inr rfl) (pe_op op_sub (pv 6) (pe_ix ix_tup (pv 7) pe_int (fun _ _ => rfl))))
    (pss_one (ps_if (PW.pt (pw_or (pt_not (pt_chain op_le op_lt pe_int (pv 11) (pv 6))) (pw_or (pt_cmpR (op_neD hr.units) (pe_ix ix_list (pv 0) (pv 11) (fun _ _ => rfl)) (pe_tup (pa_cons pe_str (pa_cons pe_int pa_nil))) (nomark _)) (pw_or1 (pt_cmpR op_ne (pe_ix ix_list (pv 4) (pv 11) (fun _ _ => rfl)) (pv 10) (nomark _))))))
      (pss_one (ps_ret (pe_tup (pa_cons pe_str (pa_cons (pv 6) (pa_cons pe_bl pa_nil))))))
      pss_nil)))
    pss_nil)
  (pss_one (ps_for PassesOwn.never rfl (pi_list (pe_c c_law_targets hr (by first | exact Nat.le_refl _ | decide | omega) rfl (pa_cons (pv 6) (pa_cons (pv 7) pa_nil)))) (pg_name (i := 11) sc_law_checked.nd rfl (by first | exact Or.inl rfl | exact Or.inr rfl))
    (pss_cons (ps_if (PW.pt (pw_or (pt_cmpR op_ge (pv 11) (pe_callB call_len_seq (by rfl) T.n_len bo_len (pa_cons (pv 0) pa_nil)) (nomark _)) (pw_or1 (PW.pt (pw_and (pt_cmpR op_notN (pe_ix ix_list (pv 4) (pv 11) (fun _ _ => rfl)) pe_non (nomark _)) (pw_and1 (pt_cmpR op_ne (pe_ix ix_list (pv 4) (pv 11) (fun _ _ => rfl)) (pv 10) (nomark _))))))))
      (pss_one (ps_ret (pe_tup (pa_cons pe_str (pa_cons (pv 6) (pa_cons pe_bl pa_nil))))))
      pss_nil)
    (pss_one (ps_asg (pv 10) (pg_sub (pv 4) (pv 11) set_list)))))))))))))))))
(pss_cons (ps_if (pt_cmpR op_eq (pe_callB call_len_seq (by rfl) T.n_len bo_len (pa_cons (pv 0) pa_nil)) pe_int (nomark _))
  (pss_one (ps_ret (pe_tup (pa_cons pe_str (pa_cons pe_int (pa_cons pe_bl pa_nil))))))
  pss_nil)
(pss_one (ps_ret (pe_tup (pa_cons pe_str (pa_cons (pv 5) pa_nil))))))))), ?_⟩
    have hlen := prs.len
    refine ⟨by show 1 ≤ sizeLine; decide, fun l0 nl0 => ?_⟩
    have k0 : Keep [] H (upd H l0 (.lst [.non])) := Keep.new nl0
    refine ⟨_, rfl, _, _, rfl, .inl (SqL.of (k0 _ _ hc (by simp))), _, _, _, rfl, rfl, upd_same, by omega, by omega, ?_, fun p np => ?_⟩
    · rw [hlen]; exact smallM (by simp; omega)
    have hrep : (List.replicate (xs.length : Int).toNat [V.non]).flatten = List.replicate cs.length .non := by
      rw [← hlen]
      have : (xs.length : Int).toNat = xs.length := by omega
      rw [this]
      generalize xs.length = m
      induction m with
      | zero => rfl
      | succ m ih => rw [List.replicate_succ, List.flatten_cons, ih]; rfl
    rw [hrep]
    have hc1 : upd (upd H l0 (.lst [.non])) p (.lst (List.replicate cs.length .non)) c = some (.lst xs) := Keep.new (W := []) np _ _ (k0 _ _ hc (by simp)) (by simp)
    have k1 : Keep [] H (upd (upd H l0 (.lst [.non])) p (.lst (List.replicate cs.length .non))) := k0.then_new np
    have hp1 : upd (upd H l0 (.lst [.non])) p (.lst (List.replicate cs.length .non)) p = some (.lst (List.replicate cs.length .non)) := upd_same
    have np0 : H p = none := k0.free np
    generalize upd (upd H l0 (.lst [.non])) p (.lst (List.replicate cs.length .non)) = H1 at *
    have ncp : c ≠ p := ne_of_none hc np0
    have wc : c ∉ [p] := by simpa using ncp
    have own : ∀ {H2 : Hp}, Keep [p] H1 H2 → Keep [] H H2 := fun k2 e o he hw => k2 e o (k1 e o he (by simp)) (by simpa using ne_of_none he np0)
    have prs1 := prs.tk k1.tk
    have tkp : ∀ {H2 : Hp}, Keep [p] H1 H2 → TK H1 H2 := fun k2 => k2.tk1 hp1
    have hl0 : HL H1 p (fun _ => none) cs.length := ⟨_, hp1, by simp, fun i hi => by rw [List.getElem?_replicate, if_pos hi]; rfl⟩
    clear hl0
    refine ⟨_, rfl, _, _, rfl, .inl (SqL.of hc1), _, rfl, by omega, by omega, ?_⟩
    rw [hlen]
    refine for_range (lo := 0) (n := cs.length) (fun i σ H' => ∃ (st : Hts × Int) (o6 o7 o8 o9 o10 o11 : Option V), σ = [some (.ref c), some (.int sl), some (.int mo), some (.bl b), some (.ref p), some (.int st.2), o6, o7, o8, o9, o10, o11] ∧ upto cs sl mo b i = some st ∧ HL H' p (if i = 0 then fun _ => none else st.1) cs.length ∧ Keep [p] H1 H')
      ⟨(h0, 0), none, none, none, none, none, none, rfl, rfl, ⟨_, hp1, by simp, fun i hi => by rw [List.getElem?_replicate, if_pos hi]; rfl⟩, Keep.refl _ _⟩ ?_ ?_
    · rintro i σ H2 hi ⟨st, o6, o7, o8, o9, o10, o11, rfl, hst, hL, K2⟩
      have e0 : (0 : Int) + (i : Int) = (i : Int) := by omega
      rw [e0]
      have hget : cs[i]? = some cs[i] := List.getElem?_eq_getElem hi
      generalize cs[i] = pr at hget
      obtain ⟨n, a⟩ := pr
      have hnn : n ∈ allNm ++ (["", "halt", "push ", "pushes"] : List Str) := hnm (n, a) (List.mem_of_getElem? hget)
      have hup : upto cs sl mo b (i + 1) = good1 cs sl mo b (i : Int) n a st.1 st.2 := by
        show (match upto cs sl mo b i, cs[i]? with | some s, some p => good1 cs sl mo b (i : Int) p.1 p.2 s.1 s.2 | _, _ => none) = _
        rw [hst, hget]
      -- refused here
      have ref : ∀ {H3 : Hp}, good1 cs sl mo b (i : Int) n a st.1 st.2 = none → Keep [p] H1 H3 → 3 ≤ sizeLine ∧ ∀ t, H3 t = none → Q (.ref t) (upd H3 t (.tup [.str "refused", .int (i : Int), .bl true])) := fun e K => ⟨by decide, fun t nt =>
        k (.inl i) t _ (.inr ⟨hi, ⟨st, hst⟩, hup.trans e⟩) ((own K).free nt) upd_same ((own K).then_new nt)⟩
      refine ⟨fun σ H' => σ = [some (.ref c), some (.int sl), some (.int mo), some (.bl b), some (.ref p), some (.int st.2), some (.int (i : Int)), o7, o8, o9, o10, o11] ∧ HL H' p st.1 cs.length ∧ Keep [p] H1 H', ?_, ?_⟩
      · refine ⟨_, rfl, rfl, _, rfl, iteD (fun e => ?_) (fun e => ⟨rfl, ?_, K2⟩)⟩
        · have e : (i : Int) = 0 := V.int.inj e
          have e : i = 0 := by omega
          subst e
          obtain ⟨ys, g1, g2, g3⟩ := hL
          refine ⟨_, rfl, _, _, _, 0, rfl, rfl, g1, ?_, rfl, ?_, K2.then_at (List.mem_singleton.mpr rfl)⟩
          · have : 0 < ys.length := by omega
            exact ixN_j this
          · have := HL.put (v := 0) g1 g2 g3 hi
            have e2 : st = (h0, 0) := by
              have : upto cs sl mo b 0 = some (h0, 0) := rfl
              rw [this] at hst
              exact (Option.some.inj hst).symm
            rw [e2]
            exact this
        · have : ¬ i = 0 := fun z => e (by rw [z]; rfl)
          rw [if_neg this] at hL
          exact hL
      rintro σ H3 ⟨rfl, hL, K3⟩
      obtain ⟨u, hu1, hu2⟩ := (prs1.tk (tkp K3)).get hget
      have hc3 := K3 _ _ hc1 wc
      refine ⟨_, rfl, _, rfl, _, _, _, _, rfl, rfl, SqL.of hc3, atI_nat hu1, ?_⟩
      refine ⟨_, rfl, _, _, _, _, rfl, rfl, SqT.of hu2, rfl, n, rfl, fun tt H4 ntt htt K4 => ?_⟩
      rw [takes_eff n hnn] at htt
      obtain ⟨ys, g1, g2, g3⟩ := hL
      have gi := g3 i hi
      have K34 : Keep [p] H1 H4 := K3.trans (K4.mono (by simp))
      have g4 := K4 _ _ g1 (by simp)
      have hu4 := K4 _ _ hu2 (by simp)
      -- is it good?
      refine ⟨fun σ H' => σ = [some (.ref c), some (.int sl), some (.int mo), some (.bl b), some (.ref p), some (.int st.2), some (.int (i : Int)), some (.ref u), some (.ref tt), some (.bl ((st.1 (i : Int)).isSome && (fitsA n a sl mo && decide (n ∈ allNm)))), o10, o11] ∧ Keep [] H4 H', ?_, ?_⟩
      · refine ⟨_, rfl, _, rfl, _, _, _, _, rfl, rfl, SqL.of g4, atI_nat gi, rfl, ?_⟩
        cases hv : st.1 (i : Int) with
        | none => exact ⟨_, rfl, iteNF (p := optV none = V.non) rfl ⟨rfl, Keep.refl _ _⟩⟩
        | some v =>
          refine ⟨_, rfl, iteNT (p := optV (some v) = V.non) (by intro z; cases z) ?_⟩
          refine ⟨_, rfl, _, rfl, _, rfl, u, n, a, sl, mo, rfl, hu4, fun H5 K5 => ?_⟩
          cases hf : fitsA n a sl mo with
          | false => exact ⟨_, rfl, iteF ⟨rfl, K5⟩⟩
          | true =>
            refine ⟨_, rfl, iteT ?_⟩
            refine ⟨_, rfl, _, _, _, _, rfl, rfl, SqT.of (K5 _ _ hu4 (by simp)), rfl, rfl, fun l H6 nl hl K6 => ⟨l, _, rfl, .inl (SqL.of hl), rfl, flat_strs allNm, ?_⟩⟩
            refine ⟨?_, K5.trans K6⟩
            show _ = [_, _, _, _, _, _, _, _, _, some (V.bl (true && (true && decide (n ∈ allNm)))), _, _]
            rw [← inV_strs]; rfl
      rintro σ H5 ⟨rfl, K5⟩
      have exm : ∀ {H6 H7 : Hp} {ex : List Str} {Z : Prop}, ex.length = 4 → (∀ t, H6 t = none → (H7 = upd H6 t (.tup (ex.map V.str)) → Z)) → Z → Z := fun _ _ z => z
      clear exm
      have hu5 := K5 _ _ hu4 (by simp)
      refine ⟨fun σ H' => σ = [some (.ref c), some (.int sl), some (.int mo), some (.bl b), some (.ref p), some (.int st.2), some (.int (i : Int)), some (.ref u), some (.ref tt), some (.bl (goodB n a sl mo b (st.1 (i : Int)))), o10, o11] ∧ Keep [] H4 H', ?_, ?_⟩
      · have fin : ∀ ex : List Str, (decide (n ∈ allNm) && !decide (n ∈ ex)) = decide (n ∈ nmsOf b) → ((st.1 (i : Int)).isSome && (fitsA n a sl mo && decide (n ∈ allNm))) = true → (!inV (.str n) (ex.map V.str)) = goodB n a sl mo b (st.1 (i : Int)) := fun ex e1 e2 => by
          unfold goodB
          rw [inV_strs, ← e1]
          simp only [Bool.and_eq_true] at e2
          rw [e2.1, e2.2.1, e2.2.2]; simp
        have fin0 : ((st.1 (i : Int)).isSome && (fitsA n a sl mo && decide (n ∈ allNm))) = false → goodB n a sl mo b (st.1 (i : Int)) = false := fun e => by
          unfold goodB
          cases h1 : (st.1 (i : Int)).isSome with
          | false => rfl
          | true =>
            cases h2 : fitsA n a sl mo with
            | false => rfl
            | true =>
              rw [h1, h2] at e
              have e' : ¬ n ∈ allNm := by simpa using e
              rw [decide_eq_false (fun z => e' (nms_all b n z))]; rfl
        refine ⟨_, rfl, _, rfl, iteB (fun eb => ?_) (fun eb => ?_)⟩
        · subst eb
          refine ⟨_, rfl, _, rfl, iteB (fun eg => ?_) (fun eg => ?_)⟩
          · refine ⟨_, rfl, _, _, _, _, rfl, rfl, SqT.of hu5, rfl, by show 4 ≤ sizeLine; decide, fun v nv => ⟨v, (["ask", "show", "pay", "take"] : List Str).map V.str, rfl, .inr (SqT.of upd_same), rfl, flat_strs ["ask", "show", "pay", "take"], ?_, K5.then_new nv⟩⟩
            rw [← fin ["ask", "show", "pay", "take"] (nms_eq true n) eg]; rfl
          · exact ⟨by rw [fin0 eg]; rfl, K5⟩
        · subst eb
          refine ⟨_, rfl, _, rfl, iteB (fun eg => ?_) (fun eg => ?_)⟩
          · refine ⟨_, rfl, _, _, _, _, rfl, rfl, SqT.of hu5, rfl, by show 4 ≤ sizeLine; decide, fun v nv => ⟨v, (["view", "long", "unit", "back"] : List Str).map V.str, rfl, .inr (SqT.of upd_same), rfl, flat_strs ["view", "long", "unit", "back"], ?_, K5.then_new nv⟩⟩
            rw [← fin ["view", "long", "unit", "back"] (nms_eq false n) eg]; rfl
          · exact ⟨by rw [fin0 eg]; rfl, K5⟩
      rintro σ H6 ⟨rfl, K6⟩
      have K16 : Keep [p] H1 H6 := K34.trans (K6.mono (by simp))
      have g6 := K6 _ _ g4 (by simp)
      have hu6 := K6 _ _ hu4 (by simp)
      have htt6 := K6 _ _ htt (by simp)
      have hc6 := K16 _ _ hc1 wc
      cases hg : goodB n a sl mo b (st.1 (i : Int)) with
      | false => exact ⟨_, rfl, _, rfl, iteT ⟨_, rfl, ref (good1_no hg) K16⟩⟩
      | true =>
        obtain ⟨v, hv, hf, hin⟩ : ∃ v, st.1 (i : Int) = some v ∧ fitsA n a sl mo = true ∧ n ∈ nmsOf b := by
          unfold goodB at hg
          simp only [Bool.and_eq_true] at hg
          obtain ⟨v, hv⟩ := Option.isSome_iff_exists.mp hg.1
          exact ⟨v, hv, hg.2.1, of_decide_eq_true hg.2.2⟩
        rw [hv] at gi
        have rH : ∀ {Q' : VK}, Q' (.int v) H6 → ∃ x, some (some (V.ref p)) = some (some x) ∧ ∃ y, some (some (V.int (i : Int))) = some (some y) ∧ rIxL K x y H6 Q' := fun q => ⟨_, rfl, _, rfl, _, _, _, _, rfl, rfl, SqL.of g6, atI_nat gi, q⟩
        have bad : (n ∉ nmsOf b ∨ fitsA n a sl mo = false ∨ v < (eff n).1 ∨ v - (eff n).1 + (eff n).2 > 16) → good1 cs sl mo b (i : Int) n a st.1 st.2 = none := fun z => by
          unfold good1
          simp only [hv]
          rcases z with z | z | z
          · rw [if_pos z]
          · rw [if_neg (fun w => w hin), if_pos z]
          · rw [if_neg (fun w => w hin), if_neg (by rw [hf]; simp), if_pos z]
        refine ⟨_, rfl, _, rfl, iteF ⟨_, rfl, _, rfl, _, _, _, _, rfl, rfl, SqL.of g6, atI_nat gi, _, rfl, _, _, _, _, rfl, rfl, SqT.of htt6, rfl, _, _, rfl, rfl, _, rfl, iteD (fun z => ⟨_, rfl, ref (bad (.inr (.inr (.inl z)))) K16⟩) (fun z1 => ?_)⟩⟩
        refine ⟨_, rfl, _, rfl, _, _, _, _, rfl, rfl, SqL.of g6, atI_nat gi, _, rfl, _, _, _, _, rfl, rfl, SqT.of htt6, rfl, _, _, rfl, rfl, _, rfl, _, _, _, _, rfl, rfl, SqT.of htt6, rfl, _, _, rfl, rfl, _, _, rfl, rfl, _, rfl, iteD (fun z => ⟨_, rfl, ref (bad (.inr (.inr (.inr z)))) K16⟩) (fun z2 => ?_)⟩
        have hw : ¬ (v < (eff n).1 ∨ v - (eff n).1 + (eff n).2 > 16) := fun z => z.elim z1 z2
        -- the end's height
        have badE : n = "end" → v ≠ b2i' b → good1 cs sl mo b (i : Int) n a st.1 st.2 = none := fun e z => by
          unfold good1
          simp only [hv]
          rw [if_neg (fun w => w hin), if_neg (by rw [hf]; simp), if_neg hw, if_pos e, if_neg z]
        refine ⟨fun σ H' => H' = H6 ∧ σ = [some (.ref c), some (.int sl), some (.int mo), some (.bl b), some (.ref p), some (.int st.2), some (.int (i : Int)), some (.ref u), some (.ref tt), some (.bl true), o10, o11] ∧ (n = "end" → v = b2i' b), ?_, ?_⟩
        · refine ⟨_, rfl, _, _, _, _, rfl, rfl, SqT.of hu6, rfl, rfl, _, rfl, iteD (fun e => ?_) (fun e => ⟨rfl, rfl, fun z => absurd (congrArg V.str z) e⟩)⟩
          have e := V.str.inj e
          refine ⟨_, rfl, _, rfl, _, _, _, _, rfl, rfl, SqL.of g6, atI_nat gi, _, rfl, .inr ⟨_, rfl, rfl, _, rfl, ?_⟩⟩
          exact iteN (p := V.int v = V.int (if b = true then 1 else 0)) (fun z => ⟨_, rfl, ref (badE e fun w => z (congrArg V.int w)) K16⟩) (fun z => ⟨rfl, rfl, fun _ => V.int.inj z⟩)
        rintro σ H8 ⟨h8, rfl, he⟩
        have h9 := h8.symm
        subst h9
        refine ⟨_, rfl, _, rfl, _, _, _, _, rfl, rfl, SqL.of g6, atI_nat gi, _, rfl, _, _, _, _, rfl, rfl, SqT.of htt6, rfl, _, _, rfl, rfl, _, rfl, _, _, _, _, rfl, rfl, SqT.of htt6, rfl, _, _, rfl, rfl, ?_⟩
        refine ⟨_, rfl, _, rfl, _, _, rfl, ?_⟩
        have hil : (i : Int) < (cs.length : Int) := by omega
        have badB : n = "back" → backOk cs st.1 (i : Int) ((i : Int) - a) = false → good1 cs sl mo b (i : Int) n a st.1 st.2 = none := fun e z => by
          have ne : ¬ n = "end" := by rw [e]; decide +kernel
          unfold good1
          simp only [hv]
          rw [if_neg (fun w => w hin), if_neg (by rw [hf]; simp), if_neg hw, if_neg ne, if_pos e, if_neg (by rw [z]; simp)]
        refine ⟨fun σ H' => ∃ o11, σ = [some (.ref c), some (.int sl), some (.int mo), some (.bl b), some (.ref p), some (.int (if (v - (eff n).1 + (eff n).2) > st.2 then (v - (eff n).1 + (eff n).2) else st.2)), some (.int (i : Int)), some (.ref u), some (.ref tt), some (.bl true), some (.int (v - (eff n).1 + (eff n).2)), o11] ∧ Keep [] H6 H' ∧ (n = "back" → backOk cs st.1 (i : Int) ((i : Int) - a) = true), ?_, ?_⟩
        · refine ⟨_, rfl, _, _, _, _, rfl, rfl, SqT.of hu6, rfl, rfl, _, rfl, iteD (fun e => ?_) (fun e => ⟨_, rfl, Keep.refl _ _, fun z => absurd (congrArg V.str z) e⟩)⟩
          have e := V.str.inj e
          have hvw : (v - (eff n).1 + (eff n).2) = v := by
            rw [e]
            have : eff "back" = (0, 0) := by decide +kernel
            rw [this]
            show v - 0 + 0 = v
            omega
          refine ⟨_, rfl, _, rfl, _, _, _, _, rfl, rfl, SqT.of hu6, rfl, _, _, rfl, rfl, ?_⟩
          have out : ∀ {H7 : Hp}, Keep [] H6 H7 → backOk cs st.1 (i : Int) ((i : Int) - a) = false → ∃ x, some (some (V.int (i : Int))) = some (some x) ∧ 3 ≤ sizeLine ∧ ∀ t, H7 t = none → Q (.ref t) (upd H7 t (.tup [.str "refused", x, .bl true])) := fun K z => ⟨_, rfl, ref (badB e z) (K16.trans (K.mono (by simp)))⟩
          have out1 : ¬ (0 ≤ (i : Int) - a ∧ (i : Int) - a < (i : Int)) → backOk cs st.1 (i : Int) ((i : Int) - a) = false := fun z => by
            unfold backOk
            rw [decide_eq_false z]; rfl
          refine ⟨_, rfl, _, _, rfl, rfl, _, rfl, iteD (fun h1 => ⟨_, rfl, _, _, rfl, rfl, _, rfl, iteN (fun h2 => out (Keep.refl _ _) (out1 fun z => h2 z.2)) (fun h2 => ?_)⟩) (fun h1 => ⟨_, rfl, iteT (out (Keep.refl _ _) (out1 fun z => h1 z.1))⟩)⟩
          have et : (i : Int) - a = ((((i : Int) - a).toNat : Nat) : Int) := by omega
          have hlt : ((i : Int) - a).toNat < cs.length := by omega
          have hgt : cs[((i : Int) - a).toNat]? = some cs[((i : Int) - a).toNat] := List.getElem?_eq_getElem _
          have hmem : cs[((i : Int) - a).toNat] ∈ cs := List.getElem_mem _
          generalize cs[((i : Int) - a).toNat] = pr at hgt hmem
          obtain ⟨n2, a2⟩ := pr
          obtain ⟨u2, q1, q2⟩ := (prs1.tk (tkp K16)).get hgt
          have at2 : atI xs ((i : Int) - a) = some (.ref u2) := by rw [et]; exact atI_nat q1
          refine ⟨_, rfl, _, rfl, _, _, _, _, rfl, rfl, SqL.of hc6, at2, by show 2 ≤ sizeLine; decide, fun w' nw' => ?_⟩
          have k7 : Keep [] H6 (upd H6 w' (.tup [.str "unit", .int 0])) := Keep.new nw'
          refine ⟨_, _, dpIns (k7 _ _ q2 (by simp)), dpIns upd_same, shp (nm_ok n2 (hnm _ hmem)), shp (by decide +kernel), _, rfl, ?_⟩
          rw [eqv_ins]
          have bk : backOk cs st.1 (i : Int) ((i : Int) - a) = (decide ((n2, a2) = (("unit" : Str), (0 : Int))) && decide (st.1 ((i : Int) - a) = st.1 (i : Int))) := by
            unfold backOk
            rw [decide_eq_true (show 0 ≤ (i : Int) - a ∧ (i : Int) - a < (i : Int) from ⟨h1, h2⟩), hgt, Bool.true_and]
            congr 1
            by_cases z : (n2, a2) = (("unit" : Str), (0 : Int))
            · rw [z]; simp
            · rw [decide_eq_false z, decide_eq_false (fun y => z (Option.some.inj y))]
          refine iteN (fun z => out k7 (by rw [bk, decide_eq_false z]; rfl)) (fun z => ?_)
          rw [decide_eq_true z, Bool.true_and] at bk
          have g7 := k7 _ _ g6 (by simp)
          have gt7 := g3 _ hlt
          rw [← et] at gt7
          have at3 : atI ys ((i : Int) - a) = some (optV (st.1 ((i : Int) - a))) := by
            have := atI_nat gt7
            rwa [← et] at this
          refine ⟨_, rfl, _, rfl, _, _, _, _, rfl, rfl, SqL.of g7, at3, _, rfl, ?_⟩
          have hsc : ∀ o : Option Int, scal (optV o) (.int (v - (eff n).1 + (eff n).2)) = true := fun o => by cases o <;> rfl
          have hq : optV (st.1 ((i : Int) - a)) = V.int (v - (eff n).1 + (eff n).2) ↔ st.1 ((i : Int) - a) = st.1 (i : Int) := by
            rw [hv, hvw]
            cases st.1 ((i : Int) - a) with
            | none => exact ⟨fun z => (by cases z), fun z => (by cases z)⟩
            | some y => exact ⟨fun z => (by cases z; rfl), fun z => (by cases z; rfl)⟩
          refine ⟨hsc _, _, rfl, iteN (fun z2 => out k7 (by rw [bk]; exact decide_eq_false fun y => z2 (hq.mpr y))) (fun z2 => ⟨_, rfl, k7, fun _ => by rw [bk]; exact decide_eq_true (hq.mp z2)⟩)⟩
        rintro σ H7 ⟨o11', rfl, K7, hbk⟩
        have hgood := good1_of (top := st.2) hv hin hf hw he hbk
        have K17 : Keep [p] H1 H7 := K16.trans (K7.mono (by simp))
        have hu7 := K7 _ _ hu6 (by simp)
        have g7 := K7 _ _ g6 (by simp)
        refine ⟨_, rfl, _, rfl, u, n, a, (i : Int), rfl, hu7, fun l H8 nl hl K8 => ?_⟩
        have K18 : Keep [p] H1 H8 := K17.trans (K8.mono (by simp))
        have g8 := K8 _ _ g7 (by simp)
        have nlp : l ≠ p := (ne_of_none g7 nl).symm
        have hnng := tgts_nonneg (i := (i : Int)) hf (by omega)
        refine ⟨l, rfl, ⟨_, SqL.of hl⟩, for_list (K := K) (a := l) (xs := (tgts (i : Int) n a).map V.int) (fun t σ H' => ∃ (hh : Hts) (o11 : Option V), σ = [some (.ref c), some (.int sl), some (.int mo), some (.bl b), some (.ref p), some (.int (if (v - (eff n).1 + (eff n).2) > st.2 then (v - (eff n).1 + (eff n).2) else st.2)), some (.int (i : Int)), some (.ref u), some (.ref tt), some (.bl true), some (.int (v - (eff n).1 + (eff n).2)), o11] ∧
          HL H' p hh cs.length ∧ reach cs.length (v - (eff n).1 + (eff n).2) (tgts (i : Int) n a) st.1 = reach cs.length (v - (eff n).1 + (eff n).2) ((tgts (i : Int) n a).drop t) hh ∧ Keep [p] H8 H') ⟨st.1, _, rfl, ⟨ys, g8, g2, g3⟩, rfl, Keep.refl _ _⟩ (fun t σ H' _ ⟨_, _, _, _, _, kk⟩ => SqL.of (kk _ _ hl (by simpa using nlp))) ?_ ?_⟩
        · rintro t y σ H9 ht ⟨hh, o11'', rfl, hL9, hre, K9⟩
          obtain ⟨z, hz, rfl⟩ := ints_get ht
          obtain ⟨hlt, hze⟩ := List.getElem?_eq_some_iff.mp hz
          have hz0 := hnng z (hze ▸ List.getElem_mem hlt)
          rw [List.drop_eq_getElem_cons hlt, hze] at hre
          have K19 : Keep [p] H1 H9 := K18.trans K9
          have hc9 := K19 _ _ hc1 wc
          have no : (z ≥ (cs.length : Int) ∨ (hh z).getD (v - (eff n).1 + (eff n).2) ≠ (v - (eff n).1 + (eff n).2)) → good1 cs sl mo b (i : Int) n a st.1 st.2 = none := fun q => by
            rw [hgood, hre]
            have : reach cs.length (v - (eff n).1 + (eff n).2) (z :: (tgts (i : Int) n a).drop (t + 1)) hh = none := if_pos q
            rw [this]; rfl
          have go : ¬ z ≥ (cs.length : Int) → ¬ (hh z).getD (v - (eff n).1 + (eff n).2) ≠ (v - (eff n).1 + (eff n).2) → reach cs.length (v - (eff n).1 + (eff n).2) (tgts (i : Int) n a) st.1 = reach cs.length (v - (eff n).1 + (eff n).2) ((tgts (i : Int) n a).drop (t + 1)) (setH hh z (v - (eff n).1 + (eff n).2)) := fun q1 q2 => by
            rw [hre]
            exact if_neg fun q => q.elim q1 q2
          refine ⟨_, rfl, _, rfl, _, _, rfl, .inl (SqL.of hc9), _, _, rfl, rfl, _, rfl, iteD (fun q1 => ?_) (fun q1 => ?_)⟩
          · rw [hlen] at q1
            exact ⟨_, rfl, ref (no (.inl q1)) K19⟩
          rw [hlen] at q1
          obtain ⟨zs, r1, r2, r3⟩ := id hL9
          obtain ⟨j, rfl⟩ : ∃ j : Nat, z = (j : Int) := ⟨z.toNat, by omega⟩
          have hj : j < cs.length := by omega
          have gj := r3 j hj
          have store : ¬ (hh (j : Int)).getD (v - (eff n).1 + (eff n).2) ≠ (v - (eff n).1 + (eff n).2) → _ := fun q2 => HL.put (v := (v - (eff n).1 + (eff n).2)) r1 r2 r3 hj
          refine ⟨_, rfl, _, rfl, _, _, _, _, rfl, rfl, SqL.of r1, atI_nat gj, rfl, ?_⟩
          cases hq : hh (j : Int) with
          | none =>
            refine ⟨_, rfl, iteNF (p := optV none = V.non) rfl ?_⟩
            have q2 : ¬ (hh (j : Int)).getD (v - (eff n).1 + (eff n).2) ≠ (v - (eff n).1 + (eff n).2) := by rw [hq]; exact fun z => z rfl
            exact ⟨_, rfl, _, rfl, _, rfl, _, _, _, j, rfl, rfl, r1, ixN_j (by omega), _, _, rfl, store q2, go q1 q2, K9.then_at (List.mem_singleton.mpr rfl)⟩
          | some y =>
            rw [hq] at gj
            refine ⟨_, rfl, iteNT (p := optV (some y) = V.non) (by intro z; cases z) ?_⟩
            refine ⟨_, rfl, _, rfl, _, _, _, _, rfl, rfl, SqL.of r1, atI_nat gj, _, rfl, rfl, _, rfl, iteN (fun q2 => ?_) (fun q2 => ?_)⟩
            · exact ⟨_, rfl, ref (no (.inr (by rw [hq]; exact fun z => q2 (congrArg V.int z)))) K19⟩
            · have q2 : ¬ (hh (j : Int)).getD (v - (eff n).1 + (eff n).2) ≠ (v - (eff n).1 + (eff n).2) := by
                rw [hq]
                exact fun z => z (V.int.inj q2)
              exact ⟨_, rfl, _, rfl, _, rfl, _, _, _, j, rfl, rfl, r1, ixN_j (by omega), _, _, rfl, store q2, go q1 q2, K9.then_at (List.mem_singleton.mpr rfl)⟩
        · rintro σ H9 ⟨hh, o11'', rfl, hL9, hre, K9⟩
          rw [List.length_map, List.drop_of_length_le (Nat.le_refl _)] at hre
          rw [hre] at hgood
          refine ⟨_, _, _, _, _, _, _, rfl, hup.trans hgood, ?_, K18.trans K9⟩
          rw [if_neg (by omega)]
          exact hL9
    · rintro σ H2 ⟨st, o6, o7, o8, o9, o10, o11, rfl, hst, hL, K2⟩
      have hc2 := K2 _ _ hc1 wc
      refine ⟨_, rfl, _, _, rfl, .inl (SqL.of hc2), rfl, _, rfl, iteD (fun e => ?_) (fun e => ?_)⟩
      · have e : cs = [] := by
          have := V.int.inj e
          exact List.eq_nil_of_length_eq_zero (by omega)
        refine ⟨by show 3 ≤ sizeLine; decide, fun t nt => k (.inl 0) t _ (.inl ⟨e, rfl⟩) ((own K2).free nt) upd_same ((own K2).then_new nt)⟩
      · have e : cs ≠ [] := fun z => e (by rw [hlen, z]; rfl)
        exact ⟨_, rfl, by show 2 ≤ sizeLine; decide, fun t nt => k (.inr st.2) t _ ⟨e, st, hst, rfl⟩ ((own K2).free nt) upd_same ((own K2).then_new nt)⟩
end

/-! the law's draws -/
def sp_law_few : Sp := fun vs H Q _ => ∃ (p q : Addr) (ns : List Int) (bud most : Int), vs = [.ref p, .int most] ∧ 0 ≤ most ∧ most < 1000000 ∧ Pool H p q ns bud ∧ ∀ r H', 0 ≤ r → r ≤ most → Pool H' p q ns bud → Keep [p] H H' → Q (.int r) H'
def sp_law_number : Sp := fun vs H Q _ => ∃ (p q : Addr) (ns : List Int) (bud : Int), vs = [.ref p] ∧ Pool H p q ns bud ∧ ∀ r H', 0 ≤ r → r < 65536 → Pool H' p q ns bud → Keep [p] H H' → Q (.int r) H'
def CL (H : Hp) (l : Addr) (cs : List In2) : Prop := ∃ xs, H l = some (.lst xs) ∧ Prs H xs cs
theorem CL.keep {H H' : Hp} {l : Addr} {cs : List In2} {W : List Addr} (h : CL H l cs) (k : Keep W H H') (t : TK H H') (w : l ∉ W) : CL H' l cs := by
  obtain ⟨xs, h1, h2⟩ := h
  exact ⟨xs, k _ _ h1 w, h2.tk t⟩
theorem CL.keep0 {H H' : Hp} {l : Addr} {cs : List In2} (h : CL H l cs) (k : Keep [] H H') : CL H' l cs := h.keep k k.tk (by simp)
theorem Pool.tkb {H H' : Hp} {p q : Addr} {ns : List Int} {bud : Int} (h : Pool H p q ns bud) (k : Keep [p] H H') : TK H H' := by
  obtain ⟨i1, i2, i3, i4, h, _⟩ := h
  exact k.tk1 h
theorem CL.keepP {H H' : Hp} {l p q : Addr} {cs : List In2} {ns : List Int} {bud : Int} (h : CL H l cs) (P : Pool H p q ns bud) (k : Keep [p] H H') (w : l ≠ p) : CL H' l cs := h.keep k (P.tkb k) (by simpa using w)
theorem CL.one {H : Hp} {t l : Addr} {n : Str} {a : Int} (nl : upd H t (.tup [.str n, .int a]) l = none) : CL (upd (upd H t (.tup [.str n, .int a])) l (.lst [.ref t])) l [(n, a)] :=
  ⟨_, upd_same, .cons (Keep.new (W := []) nl _ _ upd_same (by simp)) .nil⟩
theorem CL.cat {H : Hp} {p : Addr} {xs ys : List V} {c1 c2 : List In2} (h1 : Prs H xs c1) (h2 : Prs H ys c2) (np : H p = none) : CL (upd H p (.lst (xs ++ ys))) p (c1 ++ c2) :=
  ⟨_, upd_same, (h1.app h2).tk (TK.new np)⟩
def Nm (n : Str) : Prop := n ∈ allNm ++ (["", "halt", "push ", "pushes"] : List Str)
theorem NmOk.nil : NmOk [] := fun _ h => by cases h
theorem NmOk.one {n : Str} {a : Int} (h : n ∈ allNm) : NmOk [(n, a)] := fun p hp => by
  rw [List.mem_singleton] at hp
  subst hp
  exact List.mem_append_left _ h
theorem NmOk.app {c1 c2 : List In2} (h1 : NmOk c1) (h2 : NmOk c2) : NmOk (c1 ++ c2) := fun p hp => (List.mem_append.mp hp).elim (h1 p) (h2 p)
def Lv : Nat → Nat
  | 0 => 1
  | n + 1 => 3 * Lv n + 2
theorem Lv_pos : ∀ n, 1 ≤ Lv n
  | 0 => Nat.le_refl 1
  | n + 1 => by have := Lv_pos n; show 1 ≤ 3 * Lv n + 2; omega
def sp_value (n : Nat) : Sp := fun vs H Q _ => ∃ (p q : Addr) (ns : List Int) (bud sl mo : Int) (br : Bool) (deep : Int), vs = [.ref p, .int sl, .int mo, .bl br, .int deep] ∧ Pool H p q ns bud ∧ 0 ≤ sl ∧ sl ≤ 12 ∧ 0 ≤ mo ∧ mo ≤ 24 ∧ 0 ≤ deep ∧ deep < (n : Int) ∧ n ≤ 5 ∧
  ∀ l cs bud' H', H l = none → CL H' l cs → NmOk cs → cs.length ≤ Lv deep.toNat → bud' ≤ bud → Pool H' p q ns bud' → Keep [p] H H' → Q (.ref l) H'
theorem Lv_le {n : Nat} (h : n ≤ 4) : Lv n ≤ 161 := by
  have : ∀ n, n ≤ 4 → Lv n ≤ 161 := by decide
  exact this n h
section
variable {P : Program} {w : World} {K : PySem.W.Frag} {mg : Str → Option Value} {base : Heap} {C_Tape : Addr} {C_Thinker : Addr} {C_Brain : Addr} {C_Mind : Addr} {C_Frame : Addr} {C_Thinking : Addr} {C_Checker : Addr} {C_GameError : Addr} {C_BadCode : Addr} {f_BadCode___init : Addr} {T_EVENTS : Addr} {T_SIGNS : Addr} {T_ROUND_NAMES : Addr} {T_BRAIN_NAMES : Addr} {T_EFFECTS : Addr}
theorem ok_law_few {f : Addr} {fd : FuncData} (D : C8.Def K mg "_law_few" s_law_few f fd) (b : Binds K fd ["pool", "most"] []) (T : Txt K mg C_Tape C_Thinker C_Brain C_Mind C_Frame C_Thinking C_Checker C_GameError C_BadCode T_EVENTS T_SIGNS T_ROUND_NAMES T_BRAIN_NAMES T_EFFECTS) (c_law_draw : C8.Cal P w K mg base 1 "_law_draw" sp_law_draw []) : C8.Cal P w K mg base 2 "_law_few" sp_law_few [] := by
  refine cal0 D b .nil sc_law_few (fun vs H Q E h => ?_) (fun cdv A outer s H vs Q E hr h => ?_)
  · obtain ⟨p, q, ns, bud, m, rfl, _⟩ := h
    rfl
  · obtain ⟨p, q, ns, bud, m, rfl, m0, m1, hP, k⟩ := h
    refine ⟨_, (pss_cons (ps_set (i := 2) sc_law_few.nd rfl (by first | exact Or.inl rfl | exact Or.inr rfl) (pe_c c_law_draw hr (by first | exact Nat.le_refl _ | decide | omega) rfl (pa_cons (pv 0) (pa_cons pe_int pa_nil))))
(pss_cons (ps_if (pt_cmpR op_eq (pv 2) pe_int (nomark _))
  (pss_one (ps_ret (pe_c c_law_draw hr (by first | exact Nat.le_refl _ | decide | omega) rfl (pa_cons (pv 0) (pa_cons (pe_op op_add (pv 1) pe_int) pa_nil)))))
  pss_nil)
(pss_one (ps_ret (pe_callB (call_min2 rfl) (by rfl) T.n_min bo_min (pa_cons (pv 2) (pa_cons (pv 1) pa_nil))))))), ?_⟩
    refine ⟨_, rfl, p, q, ns, bud, 4, rfl, by decide, by decide, hP, fun r H1 r0 r1 P1 K1 => ?_⟩
    refine ⟨_, rfl, rfl, _, rfl, iteD (fun _ => ?_) (fun _ => ?_)⟩
    · refine ⟨_, rfl, _, rfl, _, _, rfl, rfl, p, q, ns, bud, _, rfl, by omega, by omega, P1, fun r2 H2 z0 z1 P2 K2 => ?_⟩
      exact k _ _ z0 (by omega) P2 (K1.trans K2)
    · refine ⟨_, rfl, _, rfl, _, _, rfl, k _ _ ?_ ?_ P1 K1⟩
      · split <;> omega
      · split <;> omega
theorem ok_law_number {f : Addr} {fd : FuncData} (D : C8.Def K mg "_law_number" s_law_number f fd) (b : Binds K fd ["pool"] []) (T : Txt K mg C_Tape C_Thinker C_Brain C_Mind C_Frame C_Thinking C_Checker C_GameError C_BadCode T_EVENTS T_SIGNS T_ROUND_NAMES T_BRAIN_NAMES T_EFFECTS) (c_law_draw : C8.Cal P w K mg base 1 "_law_draw" sp_law_draw []) : C8.Cal P w K mg base 2 "_law_number" sp_law_number [] := by
  refine cal0 D b .nil sc_law_number (fun vs H Q E h => ?_) (fun cdv A outer s H vs Q E hr h => ?_)
  · obtain ⟨p, q, ns, bud, rfl, _⟩ := h
    rfl
  · obtain ⟨p, q, ns, bud, rfl, hP, k⟩ := h
    refine ⟨_, (pss_cons (ps_if (pt_cmpR op_eq (pe_c c_law_draw hr (by first | exact Nat.le_refl _ | decide | omega) rfl (pa_cons (pv 0) (pa_cons pe_int pa_nil))) pe_int (nomark _))
  (pss_one (ps_ret (pe_c c_law_draw hr (by first | exact Nat.le_refl _ | decide | omega) rfl (pa_cons (pv 0) (pa_cons pe_int pa_nil)))))
  pss_nil)
(pss_one (ps_ret (pe_c c_law_draw hr (by first | exact Nat.le_refl _ | decide | omega) rfl (pa_cons (pv 0) (pa_cons pe_int pa_nil)))))), ?_⟩
    refine ⟨_, rfl, p, q, ns, bud, 3, rfl, by decide, by decide, hP, fun r H1 r0 r1 P1 K1 => ?_⟩
    refine ⟨rfl, _, rfl, iteD (fun _ => ?_) (fun _ => ?_)⟩
    · exact ⟨_, rfl, p, q, ns, bud, _, rfl, by decide, by decide, P1, fun r2 H2 z0 z1 P2 K2 => k _ _ z0 z1 P2 (K1.trans K2)⟩
    · exact ⟨_, rfl, p, q, ns, bud, _, rfl, by decide, by decide, P1, fun r2 H2 z0 z1 P2 K2 => k _ _ z0 (by omega) P2 (K1.trans K2)⟩
theorem ok_value0 {f : Addr} {fd : FuncData} (D : C8.Def K mg "_law_some_value" s_law_some_value f fd) (b : Binds K fd ["pool", "slots", "moves", "brain", "deep"] []) {k : Nat} : C8.Cal P w K mg base k "_law_some_value" (sp_value 0) [] :=
  ⟨f, fd, ["pool", "slots", "moves", "brain", "deep"], [], ⟨fun vs H Q E h => (by obtain ⟨p, q, ns, bud, sl, mo, br, deep, rfl, _⟩ := h; rfl), fun A outer s H args us vs Q E _ _ _ _ h => (by
    obtain ⟨p, q, ns, bud, sl, mo, br, deep, _, _, _, _, _, _, h1, h2, _⟩ := h
    exact absurd h2 (by omega))⟩, D.mgf, D.kp, b, .nil⟩
theorem ok_value {f : Addr} {fd : FuncData} (D : C8.Def K mg "_law_some_value" s_law_some_value f fd) (b : Binds K fd ["pool", "slots", "moves", "brain", "deep"] []) (T : Txt K mg C_Tape C_Thinker C_Brain C_Mind C_Frame C_Thinking C_Checker C_GameError C_BadCode T_EVENTS T_SIGNS T_ROUND_NAMES T_BRAIN_NAMES T_EFFECTS) {n k : Nat} (c_law_some_value : C8.Cal P w K mg base k "_law_some_value" (sp_value n) []) (c_law_draw : C8.Cal P w K mg base k "_law_draw" sp_law_draw [])
    (c_law_spend : C8.Cal P w K mg base k "_law_spend" sp_law_spend []) (c_law_number : C8.Cal P w K mg base k "_law_number" sp_law_number []) : C8.Cal P w K mg base (k + 1) "_law_some_value" (sp_value (n + 1)) [] := by
  refine cal0 D b .nil sc_law_some_value (fun vs H Q E h => ?_) (fun cdv A outer s H vs Q E hr h => ?_)
  · obtain ⟨p, q, ns, bud, sl, mo, br, deep, rfl, _⟩ := h
    rfl
  · obtain ⟨p, q, ns, bud, sl, mo, br, deep, rfl, hP, sl0, sl1, mo0, mo1, d0, d1, hn5, k⟩ := h
    refine ⟨_, (pss_cons (ps_set (i := 5) sc_law_some_value.nd rfl (by first | exact Or.inl rfl | exact Or.inr rfl) (pe_c c_law_draw hr (by first | exact Nat.le_refl _ | decide | omega) rfl (pa_cons (pv 0) (pa_cons pe_int pa_nil))))
(pss_cons (ps_if (PW.pt (pw_or (pt_cmpR op_eq (pv 4) pe_int (nomark _)) (pw_or (pt_cmpR op_lt (pv 5) pe_int (nomark _)) (pw_or1 (pt_not (pt_val (pe_c c_law_spend hr (by first | exact Nat.le_refl _ | decide | omega) rfl (pa_cons (pv 0) pa_nil))))))))
  (pss_cut (ps_if (PW.pt (pw_and (pt_cmpR op_eq (pv 5) pe_int (nomark _)) (pw_and1 (pt_cmpR op_gt (pv 1) pe_int (nomark _)))))
    (pss_one (ps_ret (pe_lst (pa_cons (pe_tup (pa_cons pe_str (pa_cons (pe_c c_law_draw hr (by first | exact Nat.le_refl _ | decide | omega) rfl (pa_cons (pv 0) (pa_cons (pv 1) pa_nil))) pa_nil))) pa_nil))))
    pss_nil)
  (pss_cut (ps_if (PW.pt (pw_and (pt_cmpR op_eq (pv 5) pe_int (nomark _)) (pw_and1 (pt_val (pv 3)))))
    (pss_one (ps_ret (pe_lst (pa_cons (pe_tup (pa_cons pe_str (pa_cons pe_int pa_nil))) pa_nil))))
    pss_nil)
  (pss_cut (ps_if (PW.pt (pw_and (pt_cmpR op_eq (pv 5) pe_int (nomark _)) (pw_and1 (pt_cmpR op_gt (pv 2) pe_int (nomark _)))))
    (pss_one (ps_ret (pe_lst (pa_cons (pe_tup (pa_cons pe_str (pa_cons (pe_c c_law_draw hr (by first | exact Nat.le_refl _ | decide | omega) rfl (pa_cons (pv 0) (pa_cons (pv 2) pa_nil))) pa_nil))) pa_nil))))
    pss_nil)
  (pss_one (ps_ret (pe_lst (pa_cons (pe_tup (pa_cons pe_str (pa_cons (pe_c c_law_number hr (by first | exact Nat.le_refl _ | decide | omega) rfl (pa_cons (pv 0) pa_nil)) pa_nil))) pa_nil)))))))
  pss_nil)
(pss_cons (ps_set (i := 6) sc_law_some_value.nd rfl (by first | exact Or.inl rfl | exact Or.inr rfl) (pe_c c_law_some_value hr (by first | exact Nat.le_refl _ | decide | omega) rfl (pa_cons (pv 0) (pa_cons (pv 1) (pa_cons (pv 2) (pa_cons (pv 3) (pa_cons (pe_op op_sub (pv 4) pe_int) pa_nil)))))))
(pss_cons (ps_if (pt_cmpR op_eq (pv 5) pe_int (nomark _))
  (pss_one (ps_ret (pe_op op_cat (pv 6) (pe_lst (pa_cons (pe_tup (pa_cons pe_str (pa_cons pe_int pa_nil))) pa_nil)))))
  pss_nil)
(pss_cut (ps_if (PW.pt (pw_and (pt_cmpR op_eq (pv 5) pe_int (nomark _)) (pw_and1 (pt_val (pv 3)))))
  (pss_one (ps_ret (pe_op op_cat (pv 6) (pe_lst (pa_cons (pe_tup (pa_cons pe_str (pa_cons pe_int pa_nil))) pa_nil)))))
  pss_nil)
(pss_cons (ps_set (i := 7) sc_law_some_value.nd rfl (by first | exact Or.inl rfl | exact Or.inr rfl) (pe_c c_law_some_value hr (by first | exact Nat.le_refl _ | decide | omega) rfl (pa_cons (pv 0) (pa_cons (pv 1) (pa_cons (pv 2) (pa_cons (pv 3) (pa_cons (pe_op op_sub (pv 4) pe_int) pa_nil)))))))
(pss_cons (ps_if (pt_cmpR op_lt (pv 5) pe_int (nomark _))
  (pss_one (ps_ret (pe_op op_cat (pe_op op_cat (pv 6) (pv 7)) (pe_lst (pa_cons (pe_tup (pa_cons pe_str (pa_cons (pe_c c_law_draw hr (by first | exact Nat.le_refl _ | decide | omega) rfl (pa_cons (pv 0) (pa_cons pe_int pa_nil))) pa_nil))) pa_nil)))))
  pss_nil)
(pss_cons (ps_set (i := 8) sc_law_some_value.nd rfl (by first | exact Or.inl rfl | exact Or.inr rfl) (pe_c c_law_some_value hr (by first | exact Nat.le_refl _ | decide | omega) rfl (pa_cons (pv 0) (pa_cons (pv 1) (pa_cons (pv 2) (pa_cons (pv 3) (pa_cons (pe_op op_sub (pv 4) pe_int) pa_nil)))))))
(pss_one (ps_ret (pe_op op_cat (pe_op op_cat (pe_op op_cat (pe_op op_cat (pv 6) (pe_lst (pa_cons (pe_tup (pa_cons pe_str (pa_cons (pe_op op_add (pe_callB call_len_seq (by rfl) T.n_len bo_len (pa_cons (pv 7) pa_nil)) pe_int) pa_nil))) pa_nil))) (pv 7)) (pe_lst (pa_cons (pe_tup (pa_cons pe_str (pa_cons (pe_callB call_len_seq (by rfl) T.n_len bo_len (pa_cons (pv 8) pa_nil)) pa_nil))) pa_nil))) (pv 8)))))))))))), ?_⟩
    have kone : ∀ {H2 : Hp} {bud2 : Int} {nm : Str} {a : Int}, nm ∈ allNm → Pool H2 p q ns bud2 → bud2 ≤ bud → Keep [p] H H2 → 2 ≤ sizeLine ∧ ∀ t, H2 t = none → 1 ≤ sizeLine ∧ ∀ l, upd H2 t (.tup [.str nm, .int a]) l = none → Q (.ref l) (upd (upd H2 t (.tup [.str nm, .int a])) l (.lst [.ref t])) := fun {H2 bud2 nm a} hm P2 hb K2 =>
      ⟨by decide, fun t nt => ⟨by decide, fun l nl => by
        have kk : Keep [] H2 (upd (upd H2 t (.tup [.str nm, .int a])) l (.lst [.ref t])) := (Keep.new nt).then_new nl
        exact k l [(nm, a)] bud2 _ (P2.free K2 ((Keep.new (W := []) nt).free nl)) (CL.one nl) (.one hm) (Lv_pos _) hb (P2.keep0 kk) (K2.trans (kk.mono (by simp)))⟩⟩
    refine ⟨_, rfl, p, q, ns, bud, 10, rfl, by decide, by decide, hP, fun kd H1 a0 a1 P1 K1 => ?_⟩
    refine ⟨_, rfl, rfl, _, rfl, iteD (fun e => ?leafA) (fun e => ⟨_, rfl, _, _, rfl, rfl, _, rfl, iteD (fun e2 => ?leafB) (fun e2 => ⟨_, rfl, p, q, ns, bud, rfl, P1, fun H2 P2 K2 => ⟨_, rfl, iteN (fun e3 => ?leafC) (fun e3 => ?rest)⟩⟩)⟩)⟩
    case rest =>
      have hd : deep ≠ 0 := fun z => e (congrArg V.int z)
      obtain ⟨m, hm⟩ : ∃ m : Nat, deep.toNat = m + 1 := ⟨deep.toNat - 1, by omega⟩
      have hm' : (deep - 1).toNat = m := by omega
      have hml : Lv (deep - 1).toNat = Lv m := by rw [hm']
      have hLv : Lv deep.toNat = 3 * Lv m + 2 := by rw [hm]; rfl
      have hLb := Lv_le (n := m) (by omega)
      have K12 := K1.trans K2
      -- the left one
      refine ⟨_, rfl, _, rfl, _, rfl, _, rfl, _, rfl, _, _, rfl, rfl, p, q, ns, _, sl, mo, br, deep - 1, rfl, P2, sl0, sl1, mo0, mo1, by omega, by omega, by omega, fun l c1 b3 H3 nl hl hn1 hc1 hb3 P3 K3 => ?_⟩
      rw [hml] at hc1
      have nlp : l ≠ p := P2.nep nl
      have K13 := K12.trans K3
      obtain ⟨xs, hx, px⟩ := id hl
      have nl0 : H l = none := P2.free K12 nl
      have fin : ∀ {H4 : Hp} {nm : Str} {b4 : Int} {cx : List In2} {x : Addr} {zs : List V}, nm ∈ allNm → H4 x = some (.lst zs) → Prs H4 zs cx → NmOk cx → cx.length + 1 ≤ Lv deep.toNat → cx.length ≤ 1000 → b4 ≤ bud → Pool H4 p q ns b4 → Keep [p] H H4 → ∀ a : Int, 2 ≤ sizeLine ∧ ∀ t, H4 t = none → 1 ≤ sizeLine ∧ ∀ u, upd H4 t (.tup [.str nm, .int a]) u = none → ∃ l1 l2 ys1 ys2, V.ref x = .ref l1 ∧ V.ref u = .ref l2 ∧ upd (upd H4 t (.tup [.str nm, .int a])) u (.lst [.ref t]) l1 = some (.lst ys1) ∧ upd (upd H4 t (.tup [.str nm, .int a])) u (.lst [.ref t]) l2 = some (.lst ys2) ∧ ys1.length + ys2.length ≤ sizeLine ∧
          ∀ r, upd (upd H4 t (.tup [.str nm, .int a])) u (.lst [.ref t]) r = none → Q (.ref r) (upd (upd (upd H4 t (.tup [.str nm, .int a])) u (.lst [.ref t])) r (.lst (ys1 ++ ys2))) := fun {H4 nm b4 cx x zs} hm hx px hn hlen hlen2 hb P4 K4 a =>
        ⟨by decide, fun t nt => ⟨by decide, fun u nu => by
          have kk : Keep [] H4 (upd (upd H4 t (.tup [.str nm, .int a])) u (.lst [.ref t])) := (Keep.new nt).then_new nu
          obtain ⟨ys, hy, py⟩ := CL.one nu
          refine ⟨x, u, zs, ys, rfl, rfl, kk _ _ hx (by simp), hy, smallM (by rw [px.len, py.len]; simp; omega), fun r nr => ?_⟩
          have k2 := kk.then_new (o := .lst (zs ++ ys)) nr
          exact k r _ b4 _ (P4.free K4 (kk.free nr)) (CL.cat (px.tk kk.tk) py nr) (hn.app (.one hm)) (by rw [List.length_append]; simpa using hlen) hb (P4.keep0 k2) (K4.trans (k2.mono (by simp)))⟩⟩
      refine ⟨_, rfl, rfl, _, rfl, iteD (fun e4 => ⟨_, rfl, fin (by decide +kernel) hx px hn1 (by omega) (by omega) (by omega) P3 K13 0⟩) (fun e4 => ?_)⟩
      refine ⟨fun σ H' => H' = H3 ∧ σ = [some (.ref p), some (.int sl), some (.int mo), some (.bl br), some (.int deep), some (.int kd), some (.ref l), none, none], ?_, ?_⟩
      · refine ⟨_, rfl, rfl, _, rfl, iteD (fun e5 => ⟨_, rfl, _, rfl, iteB (fun _ => ⟨_, rfl, fin (by decide +kernel) hx px hn1 (by omega) (by omega) (by omega) P3 K13 0⟩) (fun _ => ⟨rfl, rfl⟩)⟩) (fun e5 => ⟨rfl, rfl⟩)⟩
      rintro σ H' ⟨rfl, rfl⟩
      -- the right one
      refine ⟨_, rfl, _, rfl, _, rfl, _, rfl, _, rfl, _, _, rfl, rfl, p, q, ns, _, sl, mo, br, deep - 1, rfl, P3, sl0, sl1, mo0, mo1, by omega, by omega, by omega, fun l2 c2 b4 H4 nl2 hl2 hn2 hc2 hb4 P4 K4 => ?_⟩
      rw [hml] at hc2
      have nlp2 : l2 ≠ p := P3.nep nl2
      have K14 := K13.trans K4
      have hl4 := hl.keepP P3 K4 nlp
      obtain ⟨xs4, hx4, px4⟩ := id hl4
      obtain ⟨ys4, hy4, py4⟩ := id hl2
      refine ⟨_, rfl, _, _, rfl, rfl, _, rfl, iteD (fun e6 => ?_) (fun e6 => ?_)⟩
      · -- a sign
        refine ⟨_, rfl, _, rfl, _, _, _, _, rfl, rfl, hx4, hy4, smallM (by rw [px4.len, py4.len]; omega), fun r nr => ?_⟩
        have k5 : Keep [] H4 (upd H4 r (.lst (xs4 ++ ys4))) := Keep.new nr
        have P5 := P4.keep0 k5
        obtain ⟨zs, hz, pz⟩ := CL.cat px4 py4 nr
        refine ⟨_, rfl, p, q, ns, _, 7, rfl, by decide, by decide, P5, fun sg H6 s0 s1 P6 K6 => ?_⟩
        have hr6 := (show CL _ r (c1 ++ c2) from ⟨zs, hz, pz⟩).keepP P5 K6 (P4.nep nr)
        obtain ⟨zs6, hz6, pz6⟩ := hr6
        exact fin (by decide +kernel) hz6 pz6 (hn1.app hn2) (by rw [List.length_append]; omega) (by rw [List.length_append]; omega) (by omega) P6 ((K14.trans (k5.mono (by simp))).trans K6) sg
      · -- one of two
        refine ⟨_, rfl, _, rfl, _, rfl, _, rfl, _, rfl, _, _, rfl, rfl, p, q, ns, _, sl, mo, br, deep - 1, rfl, P4, sl0, sl1, mo0, mo1, by omega, by omega, by omega, fun l3 c3 b5 H5 nl3 hl3 hn3 hc3 hb5 P5 K5 => ?_⟩
        rw [hml] at hc3
        have K15 := K14.trans K5
        have hl5 := hl4.keepP P4 K5 nlp
        have hr5 := hl2.keepP P4 K5 nlp2
        obtain ⟨xs5, hx5, px5⟩ := hl5
        obtain ⟨ys5, hy5, py5⟩ := hr5
        obtain ⟨zs5, hz5, pz5⟩ := hl3
        have lx := px5.len
        have ly := py5.len
        have lz := pz5.len
        refine ⟨_, rfl, _, rfl, _, _, rfl, .inl (SqL.of hy5), _, _, rfl, rfl, by show 2 ≤ sizeLine; decide, fun t1 nt1 => ⟨by show 1 ≤ sizeLine; decide, fun u1 nu1 => ?_⟩⟩
        have k6 : Keep [] H5 (upd (upd H5 t1 (.tup [.str "skip", .int ((ys5.length : Int) + 1)])) u1 (.lst [.ref t1])) := (Keep.new nt1).then_new nu1
        have hA : CL (upd (upd H5 t1 (.tup [.str "skip", .int ((ys5.length : Int) + 1)])) u1 (.lst [.ref t1])) u1 [("skip", (ys5.length : Int) + 1)] := CL.one nu1
        obtain ⟨as, ha, pa⟩ := hA
        have la := pa.len
        refine ⟨_, _, _, _, rfl, rfl, k6 _ _ hx5 (by simp), ha, smallM (by rw [la]; simp; omega), fun r1 nr1 => ?_⟩
        have k7 := k6.then_new (o := .lst (xs5 ++ as)) nr1
        have hB := CL.cat (px5.tk k6.tk) pa nr1
        obtain ⟨bs, hb, pb⟩ := hB
        have lb := pb.len
        rw [List.length_append] at lb
        refine ⟨_, rfl, _, _, _, _, rfl, rfl, hb, k7 _ _ hy5 (by simp), smallM (by rw [lb]; simp; omega), fun r2 nr2 => ?_⟩
        have k8 := k7.then_new (o := .lst (bs ++ ys5)) nr2
        have hC := CL.cat pb (py5.tk k7.tk) nr2
        obtain ⟨ds, hd2, pd⟩ := hC
        have ld := pd.len
        rw [List.length_append, List.length_append] at ld
        refine ⟨_, rfl, _, _, rfl, .inl (SqL.of (k8 _ _ hz5 (by simp))), by show 2 ≤ sizeLine; decide, fun t2 nt2 => ⟨by show 1 ≤ sizeLine; decide, fun u2 nu2 => ?_⟩⟩
        have hE : CL _ u2 [("jump", (zs5.length : Int))] := CL.one nu2
        obtain ⟨es, he, pe⟩ := hE
        have le := pe.len
        have k9' : Keep [] _ _ := (Keep.new (W := []) nt2).then_new (o := .lst [.ref t2]) nu2
        have k9 := k8.trans k9'
        refine ⟨_, _, _, _, rfl, rfl, k9' _ _ hd2 (by simp), he, smallM (by rw [ld, le]; simp; omega), fun r3 nr3 => ?_⟩
        have k10 := k9.then_new (o := .lst (ds ++ es)) nr3
        have hF := CL.cat (pd.tk k9'.tk) pe nr3
        obtain ⟨fs, hf, pf⟩ := hF
        have lf := pf.len
        rw [List.length_append, List.length_append, List.length_append] at lf
        refine ⟨_, rfl, _, _, _, _, rfl, rfl, hf, k10 _ _ hz5 (by simp), smallM (by rw [lf]; simp; omega), fun r4 nr4 => ?_⟩
        have k11 := k10.then_new (o := .lst (fs ++ zs5)) nr4
        refine k r4 _ b5 _ (P5.free K15 (k10.free nr4)) (CL.cat pf (pz5.tk k10.tk) nr4) ?_ ?_ (by omega) (P5.keep0 k11) (K15.trans (k11.mono (by simp)))
        · exact (((hn1.app (.one (by decide +kernel))).app hn2).app (.one (by decide +kernel))).app hn3
        · rw [List.length_append, List.length_append, List.length_append, List.length_append, hLv]
          simp; omega
    case leafA =>
      refine ⟨fun σ H' => H' = H1 ∧ σ = [some (.ref p), some (.int sl), some (.int mo), some (.bl br), some (.int deep), some (.int kd), none, none, none], ?_, ?_⟩
      · refine ⟨_, rfl, rfl, _, rfl, iteD (fun _ => ⟨_, rfl, _, _, rfl, rfl, _, rfl, iteD (fun hs => ?_) (fun _ => ⟨rfl, rfl⟩)⟩) (fun _ => ⟨rfl, rfl⟩)⟩
        exact ⟨_, rfl, _, rfl, p, q, ns, _, sl, rfl, by omega, by omega, P1, fun r Hr r0 r1 Pr Kr => kone (by decide +kernel) Pr (by omega) (K1.trans Kr)⟩
      rintro σ H' ⟨rfl, rfl⟩
      refine ⟨fun σ H0 => H0 = H' ∧ σ = [some (.ref p), some (.int sl), some (.int mo), some (.bl br), some (.int deep), some (.int kd), none, none, none], ?_, ?_⟩
      · refine ⟨_, rfl, rfl, _, rfl, iteD (fun _ => ⟨_, rfl, _, rfl, iteB (fun _ => ?_) (fun _ => ⟨rfl, rfl⟩)⟩) (fun _ => ⟨rfl, rfl⟩)⟩
        exact kone (by decide +kernel) P1 (by omega) K1
      rintro σ H0 ⟨rfl, rfl⟩
      refine ⟨fun σ H' => H' = H0 ∧ σ = [some (.ref p), some (.int sl), some (.int mo), some (.bl br), some (.int deep), some (.int kd), none, none, none], ?_, ?_⟩
      · refine ⟨_, rfl, rfl, _, rfl, iteD (fun _ => ⟨_, rfl, _, _, rfl, rfl, _, rfl, iteD (fun hs => ?_) (fun _ => ⟨rfl, rfl⟩)⟩) (fun _ => ⟨rfl, rfl⟩)⟩
        exact ⟨_, rfl, _, rfl, p, q, ns, _, mo, rfl, by omega, by omega, P1, fun r Hr r0 r1 Pr Kr => kone (by decide +kernel) Pr (by omega) (K1.trans Kr)⟩
      rintro σ H' ⟨rfl, rfl⟩
      exact ⟨_, rfl, p, q, ns, _, rfl, P1, fun r Hr _ _ Pr Kr => kone (by decide +kernel) Pr (by omega) (K1.trans Kr)⟩
    case leafB =>
      refine ⟨fun σ H' => H' = H1 ∧ σ = [some (.ref p), some (.int sl), some (.int mo), some (.bl br), some (.int deep), some (.int kd), none, none, none], ?_, ?_⟩
      · refine ⟨_, rfl, rfl, _, rfl, iteD (fun _ => ⟨_, rfl, _, _, rfl, rfl, _, rfl, iteD (fun hs => ?_) (fun _ => ⟨rfl, rfl⟩)⟩) (fun _ => ⟨rfl, rfl⟩)⟩
        exact ⟨_, rfl, _, rfl, p, q, ns, _, sl, rfl, by omega, by omega, P1, fun r Hr r0 r1 Pr Kr => kone (by decide +kernel) Pr (by omega) (K1.trans Kr)⟩
      rintro σ H' ⟨rfl, rfl⟩
      refine ⟨fun σ H0 => H0 = H' ∧ σ = [some (.ref p), some (.int sl), some (.int mo), some (.bl br), some (.int deep), some (.int kd), none, none, none], ?_, ?_⟩
      · refine ⟨_, rfl, rfl, _, rfl, iteD (fun _ => ⟨_, rfl, _, rfl, iteB (fun _ => ?_) (fun _ => ⟨rfl, rfl⟩)⟩) (fun _ => ⟨rfl, rfl⟩)⟩
        exact kone (by decide +kernel) P1 (by omega) K1
      rintro σ H0 ⟨rfl, rfl⟩
      refine ⟨fun σ H' => H' = H0 ∧ σ = [some (.ref p), some (.int sl), some (.int mo), some (.bl br), some (.int deep), some (.int kd), none, none, none], ?_, ?_⟩
      · refine ⟨_, rfl, rfl, _, rfl, iteD (fun _ => ⟨_, rfl, _, _, rfl, rfl, _, rfl, iteD (fun hs => ?_) (fun _ => ⟨rfl, rfl⟩)⟩) (fun _ => ⟨rfl, rfl⟩)⟩
        exact ⟨_, rfl, _, rfl, p, q, ns, _, mo, rfl, by omega, by omega, P1, fun r Hr r0 r1 Pr Kr => kone (by decide +kernel) Pr (by omega) (K1.trans Kr)⟩
      rintro σ H' ⟨rfl, rfl⟩
      exact ⟨_, rfl, p, q, ns, _, rfl, P1, fun r Hr _ _ Pr Kr => kone (by decide +kernel) Pr (by omega) (K1.trans Kr)⟩
    case leafC =>
      refine ⟨fun σ H' => H' = H2 ∧ σ = [some (.ref p), some (.int sl), some (.int mo), some (.bl br), some (.int deep), some (.int kd), none, none, none], ?_, ?_⟩
      · refine ⟨_, rfl, rfl, _, rfl, iteD (fun _ => ⟨_, rfl, _, _, rfl, rfl, _, rfl, iteD (fun hs => ?_) (fun _ => ⟨rfl, rfl⟩)⟩) (fun _ => ⟨rfl, rfl⟩)⟩
        exact ⟨_, rfl, _, rfl, p, q, ns, _, sl, rfl, by omega, by omega, P2, fun r Hr r0 r1 Pr Kr => kone (by decide +kernel) Pr (by omega) ((K1.trans K2).trans Kr)⟩
      rintro σ H' ⟨rfl, rfl⟩
      refine ⟨fun σ H0 => H0 = H' ∧ σ = [some (.ref p), some (.int sl), some (.int mo), some (.bl br), some (.int deep), some (.int kd), none, none, none], ?_, ?_⟩
      · refine ⟨_, rfl, rfl, _, rfl, iteD (fun _ => ⟨_, rfl, _, rfl, iteB (fun _ => ?_) (fun _ => ⟨rfl, rfl⟩)⟩) (fun _ => ⟨rfl, rfl⟩)⟩
        exact kone (by decide +kernel) P2 (by omega) (K1.trans K2)
      rintro σ H0 ⟨rfl, rfl⟩
      refine ⟨fun σ H' => H' = H0 ∧ σ = [some (.ref p), some (.int sl), some (.int mo), some (.bl br), some (.int deep), some (.int kd), none, none, none], ?_, ?_⟩
      · refine ⟨_, rfl, rfl, _, rfl, iteD (fun _ => ⟨_, rfl, _, _, rfl, rfl, _, rfl, iteD (fun hs => ?_) (fun _ => ⟨rfl, rfl⟩)⟩) (fun _ => ⟨rfl, rfl⟩)⟩
        exact ⟨_, rfl, _, rfl, p, q, ns, _, mo, rfl, by omega, by omega, P2, fun r Hr r0 r1 Pr Kr => kone (by decide +kernel) Pr (by omega) ((K1.trans K2).trans Kr)⟩
      rintro σ H' ⟨rfl, rfl⟩
      exact ⟨_, rfl, p, q, ns, _, rfl, P2, fun r Hr _ _ Pr Kr => kone (by decide +kernel) Pr (by omega) ((K1.trans K2).trans Kr)⟩
theorem value_all {f : Addr} {fd : FuncData} (D : C8.Def K mg "_law_some_value" s_law_some_value f fd) (b : Binds K fd ["pool", "slots", "moves", "brain", "deep"] []) (T : Txt K mg C_Tape C_Thinker C_Brain C_Mind C_Frame C_Thinking C_Checker C_GameError C_BadCode T_EVENTS T_SIGNS T_ROUND_NAMES T_BRAIN_NAMES T_EFFECTS) (c1 : C8.Cal P w K mg base 1 "_law_draw" sp_law_draw []) (c2 : C8.Cal P w K mg base 1 "_law_spend" sp_law_spend []) (c3 : C8.Cal P w K mg base 2 "_law_number" sp_law_number []) :
    ∀ n, C8.Cal P w K mg base (n + 2) "_law_some_value" (sp_value n) []
  | 0 => ok_value0 D b
  | n + 1 => ok_value D b T (value_all D b T c1 c2 c3 n) (calUp c1 (by omega)) (calUp c2 (by omega)) (calUp c3 (by omega))
end

theorem cat2 {H : Hp} {l1 l2 : Addr} {c1 c2 : List In2} {Q : VK} (h1 : CL H l1 c1) (h2 : CL H l2 c2) (hz : c1.length + c2.length ≤ 1000000) (k : ∀ r H', H r = none → CL H' r (c1 ++ c2) → Keep [] H H' → Q (.ref r) H') : rCat (.ref l1) (.ref l2) H Q := by
  obtain ⟨xs, hx, px⟩ := h1
  obtain ⟨ys, hy, py⟩ := h2
  refine ⟨_, _, _, _, rfl, rfl, hx, hy, smallM (by rw [px.len, py.len]; exact hz), fun p np => k p _ np (CL.cat px py np) (Keep.new np)⟩
theorem one3 {H : Hp} {t l : Addr} {n : Str} {a : Int} {G : Prop} (nt : H t = none) (nl : upd H t (.tup [.str n, .int a]) l = none)
    (k : CL (upd (upd H t (.tup [.str n, .int a])) l (.lst [.ref t])) l [(n, a)] → Keep [] H (upd (upd H t (.tup [.str n, .int a])) l (.lst [.ref t])) → G) : G :=
  k (CL.one nl) ((Keep.new nt).then_new nl)
theorem CL.lenq {K : PySem.W.Frag} {H : Hp} {l : Addr} {cs : List In2} {G : Prop} (h : CL H l cs) (q : ∀ ys, SqL K H l ys ∨ SqT K H l ys → (ys.length : Int) = cs.length → G) : G := by
  obtain ⟨xs, hx, px⟩ := h
  exact q xs (.inl (SqL.of hx)) (by rw [px.len])
def sp_code (n : Nat) : Sp := fun vs H Q _ => ∃ (p q : Addr) (ns : List Int) (bud sl mo : Int) (br : Bool) (deep : Int), vs = [.ref p, .int sl, .int mo, .bl br, .int deep] ∧ Pool H p q ns bud ∧ 0 ≤ sl ∧ sl ≤ 12 ∧ 0 ≤ mo ∧ mo ≤ 24 ∧ bud.toNat + 1 ≤ n ∧ n ≤ 41 ∧
  ∀ l cs bud' H', H l = none → CL H' l cs → NmOk cs → cs.length + 500 * bud'.toNat ≤ 500 * bud.toNat → bud' ≤ bud → Pool H' p q ns bud' → Keep [p] H H' → Q (.ref l) H'
section
variable {P : Program} {w : World} {K : PySem.W.Frag} {mg : Str → Option Value} {base : Heap} {C_Tape : Addr} {C_Thinker : Addr} {C_Brain : Addr} {C_Mind : Addr} {C_Frame : Addr} {C_Thinking : Addr} {C_Checker : Addr} {C_GameError : Addr} {C_BadCode : Addr} {f_BadCode___init : Addr} {T_EVENTS : Addr} {T_SIGNS : Addr} {T_ROUND_NAMES : Addr} {T_BRAIN_NAMES : Addr} {T_EFFECTS : Addr}
theorem ok_code0 {f : Addr} {fd : FuncData} (D : C8.Def K mg "_law_some_code" s_law_some_code f fd) (b : Binds K fd ["pool", "slots", "moves", "brain", "deep"] []) {k : Nat} : C8.Cal P w K mg base k "_law_some_code" (sp_code 0) [] :=
  ⟨f, fd, ["pool", "slots", "moves", "brain", "deep"], [], ⟨fun vs H Q E h => (by obtain ⟨p, q, ns, bud, sl, mo, br, deep, rfl, _⟩ := h; rfl), fun A outer s H args us vs Q E _ _ _ _ h => (by
    obtain ⟨p, q, ns, bud, sl, mo, br, deep, _, _, _, _, _, _, h1, _⟩ := h
    exact absurd h1 (by omega))⟩, D.mgf, D.kp, b, .nil⟩
theorem ok_code {f : Addr} {fd : FuncData} (D : C8.Def K mg "_law_some_code" s_law_some_code f fd) (b : Binds K fd ["pool", "slots", "moves", "brain", "deep"] []) (T : Txt K mg C_Tape C_Thinker C_Brain C_Mind C_Frame C_Thinking C_Checker C_GameError C_BadCode T_EVENTS T_SIGNS T_ROUND_NAMES T_BRAIN_NAMES T_EFFECTS) {n k : Nat} (c_law_some_code : C8.Cal P w K mg base k "_law_some_code" (sp_code n) []) (c_law_some_value : C8.Cal P w K mg base k "_law_some_value" (sp_value 5) []) (c_law_draw : C8.Cal P w K mg base k "_law_draw" sp_law_draw [])
    (c_law_spend : C8.Cal P w K mg base k "_law_spend" sp_law_spend []) (c_law_few : C8.Cal P w K mg base k "_law_few" sp_law_few []) : C8.Cal P w K mg base (k + 1) "_law_some_code" (sp_code (n + 1)) [] := by
  refine cal0 D b .nil sc_law_some_code (fun vs H Q E h => ?_) (fun cdv A outer s H vs Q E hr h => ?_)
  · obtain ⟨p, q, ns, bud, sl, mo, br, deep, rfl, _⟩ := h
    rfl
  · obtain ⟨p, q, ns, bud, sl, mo, br, deep, rfl, hP, sl0, sl1, mo0, mo1, hbn, hn41, k⟩ := h
    refine ⟨_, (pss_cons (ps_set (i := 5) sc_law_some_code.nd rfl (by first | exact Or.inl rfl | exact Or.inr rfl) (pe_lst pa_nil))
(pss_cons (ps_for PassesOwn.never rfl (pi_range1 (by rfl) T.n_range (pa_cons (pe_c c_law_few hr (by first | exact Nat.le_refl _ | decide | omega) rfl (pa_cons (pv 0) (pa_cons pe_int pa_nil))) pa_nil)) (pg_name (i := 6) sc_law_some_code.nd rfl (by first | exact Or.inl rfl | exact Or.inr rfl))
  (pss_one (ps_if (pt_val (pe_c c_law_spend hr (by first | exact Nat.le_refl _ | decide | omega) rfl (pa_cons (pv 0) pa_nil)))
    (pss_cons (ps_set (i := 7) sc_law_some_code.nd rfl (by first | exact Or.inl rfl | exact Or.inr rfl) (pe_c c_law_draw hr (by first | exact Nat.le_refl _ | decide | omega) rfl (pa_cons (pv 0) (pa_cons pe_int pa_nil))))
    (pss_cons (ps_set (i := 8) sc_law_some_code.nd rfl (by first | exact Or.inl rfl | exact Or.inr rfl) (pe_c c_law_some_value hr (by first | exact Nat.le_refl _ | decide | omega) rfl (pa_cons (pv 0) (pa_cons (pv 1) (pa_cons (pv 2) (pa_cons (pv 3) (pa_cons pe_int pa_nil)))))))
    (pss_cons (ps_set (i := 9) sc_law_some_code.nd rfl (by first | exact Or.inl rfl | exact Or.inr rfl) (pe_lst pa_nil))
    (pss_cut (ps_if (PW.pt (pw_and (pt_cmpR op_lt (pv 7) pe_int (nomark _)) (pw_and1 (pt_cmpR op_gt (pv 4) pe_int (nomark _)))))
      (pss_one (ps_set (i := 9) sc_law_some_code.nd rfl (by first | exact Or.inl rfl | exact Or.inr rfl) (pe_c c_law_some_code hr (by first | exact Nat.le_refl _ | decide | omega) rfl (pa_cons (pv 0) (pa_cons (pv 1) (pa_cons (pv 2) (pa_cons (pv 3) (pa_cons (pe_op op_sub (pv 4) pe_int) pa_nil))))))))
      pss_nil)
    (pss_one (ps_if (pt_cmpR op_eq (pv 7) pe_int (nomark _))
      (pss_one (ps_set (i := 5) sc_law_some_code.nd rfl (by first | exact Or.inl rfl | exact Or.inr rfl) (pe_op op_cat (pv 5) (pe_lst (pa_cons (pe_tup (pa_cons pe_str (pa_cons pe_int pa_nil))) pa_nil)))))
      (pss_one (ps_if (PW.pt (pw_and (pt_cmpR op_eq (pv 7) pe_int (nomark _)) (pw_and1 (pt_val (pv 3)))))
        (pss_cons (ps_set (i := 5) sc_law_some_code.nd rfl (by first | exact Or.inl rfl | exact Or.inr rfl) (pe_op op_cat (pe_op op_cat (pe_op op_cat (pe_op op_cat (pv 5) (pe_lst (pa_cons (pe_tup (pa_cons pe_str (pa_cons pe_int pa_nil))) pa_nil))) (pv 8)) (pe_lst (pa_cons (pe_tup (pa_cons pe_str (pa_cons (pe_op op_add (pe_callB call_len_seq (by rfl) T.n_len bo_len (pa_cons (pv 9) pa_nil)) pe_int) pa_nil))) pa_nil))) (pv 9)))
        (pss_one (ps_set (i := 5) sc_law_some_code.nd rfl (by first | exact Or.inl rfl | exact Or.inr rfl) (pe_op op_cat (pv 5) (pe_lst (pa_cons (pe_tup (pa_cons pe_str (pa_cons (pe_op op_add (pe_op op_add (pe_callB call_len_seq (by rfl) T.n_len bo_len (pa_cons (pv 8) pa_nil)) (pe_callB call_len_seq (by rfl) T.n_len bo_len (pa_cons (pv 9) pa_nil))) pe_int) pa_nil))) pa_nil))))))
        (pss_one (ps_if (pt_cmpR op_lt (pv 7) pe_int (nomark _))
          (pss_one (ps_set (i := 5) sc_law_some_code.nd rfl (by first | exact Or.inl rfl | exact Or.inr rfl) (pe_op op_cat (pe_op op_cat (pe_op op_cat (pv 5) (pv 8)) (pe_lst (pa_cons (pe_tup (pa_cons pe_str (pa_cons (pe_callB call_len_seq (by rfl) T.n_len bo_len (pa_cons (pv 9) pa_nil)) pa_nil))) pa_nil))) (pv 9))))
          (pss_one (ps_if (pt_cmpR op_lt (pv 7) pe_int (nomark _))
            (pss_cons (ps_set (i := 10) sc_law_some_code.nd rfl (by first | exact Or.inl rfl | exact Or.inr rfl) (pe_c c_law_some_code hr (by first | exact Nat.le_refl _ | decide | omega) rfl (pa_cons (pv 0) (pa_cons (pv 1) (pa_cons (pv 2) (pa_cons (pv 3) (pa_cons pe_int pa_nil)))))))
            (pss_one (ps_set (i := 5) sc_law_some_code.nd rfl (by first | exact Or.inl rfl | exact Or.inr rfl) (pe_op op_cat (pe_op op_cat (pe_op op_cat (pe_op op_cat (pe_op op_cat (pv 5) (pv 8)) (pe_lst (pa_cons (pe_tup (pa_cons pe_str (pa_cons (pe_op op_add (pe_callB call_len_seq (by rfl) T.n_len bo_len (pa_cons (pv 9) pa_nil)) pe_int) pa_nil))) pa_nil))) (pv 9)) (pe_lst (pa_cons (pe_tup (pa_cons pe_str (pa_cons (pe_callB call_len_seq (by rfl) T.n_len bo_len (pa_cons (pv 10) pa_nil)) pa_nil))) pa_nil))) (pv 10)))))
            (pss_one (ps_if (PW.pt (pw_and (pt_cmpR op_eq (pv 7) pe_int (nomark _)) (pw_and1 (pt_cmpR op_gt (pv 1) pe_int (nomark _)))))
              (pss_one (ps_set (i := 5) sc_law_some_code.nd rfl (by first | exact Or.inl rfl | exact Or.inr rfl) (pe_op op_cat (pe_op op_cat (pv 5) (pv 8)) (pe_lst (pa_cons (pe_tup (pa_cons pe_str (pa_cons (pe_c c_law_draw hr (by first | exact Nat.le_refl _ | decide | omega) rfl (pa_cons (pv 0) (pa_cons (pv 1) pa_nil))) pa_nil))) pa_nil)))))
              (pss_one (ps_if (pt_val (pv 3))
                (pss_one (ps_set (i := 5) sc_law_some_code.nd rfl (by first | exact Or.inl rfl | exact Or.inr rfl) (pe_op op_cat (pv 5) (pe_lst (pa_cons (pe_tup (pa_cons pe_str (pa_cons pe_int pa_nil))) pa_nil)))))
                (pss_one (ps_set (i := 5) sc_law_some_code.nd rfl (by first | exact Or.inl rfl | exact Or.inr rfl) (pe_op op_cat (pe_op op_cat (pe_op op_cat (pe_op op_cat (pe_op op_cat (pe_op op_cat (pv 5) (pv 8)) (pe_lst (pa_cons (pe_tup (pa_cons pe_str (pa_cons pe_int pa_nil))) pa_nil))) (pv 8)) (pe_lst (pa_cons (pe_tup (pa_cons pe_str (pa_cons (pe_c c_law_draw hr (by first | exact Nat.le_refl _ | decide | omega) rfl (pa_cons (pv 0) (pa_cons pe_int pa_nil))) pa_nil))) pa_nil))) (pv 8)) (pe_lst (pa_cons (pe_tup (pa_cons pe_str (pa_cons pe_int pa_nil))) pa_nil)))))))))))))))))))))
    pss_nil)))
(pss_one (ps_ret (pv 5))))), ?_⟩
    have hb40 : bud.toNat ≤ 40 := by omega
    refine ⟨Nat.zero_le _, fun l nl => ?_⟩
    have P0 := hP.new (o := .lst []) nl
    refine ⟨_, rfl, p, q, ns, bud, 5, rfl, by decide, by decide, P0, fun m H1 m0 m1 P1 K1 => ?_⟩
    have K01 : Keep [p] H H1 := (Keep.new nl).trans K1
    have hl1 : H1 l = some (.lst []) := K1 _ _ upd_same (by simpa using hP.nep nl)
    refine ⟨m, rfl, by omega, by omega, for_range (lo := 0) (n := m.toNat) (fun i σ H' => ∃ (l : Addr) (cs : List In2) (b1 : Int) (o6 o7 o8 o9 o10 : Option V), σ = [some (.ref p), some (.int sl), some (.int mo), some (.bl br), some (.int deep), some (.ref l), o6, o7, o8, o9, o10] ∧
      H l = none ∧ CL H' l cs ∧ NmOk cs ∧ cs.length + 500 * b1.toNat ≤ 500 * bud.toNat ∧ b1 ≤ bud ∧ Pool H' p q ns b1 ∧ Keep [p] H H') ⟨l, [], bud, none, none, none, none, none, rfl, nl, ⟨[], hl1, .nil⟩, .nil, by simp, Int.le_refl _, P1, K01⟩ ?_ ?_⟩
    · rintro i σ H2 hi ⟨l, cs, b1, o6, o7, o8, o9, o10, rfl, nl, hl, hnm, hlen, hb1, P2, K2⟩
      have nep : ∀ {a : Addr}, H a = none → a ≠ p := fun h => hP.nep h
      refine ⟨_, rfl, p, q, ns, b1, rfl, P2, fun H3 P3 K3 => ⟨_, rfl, iteD (fun hs => ?_) (fun hs => ?_)⟩⟩
      · have K03 := K2.trans K3
        have hl3 := hl.keepP P2 K3 (nep nl)
        refine ⟨_, rfl, p, q, ns, _, 8, rfl, by decide, by decide, P3, fun kd H4 k0 k1 P4 K4 => ?_⟩
        have hl4 := hl3.keepP P3 K4 (nep nl)
        have K04 := K03.trans K4
        refine ⟨_, rfl, _, rfl, _, rfl, _, rfl, p, q, ns, _, sl, mo, br, 4, rfl, P4, sl0, sl1, mo0, mo1, by decide, by decide, by decide, fun v cv b5 H5 nv hv hnv hcv hb5 P5 K5 => ?_⟩
        have hcv : cv.length ≤ 161 := hcv
        have hl5 := hl4.keepP P4 K5 (nep nl)
        have K05 := K04.trans K5
        have nv0 : H v = none := P4.free K04 nv
        refine ⟨Nat.zero_le _, fun n0 nn0 => ?_⟩
        have k6 : Keep [] H5 (upd H5 n0 (.lst [])) := Keep.new nn0
        refine ⟨fun σ H' => ∃ (n1 : Addr) (ci : List In2) (b6 : Int), σ = [some (.ref p), some (.int sl), some (.int mo), some (.bl br), some (.int deep), some (.ref l), some (.int (0 + (i : Nat))), some (.int kd), some (.ref v), some (.ref n1), o10] ∧ CL H' n1 ci ∧ NmOk ci ∧ ci.length + 500 * b6.toNat ≤ 500 * b5.toNat ∧ b6 ≤ b5 ∧
          CL H' l cs ∧ CL H' v cv ∧ Pool H' p q ns b6 ∧ Keep [p] H H' ∧ H n1 = none, ?_, ?_⟩
        · have stay : ∃ (n1 : Addr) (ci : List In2) (b6 : Int), ([some (.ref p), some (.int sl), some (.int mo), some (.bl br), some (.int deep), some (.ref l), some (.int (0 + (i : Nat))), some (.int kd), some (.ref v), some (.ref n0), o10] : List (Option V)) = [some (.ref p), some (.int sl), some (.int mo), some (.bl br), some (.int deep), some (.ref l), some (.int (0 + (i : Nat))), some (.int kd), some (.ref v), some (.ref n1), o10] ∧ CL (upd H5 n0 (.lst [])) n1 ci ∧ NmOk ci ∧ ci.length + 500 * b6.toNat ≤ 500 * b5.toNat ∧ b6 ≤ b5 ∧
              CL (upd H5 n0 (.lst [])) l cs ∧ CL (upd H5 n0 (.lst [])) v cv ∧ Pool (upd H5 n0 (.lst [])) p q ns b6 ∧ Keep [p] H (upd H5 n0 (.lst [])) ∧ H n1 = none :=
            ⟨n0, [], b5, rfl, ⟨[], upd_same, .nil⟩, .nil, by simp, Int.le_refl _, hl5.keep0 k6, hv.keep0 k6, P5.keep0 k6, K05.trans (k6.mono (by simp)), P5.free K05 nn0⟩
          refine ⟨_, rfl, _, _, rfl, rfl, _, rfl, iteD (fun _ => ⟨_, rfl, _, _, rfl, rfl, _, rfl, iteD (fun _ => ?_) (fun _ => stay)⟩) (fun _ => stay)⟩
          refine ⟨_, rfl, _, rfl, _, rfl, _, rfl, _, rfl, _, _, rfl, rfl, p, q, ns, b5, sl, mo, br, deep - 1, rfl, P5.keep0 k6, sl0, sl1, mo0, mo1, by omega, by omega, fun n1 ci b6 H6 nn1 hn1 hnm1 hlen1 hb6 P6 K6 => ?_⟩
          have K0' : Keep [p] H (upd H5 n0 (.lst [])) := K05.trans (k6.mono (by simp))
          exact ⟨n1, ci, b6, rfl, hn1, hnm1, hlen1, hb6, (hl5.keep0 k6).keepP (P5.keep0 k6) K6 (nep nl), (hv.keep0 k6).keepP (P5.keep0 k6) K6 (nep nv0), P6, K0'.trans K6, (P5.keep0 k6).free K0' nn1⟩
        rintro σ H6 ⟨n1, ci, b6, rfl, hn, hnmi, hlci, hb6, hl6, hv6, P6, K06, nn1⟩
        have hsp : 500 * b5.toNat + 500 ≤ 500 * b1.toNat := by omega
        have fin : ∀ {r : Addr} {H' : Hp} {c2 : List In2} {b7 : Int} {o10' : Option V}, H6 r = none ∨ H r = none → CL H' r c2 → NmOk c2 → c2.length + 500 * b7.toNat ≤ 500 * bud.toNat → b7 ≤ bud → Pool H' p q ns b7 → Keep [p] H H' → ∃ (l : Addr) (cs : List In2) (b1 : Int) (o6 o7 o8 o9 o10 : Option V), ([some (.ref p), some (.int sl), some (.int mo), some (.bl br), some (.int deep), some (.ref r), some (.int (0 + (i : Nat))), some (.int kd), some (.ref v), some (.ref n1), o10'] : List (Option V)) = [some (.ref p), some (.int sl), some (.int mo), some (.bl br), some (.int deep), some (.ref l), o6, o7, o8, o9, o10] ∧
            H l = none ∧ CL H' l cs ∧ NmOk cs ∧ cs.length + 500 * b1.toNat ≤ 500 * bud.toNat ∧ b1 ≤ bud ∧ Pool H' p q ns b1 ∧ Keep [p] H H' := fun hr h1 h2 h3 h4 h5 h6 => ⟨_, _, _, _, _, _, _, _, rfl, hr.elim (P6.free K06) id, h1, h2, h3, h4, h5, h6⟩
        have la : ∀ (c1 c2 : List In2), (c1 ++ c2).length = c1.length + c2.length := fun _ _ => List.length_append
        have l1 : ∀ (nm : Str) (a : Int), ([(nm, a)] : List In2).length = 1 := fun _ _ => rfl
        have b6b : b6 ≤ bud := by omega
        have K6' : ∀ {H' : Hp}, Keep [] H6 H' → Keep [p] H H' := fun z => K06.trans (z.mono (by simp))
        -- a jump
        refine ⟨_, rfl, rfl, _, rfl, iteD (fun e0 => ?_) (fun e0 => ?_)⟩
        · refine ⟨_, rfl, And.intro (by show 2 ≤ sizeLine; decide) <| fun tu ntu => And.intro (by show 1 ≤ sizeLine; decide) <| fun u nu => one3 ntu nu fun hu ku => cat2 (hl6.keep0 ku) hu (by rw [l1]; omega) fun r H8 nr hr kr => ?_⟩
          have kz := ku.trans kr
          exact fin (.inl (ku.free nr)) hr (hnm.app (.one (by decide +kernel))) (by rw [la, l1]; omega) b6b (P6.keep0 kz) (K6' kz)
        -- the branches behind
        have cC : ∀ {D : Ends} {t : TS} {o : Prop}, True := trivial
        clear cC
        have brC : ∃ x, some (some (V.ref l)) = some (some x) ∧ True := ⟨_, rfl, trivial⟩
        clear brC
        refine ⟨_, rfl, rfl, _, rfl, iteD (fun e1 => ⟨_, rfl, _, rfl, iteB (fun eb => ?cB) (fun eb => ?cC)⟩) (fun e1 => ?cC2)⟩
        case cB =>
          refine ⟨_, rfl, And.intro (by show 2 ≤ sizeLine; decide) <| fun tu1 ntu1 => And.intro (by show 1 ≤ sizeLine; decide) <| fun u1 nu1 => one3 ntu1 nu1 fun hu1 ka => cat2 (hl6.keep0 ka) hu1 (by rw [l1]; omega) fun r1 Hb nr1 hr1 kb => ?_⟩
          have kab := ka.trans kb
          refine ⟨_, rfl, cat2 hr1 (hv6.keep0 kab) (by rw [la, l1]; omega) fun r2 Hc nr2 hr2 kc => ?_⟩
          have kac := kab.trans kc
          refine ⟨_, rfl, (hn.keep0 kac).lenq fun _ sq _ => ⟨_, _, rfl, sq, _, _, rfl, rfl, And.intro (by show 2 ≤ sizeLine; decide) <| fun tu2 ntu2 => And.intro (by show 1 ≤ sizeLine; decide) <| fun u2 nu2 => one3 ntu2 nu2 fun hu2 kd2 => cat2 (hr2.keep0 kd2) hu2 (by rw [la, la, l1, l1]; omega) fun r3 He nr3 hr3 ke => ?_⟩⟩
          have kae := kac.trans (kd2.trans ke)
          refine ⟨_, rfl, cat2 hr3 (hn.keep0 kae) (by rw [la, la, la, l1, l1]; omega) fun r4 Hf nr4 hr4 kf => ?_⟩
          have kaf := kae.trans kf
          refine ⟨_, rfl, _, rfl, (hv6.keep0 kaf).lenq fun _ sq _ => ⟨_, _, rfl, sq, _, rfl, (hn.keep0 kaf).lenq fun _ sq _ => ⟨_, _, rfl, sq, _, _, rfl, rfl, _, _, rfl, rfl, And.intro (by show 2 ≤ sizeLine; decide) <| fun tu3 ntu3 => And.intro (by show 1 ≤ sizeLine; decide) <| fun u3 nu3 => one3 ntu3 nu3 fun hu3 kg => cat2 (hr4.keep0 kg) hu3 (by rw [la, la, la, la, l1, l1, l1]; omega) fun r5 Hh nr5 hr5 kh => ?_⟩⟩⟩
          have kah := kaf.trans (kg.trans kh)
          refine fin (.inl ((kaf.trans kg).free nr5)) hr5 (((((hnm.app (.one (by decide +kernel))).app hnv).app (.one (by decide +kernel))).app hnmi).app (.one (by decide +kernel))) ?_ b6b (P6.keep0 kah) (K6' kah)
          rw [la, la, la, la, la, l1, l1, l1]; omega
        all_goals
          refine ⟨_, rfl, _, _, rfl, rfl, _, rfl, iteD (fun e2 => ?_) (fun e2 => ?_)⟩
          · -- value, skip, inner
            refine ⟨_, rfl, _, rfl, cat2 hl6 hv6 (by omega) fun r1 Ha nr1 hr1 ka => ?_⟩
            refine ⟨_, rfl, (hn.keep0 ka).lenq fun _ sq _ => ⟨_, _, rfl, sq, And.intro (by show 2 ≤ sizeLine; decide) <| fun tu1 ntu1 => And.intro (by show 1 ≤ sizeLine; decide) <| fun u1 nu1 => one3 ntu1 nu1 fun hu1 kb => cat2 (hr1.keep0 kb) hu1 (by rw [la, l1]; omega) fun r2 Hc nr2 hr2 kc => ?_⟩⟩
            have kac := ka.trans (kb.trans kc)
            refine ⟨_, rfl, cat2 hr2 (hn.keep0 kac) (by rw [la, la, l1]; omega) fun r3 Hd nr3 hr3 kd3 => ?_⟩
            have kad := kac.trans kd3
            exact fin (.inl (kac.free nr3)) hr3 (((hnm.app hnv).app (.one (by decide +kernel))).app hnmi) (by rw [la, la, la, l1]; omega) b6b (P6.keep0 kad) (K6' kad)
          refine ⟨_, rfl, _, _, rfl, rfl, _, rfl, iteD (fun e3 => ?_) (fun e3 => ?_)⟩
          · -- two ways
            refine ⟨_, rfl, _, rfl, _, rfl, _, rfl, p, q, ns, b6, sl, mo, br, 0, rfl, P6, sl0, sl1, mo0, mo1, by omega, by omega, fun x cx b8 H7 nx hx hnx hlx hb8 P7 K7 => ?_⟩
            have hl7 := hl6.keepP P6 K7 (nep nl)
            have hv7 := hv6.keepP P6 K7 (nep nv0)
            have hn7 := hn.keepP P6 K7 (nep nn1)
            have K07 := K06.trans K7
            refine ⟨_, rfl, _, rfl, cat2 hl7 hv7 (by omega) fun r1 Ha nr1 hr1 ka => ?_⟩
            refine ⟨_, rfl, (hn7.keep0 ka).lenq fun _ sq _ => ⟨_, _, rfl, sq, _, _, rfl, rfl, And.intro (by show 2 ≤ sizeLine; decide) <| fun tu1 ntu1 => And.intro (by show 1 ≤ sizeLine; decide) <| fun u1 nu1 => one3 ntu1 nu1 fun hu1 kb => cat2 (hr1.keep0 kb) hu1 (by rw [la, l1]; omega) fun r2 Hc nr2 hr2 kc => ?_⟩⟩
            have kac := ka.trans (kb.trans kc)
            refine ⟨_, rfl, cat2 hr2 (hn7.keep0 kac) (by rw [la, la, l1]; omega) fun r3 Hd nr3 hr3 kd3 => ?_⟩
            have kad := kac.trans kd3
            refine ⟨_, rfl, (hx.keep0 kad).lenq fun _ sq _ => ⟨_, _, rfl, sq, And.intro (by show 2 ≤ sizeLine; decide) <| fun tu2 ntu2 => And.intro (by show 1 ≤ sizeLine; decide) <| fun u2 nu2 => one3 ntu2 nu2 fun hu2 ke => cat2 (hr3.keep0 ke) hu2 (by rw [la, la, la, l1, l1]; omega) fun r4 Hf nr4 hr4 kf => ?_⟩⟩
            have kaf := kad.trans (ke.trans kf)
            refine ⟨_, rfl, cat2 hr4 (hx.keep0 kaf) (by rw [la, la, la, la, l1, l1]; omega) fun r5 Hg nr5 hr5 kg => ?_⟩
            have kag := kaf.trans kg
            have K0g : Keep [p] H Hg := K07.trans (kag.mono (by simp))
            refine fin (.inr (P7.free K07 (kaf.free nr5))) hr5 (((((hnm.app hnv).app (.one (by decide +kernel))).app hnmi).app (.one (by decide +kernel))).app hnx) ?_ (by omega) (P7.keep0 kag) K0g
            rw [la, la, la, la, la, l1, l1]; omega
          refine ⟨_, rfl, rfl, _, rfl, iteD (fun e4 => ⟨_, rfl, _, _, rfl, rfl, _, rfl, iteD (fun e5 => ?_) (fun e5 => ?_)⟩) (fun e4 => ?_)⟩
          · -- store
            refine ⟨_, rfl, _, rfl, cat2 hl6 hv6 (by omega) fun r1 Ha nr1 hr1 ka => ?_⟩
            refine ⟨_, rfl, _, rfl, p, q, ns, b6, sl, rfl, by omega, by omega, P6.keep0 ka, fun z H7 z0 z1 P7 K7 => ?_⟩
            have K0a := K6' ka
            have hr7 := hr1.keepP (P6.keep0 ka) K7 (nep (P6.free K06 nr1))
            refine And.intro (by show 2 ≤ sizeLine; decide) <| fun tu1 ntu1 => And.intro (by show 1 ≤ sizeLine; decide) <| fun u1 nu1 => one3 ntu1 nu1 fun hu1 kb => cat2 (hr7.keep0 kb) hu1 (by rw [la, l1]; omega) fun r2 Hc nr2 hr2 kc => ?_
            have kbc := kb.trans kc
            have K0c : Keep [p] H Hc := (K0a.trans K7).trans (kbc.mono (by simp))
            exact fin (.inr (P7.free (K0a.trans K7) (kb.free nr2))) hr2 ((hnm.app hnv).app (.one (by decide +kernel))) (by rw [la, la, l1]; omega) b6b (P7.keep0 kbc) K0c
          all_goals
            refine ⟨_, rfl, _, rfl, iteB (fun eb2 => ?_) (fun eb2 => ?_)⟩
            · refine ⟨_, rfl, And.intro (by show 2 ≤ sizeLine; decide) <| fun tu ntu => And.intro (by show 1 ≤ sizeLine; decide) <| fun u nu => one3 ntu nu fun hu ku => cat2 (hl6.keep0 ku) hu (by rw [l1]; omega) fun r H8 nr hr kr => ?_⟩
              have kz := ku.trans kr
              exact fin (.inl (ku.free nr)) hr (hnm.app (.one (by decide +kernel))) (by rw [la, l1]; omega) b6b (P6.keep0 kz) (K6' kz)
            -- payments
            refine ⟨_, rfl, _, rfl, cat2 hl6 hv6 (by omega) fun r1 Ha nr1 hr1 ka => ?_⟩
            refine And.intro (by show 2 ≤ sizeLine; decide) <| fun tu1 ntu1 => And.intro (by show 1 ≤ sizeLine; decide) <| fun u1 nu1 => one3 ntu1 nu1 fun hu1 kb => cat2 (hr1.keep0 kb) hu1 (by rw [la, l1]; omega) fun r2 Hc nr2 hr2 kc => ?_
            have kac := ka.trans (kb.trans kc)
            refine ⟨_, rfl, cat2 hr2 (hv6.keep0 kac) (by rw [la, la, l1]; omega) fun r3 Hd nr3 hr3 kd3 => ?_⟩
            have kad := kac.trans kd3
            refine ⟨_, rfl, p, q, ns, b6, 3, rfl, by decide, by decide, P6.keep0 kad, fun z H7 z0 z1 P7 K7 => ?_⟩
            have K0d := K6' kad
            have hr7 := hr3.keepP (P6.keep0 kad) K7 (nep (P6.free K06 (kac.free nr3)))
            have hv7 := (hv6.keep0 kad).keepP (P6.keep0 kad) K7 (nep nv0)
            refine And.intro (by show 2 ≤ sizeLine; decide) <| fun tu2 ntu2 => And.intro (by show 1 ≤ sizeLine; decide) <| fun u2 nu2 => one3 ntu2 nu2 fun hu2 ke => cat2 (hr7.keep0 ke) hu2 (by rw [la, la, la, l1, l1]; omega) fun r4 Hf nr4 hr4 kf => ?_
            have kef := ke.trans kf
            refine ⟨_, rfl, cat2 hr4 (hv7.keep0 kef) (by rw [la, la, la, la, l1, l1]; omega) fun r5 Hg nr5 hr5 kg => ?_⟩
            have keg := kef.trans kg
            refine And.intro (by show 2 ≤ sizeLine; decide) <| fun tu3 ntu3 => And.intro (by show 1 ≤ sizeLine; decide) <| fun u3 nu3 => one3 ntu3 nu3 fun hu3 kh => cat2 (hr5.keep0 kh) hu3 (by rw [la, la, la, la, la, l1, l1, l1]; omega) fun r6 Hi nr6 hr6 ki => ?_
            have kei := keg.trans (kh.trans ki)
            have K0i : Keep [p] H Hi := (K0d.trans K7).trans (kei.mono (by simp))
            refine fin (.inr (P7.free (K0d.trans K7) ((keg.trans kh).free nr6))) hr6 ((((((hnm.app hnv).app (.one (by decide +kernel))).app hnv).app (.one (by decide +kernel))).app hnv).app (.one (by decide +kernel))) ?_ b6b (P7.keep0 kei) K0i
            rw [la, la, la, la, la, la, l1, l1, l1]; omega
      · exact ⟨l, cs, _, _, _, _, _, _, rfl, nl, hl.keepP P2 K3 (nep nl), hnm, by omega, by omega, P3, K2.trans K3⟩
    · rintro σ H2 ⟨l, cs, b1, o6, o7, o8, o9, o10, rfl, nl, hl, hnm, hlen, hb1, P2, K2⟩
      exact ⟨_, rfl, k l cs b1 _ nl hl hnm hlen hb1 P2 K2⟩
theorem code_all {f : Addr} {fd : FuncData} (D : C8.Def K mg "_law_some_code" s_law_some_code f fd) (b : Binds K fd ["pool", "slots", "moves", "brain", "deep"] []) (T : Txt K mg C_Tape C_Thinker C_Brain C_Mind C_Frame C_Thinking C_Checker C_GameError C_BadCode T_EVENTS T_SIGNS T_ROUND_NAMES T_BRAIN_NAMES T_EFFECTS) (c0 : C8.Cal P w K mg base 7 "_law_some_value" (sp_value 5) []) (c1 : C8.Cal P w K mg base 1 "_law_draw" sp_law_draw []) (c2 : C8.Cal P w K mg base 1 "_law_spend" sp_law_spend []) (c3 : C8.Cal P w K mg base 2 "_law_few" sp_law_few []) :
    ∀ n, C8.Cal P w K mg base (n + 7) "_law_some_code" (sp_code n) []
  | 0 => ok_code0 D b
  | n + 1 => ok_code D b T (code_all D b T c0 c1 c2 c3 n) (calUp c0 (by omega)) (calUp c1 (by omega)) (calUp c2 (by omega)) (calUp c3 (by omega))
end

def tailNm : List Str := ["", "halt", "push ", "pushes"]
def sp_whole : Sp := fun vs H Q _ => ∃ (p q : Addr) (ns : List Int) (bud sl mo : Int) (br : Bool), vs = [.ref p, .int sl, .int mo, .bl br] ∧ Pool H p q ns bud ∧ 0 ≤ sl ∧ sl ≤ 12 ∧ 0 ≤ mo ∧ mo ≤ 24 ∧ bud.toNat ≤ 40 ∧
  ∀ l cs bud' H', H l = none → CL H' l cs → NmOk cs → cs ≠ [] → cs.length ≤ 20200 → Pool H' p q ns bud' → Keep [p] H H' → Q (.ref l) H'
def sp_any : Sp := fun vs H Q _ => ∃ (p q : Addr) (ns : List Int) (bud : Int), vs = [.ref p] ∧ Pool H p q ns bud ∧ ∀ t n a H', H t = none → n ∈ allNm ++ tailNm → H' t = some (.tup [.str n, .int a]) → Pool H' p q ns bud → Keep [p] H H' → Q (.ref t) H'
theorem cutTo {xs : List V} {m : Nat} (h : m ≤ xs.length) : cutV xs none (some (m : Int)) = xs.take m := by
  unfold cutV
  rw [HT.sIx_nat, HT.sIx_none, Nat.min_eq_left h]
  show (xs.drop 0).take (m - 0) = _
  rw [List.drop_zero, Nat.sub_zero]
theorem cutFrom {xs : List V} {m : Nat} (h : m ≤ xs.length) : cutV xs (some (m : Int)) none = xs.drop m := by
  unfold cutV
  rw [HT.sIx_nat, HT.sIx_none, Nat.min_eq_left h]
  exact List.take_of_length_le (by rw [List.length_drop]; omega)
theorem NmOk.take {cs : List In2} (h : NmOk cs) (i : Nat) : NmOk (cs.take i) := fun p hp => h p (List.mem_of_mem_take hp)
theorem NmOk.drop {cs : List In2} (h : NmOk cs) (i : Nat) : NmOk (cs.drop i) := fun p hp => h p (List.mem_of_mem_drop hp)
theorem NmOk.one' {n : Str} {a : Int} (h : n ∈ allNm ++ tailNm) : NmOk [(n, a)] := fun p hp => by
  rw [List.mem_singleton] at hp
  subst hp
  exact h
theorem CL.cut {K : PySem.W.Frag} {H : Hp} {l r : Addr} {cs : List In2} (h : CL H l cs) (i : Nat) (hi : i ≤ cs.length) : ∃ xs, SqL K H l xs ∧ (H r = none → CL (upd H r (.lst (cutV xs none (some (i : Int))))) r (cs.take i)) ∧ (H r = none → CL (upd H r (.lst (cutV xs (some (i : Int)) none))) r (cs.drop i)) := by
  obtain ⟨xs, h1, h2⟩ := h
  have hl := h2.len
  refine ⟨xs, SqL.of h1, fun n => ⟨_, upd_same, ?_⟩, fun n => ⟨_, upd_same, ?_⟩⟩
  · rw [cutTo (by omega)]; exact (h2.take i).tk (TK.new n)
  · rw [cutFrom (by omega)]; exact (h2.drop i).tk (TK.new n)
theorem Prs.set {H : Hp} {xs : List V} {cs : List In2} {t : Addr} {n : Str} {a : Int} (h : Prs H xs cs) (ht : H t = some (.tup [.str n, .int a])) : ∀ (i : Nat), Prs H (xs.set i (.ref t)) (cs.set i (n, a)) := by
  induction h with
  | nil => exact fun i => .nil
  | cons h1 h2 ih =>
    intro i
    cases i with
    | zero => exact .cons ht h2
    | succ i => exact .cons h1 (ih i)
theorem CL.set {H : Hp} {xs : List V} {cs : List In2} {l t : Addr} {n : Str} {a : Int} (hl : H l = some (.lst xs)) (h : Prs H xs cs) (ht : H t = some (.tup [.str n, .int a])) (i : Nat) : CL (upd H l (.lst (xs.set i (.ref t)))) l (cs.set i (n, a)) :=
  ⟨_, upd_same, (h.set ht i).tk fun b ys q => by
    rw [upd_ne (fun z => by rw [z, hl] at q; cases q)]; exact q⟩
theorem NmOk.set {cs : List In2} {n : Str} {a : Int} {i : Nat} (h : NmOk cs) (hn : n ∈ allNm ++ tailNm) : NmOk (cs.set i (n, a)) := fun p hp => by
  rcases List.mem_or_eq_of_mem_set hp with z | rfl
  · exact h p z
  · exact hn
section
variable {P : Program} {w : World} {K : PySem.W.Frag} {mg : Str → Option Value} {base : Heap} {C_Tape : Addr} {C_Thinker : Addr} {C_Brain : Addr} {C_Mind : Addr} {C_Frame : Addr} {C_Thinking : Addr} {C_Checker : Addr} {C_GameError : Addr} {C_BadCode : Addr} {f_BadCode___init : Addr} {T_EVENTS : Addr} {T_SIGNS : Addr} {T_ROUND_NAMES : Addr} {T_BRAIN_NAMES : Addr} {T_EFFECTS : Addr}
theorem ok_whole {f : Addr} {fd : FuncData} (D : C8.Def K mg "_law_whole_code" s_law_whole_code f fd) (b : Binds K fd ["pool", "slots", "moves", "brain"] []) (T : Txt K mg C_Tape C_Thinker C_Brain C_Mind C_Frame C_Thinking C_Checker C_GameError C_BadCode T_EVENTS T_SIGNS T_ROUND_NAMES T_BRAIN_NAMES T_EFFECTS) (c_law_some_code : C8.Cal P w K mg base 48 "_law_some_code" (sp_code 41) []) (c_law_some_value : C8.Cal P w K mg base 7 "_law_some_value" (sp_value 5) []) : C8.Cal P w K mg base 49 "_law_whole_code" sp_whole [] := by
  refine cal0 D b .nil sc_law_whole_code (fun vs H Q E h => ?_) (fun cdv A outer s H vs Q E hr h => ?_)
  · obtain ⟨p, q, ns, bud, sl, mo, br, rfl, _⟩ := h
    rfl
  · obtain ⟨p, q, ns, bud, sl, mo, br, rfl, hP, sl0, sl1, mo0, mo1, hb, k⟩ := h
    refine ⟨_, (pss_cons (ps_set (i := 4) sc_law_whole_code.nd rfl (by first | exact Or.inl rfl | exact Or.inr rfl) (pe_c c_law_some_code hr (by first | exact Nat.le_refl _ | decide | omega) rfl (pa_cons (pv 0) (pa_cons (pv 1) (pa_cons (pv 2) (pa_cons (pv 3) (pa_cons pe_int pa_nil)))))))
(pss_cons (ps_if (pt_val (pv 3))
  (pss_one (ps_set (i := 4) sc_law_whole_code.nd rfl (by first | exact Or.inl rfl | exact Or.inr rfl) (pe_op op_cat (pv 4) (pe_c c_law_some_value hr (by first | exact Nat.le_refl _ | decide | omega) rfl (pa_cons (pv 0) (pa_cons (pv 1) (pa_cons (pv 2) (pa_cons (pv 3) (pa_cons pe_int pa_nil)))))))))
  pss_nil)
(pss_one (ps_ret (pe_op op_cat (pv 4) (pe_lst (pa_cons (pe_tup (pa_cons pe_str (pa_cons pe_int pa_nil))) pa_nil))))))), ?_⟩
    have la : ∀ (c1 c2 : List In2), (c1 ++ c2).length = c1.length + c2.length := fun _ _ => List.length_append
    have l1 : ∀ (nm : Str) (a : Int), ([(nm, a)] : List In2).length = 1 := fun _ _ => rfl
    refine ⟨_, rfl, _, rfl, _, rfl, _, rfl, p, q, ns, bud, sl, mo, br, 3, rfl, hP, sl0, sl1, mo0, mo1, by omega, by decide, fun l cs b1 H1 nl hl hnm hlen hb1 P1 K1 => ⟨_, rfl, _, rfl, iteB (fun e => ?_) (fun e => ?_)⟩⟩
    · refine ⟨_, rfl, _, rfl, _, rfl, _, rfl, _, rfl, p, q, ns, b1, sl, mo, br, 4, rfl, P1, sl0, sl1, mo0, mo1, by decide, by decide, by decide, fun v cv b2 H2 nv hv hnv hcv hb2 P2 K2 => ?_⟩
      have hcv : cv.length ≤ 161 := hcv
      refine cat2 (hl.keepP P1 K2 (hP.nep nl)) hv (by omega) fun r H3 nr hr k3 => ?_
      have K03 : Keep [p] H H3 := (K1.trans K2).trans (k3.mono (by simp))
      have P3 := P2.keep0 k3
      refine ⟨_, rfl, And.intro (by show 2 ≤ sizeLine; decide) <| fun tu ntu => And.intro (by show 1 ≤ sizeLine; decide) <| fun u nu => one3 ntu nu fun hu ku => cat2 (hr.keep0 ku) hu (by rw [la, l1]; omega) fun z H4 nz hz kz => ?_⟩
      have kk := ku.trans kz
      exact k z _ b2 _ (P3.free K03 (ku.free nz)) hz ((hnm.app hnv).app (.one (by decide +kernel))) (by simp) (by rw [la, la, l1]; omega) (P3.keep0 kk) (K03.trans (kk.mono (by simp)))
    · refine ⟨_, rfl, And.intro (by show 2 ≤ sizeLine; decide) <| fun tu ntu => And.intro (by show 1 ≤ sizeLine; decide) <| fun u nu => one3 ntu nu fun hu ku => cat2 (hl.keep0 ku) hu (by rw [l1]; omega) fun z H4 nz hz kz => ?_⟩
      have kk := ku.trans kz
      exact k z _ b1 _ (P1.free K1 (ku.free nz)) hz (hnm.app (.one (by decide +kernel))) (by simp) (by rw [la, l1]; omega) (P1.keep0 kk) (K1.trans (kk.mono (by simp)))
theorem ok_any {f : Addr} {fd : FuncData} (D : C8.Def K mg "_law_any" s_law_any f fd) (b : Binds K fd ["pool"] []) (T : Txt K mg C_Tape C_Thinker C_Brain C_Mind C_Frame C_Thinking C_Checker C_GameError C_BadCode T_EVENTS T_SIGNS T_ROUND_NAMES T_BRAIN_NAMES T_EFFECTS) (c_law_names_of_code : C8.Cal P w K mg base 1 "_law_names_of_code" sp_names []) (c_law_draw : C8.Cal P w K mg base 1 "_law_draw" sp_law_draw []) (c_law_few : C8.Cal P w K mg base 2 "_law_few" sp_law_few []) : C8.Cal P w K mg base 3 "_law_any" sp_any [] := by
  refine cal0 D b .nil sc_law_any (fun vs H Q E h => ?_) (fun cdv A outer s H vs Q E hr h => ?_)
  · obtain ⟨p, q, ns, bud, rfl, _⟩ := h
    rfl
  · obtain ⟨p, q, ns, bud, rfl, hP, k⟩ := h
    refine ⟨_, (pss_cons (ps_set (i := 1) sc_law_any.nd rfl (by first | exact Or.inl rfl | exact Or.inr rfl) (pe_ix ix_list (pe_op op_cat (pe_c0 c_law_names_of_code hr (by first | exact Nat.le_refl _ | decide | omega) rfl) (pe_lst (pa_cons pe_str (pa_cons pe_str (pa_cons pe_str (pa_cons pe_str pa_nil)))))) (pe_c c_law_draw hr (by first | exact Nat.le_refl _ | decide | omega) rfl (pa_cons (pv 0) (pa_cons pe_int pa_nil))) (fun _ _ => rfl)))
(pss_cons (ps_set (i := 2) sc_law_any.nd rfl (by first | exact Or.inl rfl | exact Or.inr rfl) pe_int)
(pss_cut (ps_if (pt_cmpR op_in_seq (pv 1) (pe_tup (pa_cons pe_str (pa_cons pe_str (pa_cons pe_str (pa_cons pe_str (pa_cons pe_str (pa_cons pe_str (pa_cons pe_str (pa_cons pe_str (pa_cons pe_str pa_nil)))))))))) (by rfl))
  (pss_one (ps_set (i := 2) sc_law_any.nd rfl (by first | exact Or.inl rfl | exact Or.inr rfl) (pe_c c_law_few hr (by first | exact Nat.le_refl _ | decide | omega) rfl (pa_cons (pv 0) (pa_cons pe_int pa_nil)))))
  pss_nil)
(pss_one (ps_ret (pe_tup (pa_cons (pv 1) (pa_cons (pv 2) pa_nil)))))))), ?_⟩
    refine ⟨rfl, fun l H1 nl hl K1 => And.intro (by show 4 ≤ sizeLine; decide) <| fun u nu => ?_⟩
    have k2 : Keep [] H1 (upd H1 u (.lst (tailNm.map V.str))) := Keep.new nu
    refine ⟨l, u, allNm.map V.str, tailNm.map V.str, rfl, rfl, k2 _ _ hl (by simp), upd_same, by decide +kernel, fun r nr => ?_⟩
    have k3 := (K1.trans k2).then_new (o := .lst (allNm.map V.str ++ tailNm.map V.str)) nr
    refine ⟨_, rfl, p, q, ns, bud, 20, rfl, by decide, by decide, hP.keep0 k3, fun i H4 i0 i1 P4 K4 => ?_⟩
    have hr4 : H4 r = some (.lst ((allNm ++ tailNm).map V.str)) := by
      rw [List.map_append]
      exact K4 _ _ upd_same (by simpa using hP.nep ((K1.trans k2).free nr))
    obtain ⟨j, rfl⟩ : ∃ j : Nat, i = (j : Int) := ⟨i.toNat, by omega⟩
    have hlen : (allNm ++ tailNm).length = 20 := by decide +kernel
    have hj : j < (allNm ++ tailNm).length := by omega
    have hn : (allNm ++ tailNm)[j] ∈ allNm ++ tailNm := List.getElem_mem hj
    have hg : ((allNm ++ tailNm).map V.str)[j]? = some (.str (allNm ++ tailNm)[j]) := by rw [List.getElem?_map, List.getElem?_eq_getElem hj]; rfl
    generalize (allNm ++ tailNm)[j] = n at *
    have K04 : Keep [p] H H4 := (k3.mono (by simp)).trans K4
    refine ⟨_, _, _, _, rfl, rfl, SqL.of hr4, atI_nat hg, ?_⟩
    refine ⟨fun σ H' => ∃ a : Int, σ = [some (.ref p), some (.str n), some (.int a)] ∧ Pool H' p q ns bud ∧ Keep [p] H H', ?_, ?_⟩
    · refine ⟨_, rfl, by show 9 ≤ sizeLine; decide, fun v nv => ⟨v, _, rfl, .inr (SqT.of upd_same), rfl, rfl, _, rfl, iteB (fun e => ?_) (fun e => ?_)⟩⟩
      · have k5 : Keep [] H4 (upd H4 v (.tup ((["push", "load", "store", "sign", "jump", "skip", "ask", "show", "back"] : List Str).map V.str))) := Keep.new nv
        exact ⟨_, rfl, p, q, ns, bud, 8, rfl, by decide, by decide, P4.keep0 k5, fun z H5 z0 z1 P5 K5 => ⟨z, rfl, P5, (K04.trans (k5.mono (by simp))).trans K5⟩⟩
      · exact ⟨0, rfl, P4.new nv, K04.then_new nv⟩
    rintro σ H' ⟨a, rfl, P5, K5⟩
    exact ⟨_, rfl, _, rfl, by show 2 ≤ sizeLine; decide, fun t nt => k t n a _ (P5.free K5 nt) hn upd_same (P5.new nt) (K5.then_new nt)⟩

end
def sp_spoilt : Sp := fun vs H Q _ => ∃ (p q : Addr) (ns : List Int) (bud : Int) (c : Addr) (cs : List In2), vs = [.ref p, .ref c] ∧ Pool H p q ns bud ∧ CL H c cs ∧ cs ≠ [] ∧ NmOk cs ∧ cs.length ≤ 100000 ∧
  ∀ l cs' H', H l = none → CL H' l cs' → NmOk cs' → cs'.length ≤ cs.length + 1 → Pool H' p q ns bud → Keep [p] H H' → Q (.ref l) H'
def sp_told : Sp := fun vs H Q _ => ∃ (c : Addr) (cs : List In2) (sl mo : Int) (b : Bool), vs = [.ref c, .int sl, .int mo, .bl b] ∧ CodeAt H c cs ∧ NmOk cs ∧ cs.length ≤ 200000 ∧ ∀ r t H', Out cs sl mo b r → H t = none → H' t = some (.tup (resV r)) → Keep [] H H' → Q (.ref t) H'
section
variable {P : Program} {w : World} {K : PySem.W.Frag} {mg : Str → Option Value} {base : Heap} {C_Tape : Addr} {C_Thinker : Addr} {C_Brain : Addr} {C_Mind : Addr} {C_Frame : Addr} {C_Thinking : Addr} {C_Checker : Addr} {C_GameError : Addr} {C_BadCode : Addr} {f_BadCode___init : Addr} {T_EVENTS : Addr} {T_SIGNS : Addr} {T_ROUND_NAMES : Addr} {T_BRAIN_NAMES : Addr} {T_EFFECTS : Addr}
theorem ok_law_told {f : Addr} {fd : FuncData} (D : C8.Def K mg "_law_told" s_law_told f fd) (b : Binds K fd ["code", "slots", "moves", "brain"] []) (T : Txt K mg C_Tape C_Thinker C_Brain C_Mind C_Frame C_Thinking C_Checker C_GameError C_BadCode T_EVENTS T_SIGNS T_ROUND_NAMES T_BRAIN_NAMES T_EFFECTS) (c_check_code : CalX P w K mg base 3 "check_code" (sp_check C_BadCode) [.bl false])
    (c_check_code_thinking : CalXK P w K mg base 3 "check_code" (sp_check C_BadCode) 3 ["thinking"] (fun vs zs => vs ++ zs)) : C8.Cal P w K mg base 4 "_law_told" sp_told [] := by
  refine cal0 D b .nil sc_law_told (fun vs H Q E h => ?_) (fun cdv A outer s H vs Q E hr h => ?_)
  · obtain ⟨c, cs, sl, mo, b, rfl, _⟩ := h
    rfl
  · obtain ⟨c, cs, sl, mo, b, rfl, hc, hnm, hn, k⟩ := h
    refine ⟨_, (pss_one (ps_try_as (i := 4) rfl rfl sc_law_told.nd rfl rfl ⟨rfl, by decide, .inl T.m_BadCode⟩ takes0 (fun W pn xe tk ps =>
  (pss_cons (ps_if (pt_val (pv 3))
    (pss_one (ps_ret (pe_tup (pa_cons pe_str (pa_cons (pe_cKS c_check_code_thinking hr (by first | exact Nat.le_refl _ | decide | omega) rfl tk (pa_cons (pv 0) (pa_cons (pv 1) (pa_cons (pv 2) pa_nil))) (pk_cons pe_bl pk_nil)) pa_nil)))))
    pss_nil)
  (pss_one (ps_ret (pe_tup (pa_cons pe_str (pa_cons (pe_cS c_check_code hr (by first | exact Nat.le_refl _ | decide | omega) rfl tk (pa_cons (pv 0) (pa_cons (pv 1) (pa_cons (pv 2) pa_nil)))) pa_nil)))))))
  (fun a oe cls d pn hz hf =>
  (pss_one (ps_ret (pe_tup (pa_cons pe_str (pa_cons (pe_xf T.f_BadCode T.no_BadCode hz hf (pv 4)) (pa_cons (pe_callB (call_isX hz hf) (by rfl) T.n_isinstance bo_isinstance (pa_cons (pv 4) (pa_cons (pe_glob (v := .ref _) rfl T.m_GameError rfl) pa_nil))) pa_nil))))))))), ?_⟩
    have good : ∀ (s : Hts × Int) (H' : Hp), cs ≠ [] → upto cs sl mo b cs.length = some s → Keep [] H H' → 2 ≤ sizeLine ∧ ∀ t, H' t = none → Q (.ref t) (upd H' t (.tup [.str "passed", .int s.2])) := fun s H' h1 h2 K => ⟨by decide, fun t nt => k (.inr s.2) t _ ⟨h1, s, h2, rfl⟩ (K.free nt) upd_same (K.then_new nt)⟩
    refine ⟨_, rfl, _, rfl, iteB (fun e => ?_) (fun e => ?_)⟩
    · subst e
      refine ⟨_, rfl, _, rfl, _, rfl, rfl, rfl, c, cs, sl, mo, true, rfl, hc, hnm, hn, good, fun i d H' bad nd hd K => ?_⟩
      refine ⟨true, T.x_BadCode, fun _ a ha => ?_, fun q => nomatch q⟩
      refine ⟨_, rfl, rfl, rfl, d, _, _, rfl, hd, rfl, ?_⟩
      refine ⟨_, rfl, _, _, d, _, true, rfl, rfl, rfl, T.e_BadCode, hd, T.kit1, ?_⟩
      exact ⟨by show 3 ≤ sizeLine; decide, fun t nt => k (.inl i) t _ bad (K.free nt) upd_same (K.then_new nt)⟩
    · subst e
      refine ⟨_, rfl, _, rfl, _, rfl, c, cs, sl, mo, false, rfl, hc, hnm, hn, good, fun i d H' bad nd hd K => ?_⟩
      refine ⟨true, T.x_BadCode, fun _ a ha => ?_, fun q => nomatch q⟩
      refine ⟨_, rfl, rfl, rfl, d, _, _, rfl, hd, rfl, ?_⟩
      refine ⟨_, rfl, _, _, d, _, true, rfl, rfl, rfl, T.e_BadCode, hd, T.kit1, ?_⟩
      exact ⟨by show 3 ≤ sizeLine; decide, fun t nt => k (.inl i) t _ bad (K.free nt) upd_same (K.then_new nt)⟩
theorem ok_spoilt {f : Addr} {fd : FuncData} (D : C8.Def K mg "_law_spoilt" s_law_spoilt f fd) (b : Binds K fd ["pool", "code"] []) (T : Txt K mg C_Tape C_Thinker C_Brain C_Mind C_Frame C_Thinking C_Checker C_GameError C_BadCode T_EVENTS T_SIGNS T_ROUND_NAMES T_BRAIN_NAMES T_EFFECTS) (c_law_any : C8.Cal P w K mg base 3 "_law_any" sp_any []) (c_law_draw : C8.Cal P w K mg base 1 "_law_draw" sp_law_draw []) : C8.Cal P w K mg base 4 "_law_spoilt" sp_spoilt [] := by
  refine cal0 D b .nil sc_law_spoilt (fun vs H Q E h => ?_) (fun cdv A outer s H vs Q E hr h => ?_)
  · obtain ⟨p, q, ns, bud, c, cs, rfl, _⟩ := h
    rfl
  · obtain ⟨p, q, ns, bud, c, cs, rfl, hP, hc, hne, hnm, hlen, k⟩ := h
    refine ⟨_, (pss_cons (ps_set (i := 1) sc_law_spoilt.nd rfl (by first | exact Or.inl rfl | exact Or.inr rfl) (pe_callTy call_list_of (by rfl) T.n_list bo_list (pa_cons (pv 1) pa_nil)))
(pss_cons (ps_set (i := 2) sc_law_spoilt.nd rfl (by first | exact Or.inl rfl | exact Or.inr rfl) (pe_c c_law_draw hr (by first | exact Nat.le_refl _ | decide | omega) rfl (pa_cons (pv 0) (pa_cons (pe_callB call_len_seq (by rfl) T.n_len bo_len (pa_cons (pv 1) pa_nil)) pa_nil))))
(pss_cons (ps_set (i := 3) sc_law_spoilt.nd rfl (by first | exact Or.inl rfl | exact Or.inr rfl) (pe_c c_law_draw hr (by first | exact Nat.le_refl _ | decide | omega) rfl (pa_cons (pv 0) (pa_cons pe_int pa_nil))))
(pss_cons (ps_if (pt_cmpR op_eq (pv 3) pe_int (nomark _))
  (pss_one (ps_ret (pe_op op_cat (pe_op op_cat (pe_slice sl_list (pv 1) po_none (po_some (pv 2))) (pe_lst (pa_cons (pe_c c_law_any hr (by first | exact Nat.le_refl _ | decide | omega) rfl (pa_cons (pv 0) pa_nil)) pa_nil))) (pe_slice sl_list (pv 1) (po_some (pv 2)) po_none))))
  pss_nil)
(pss_cons (ps_if (pt_cmpR op_eq (pv 3) pe_int (nomark _))
  (pss_one (ps_ret (pe_op op_cat (pe_slice sl_list (pv 1) po_none (po_some (pv 2))) (pe_slice sl_list (pv 1) (po_some (pe_op op_add (pv 2) pe_int)) po_none))))
  pss_nil)
(pss_cons (ps_if (pt_cmpR op_eq (pv 3) pe_int (nomark _))
  (pss_one (ps_asg (pe_tup (pa_cons (pe_ix ix_tup (pe_ix ix_list (pv 1) (pv 2) (fun _ _ => rfl)) pe_int (fun _ _ => rfl)) (pa_cons (pe_op op_add (pe_ix ix_tup (pe_ix ix_list (pv 1) (pv 2) (fun _ _ => rfl)) pe_int (fun _ _ => rfl)) pe_int) pa_nil))) (pg_sub (pv 1) (pv 2) set_list)))
  (pss_one (ps_if (pt_cmpR op_eq (pv 3) pe_int (nomark _))
    (pss_one (ps_asg (pe_tup (pa_cons (pe_ix ix_tup (pe_ix ix_list (pv 1) (pv 2) (fun _ _ => rfl)) pe_int (fun _ _ => rfl)) (pa_cons (pe_op op_sub (pe_ix ix_tup (pe_ix ix_list (pv 1) (pv 2) (fun _ _ => rfl)) pe_int (fun _ _ => rfl)) pe_int) pa_nil))) (pg_sub (pv 1) (pv 2) set_list)))
    (pss_one (ps_if (pt_cmpR op_eq (pv 3) pe_int (nomark _))
      (pss_one (ps_asg (pe_tup (pa_cons (pe_ix ix_tup (pe_ix ix_list (pv 1) (pv 2) (fun _ _ => rfl)) pe_int (fun _ _ => rfl)) (pa_cons pe_int pa_nil))) (pg_sub (pv 1) (pv 2) set_list)))
      (pss_one (ps_asg (pe_c c_law_any hr (by first | exact Nat.le_refl _ | decide | omega) rfl (pa_cons (pv 0) pa_nil)) (pg_sub (pv 1) (pv 2) set_list))))))))
(pss_one (ps_ret (pv 1))))))))), ?_⟩
    obtain ⟨xs, hx, px⟩ := id hc
    have hl := px.len
    have hpos : 0 < cs.length := List.length_pos_iff.mpr hne
    refine ⟨_, rfl, _, _, rfl, .inl (SqL.of hx), fun l nl => ?_⟩
    have k1 : Keep [] H (upd H l (.lst xs)) := Keep.new nl
    have nlp := hP.nep nl
    refine ⟨_, rfl, _, rfl, _, _, rfl, .inl (SqL.of upd_same), p, q, ns, bud, (xs.length : Int), rfl, by omega, by omega, hP.new nl, fun pl H2 p0 p1 P2 K2 => ?_⟩
    have K02 : Keep [p] H H2 := (k1.mono (by simp)).trans K2
    have hx2 := K2 _ _ (upd_same (H := H) (a := l) (o := HO.lst xs)) (by simpa using nlp)
    have px2 : Prs H2 xs cs := (px.tk k1.tk).tk ((hP.new nl).tkb K2)
    obtain ⟨i, rfl⟩ : ∃ i : Nat, pl = (i : Int) := ⟨pl.toNat, by omega⟩
    have hi : i < cs.length := by omega
    obtain ⟨n, a, hna⟩ : ∃ n a, cs[i]? = some (n, a) := ⟨_, _, List.getElem?_eq_getElem hi⟩
    have hn := hnm (n, a) (List.mem_of_getElem? hna)
    have nlq := hP.neq nl
    have finS : ∀ {H4 : Hp} {t : Addr} {n' : Str} {a' : Int}, H4 l = some (.lst xs) → Prs H4 xs cs → H4 t = some (.tup [.str n', .int a']) → n' ∈ allNm ++ tailNm → Pool H4 p q ns bud → Keep [p] H H4 → Q (.ref l) (upd H4 l (.lst (xs.set i (.ref t)))) := fun h1 h2 h3 h4 h5 h6 =>
      k l (cs.set i _) _ nl (CL.set h1 h2 h3 i) (hnm.set h4) (by rw [List.length_set]; omega) (h5.own nlp nlq) (h6.then_own nl)
    have hix : ixN xs.length (i : Int) = some i := ixN_j (by omega)
    refine ⟨_, rfl, p, q, ns, bud, 6, rfl, by decide, by decide, P2, fun kd H3 k0 k1' P3 K3 => ?_⟩
    have K03 := K02.trans K3
    have hx3 := K3 _ _ hx2 (by simpa using nlp)
    have px3 := px2.tk (P2.tkb K3)
    obtain ⟨t0, ht0, hT0⟩ := px3.get hna
    have hc3 : CL H3 l cs := ⟨xs, hx3, px3⟩
    refine ⟨_, rfl, rfl, _, rfl, iteD (fun e => ?_) (fun e => ?_)⟩
    · refine ⟨_, rfl, _, rfl, _, rfl, l, xs, rfl, SqL.of hx3, fun r1 nr1 => ?_⟩
      rw [cutTo (by omega)]
      have hr1 : CL (upd H3 r1 (.lst (xs.take i))) r1 (cs.take i) := ⟨_, upd_same, (px3.take i).tk (TK.new nr1)⟩
      have k4 : Keep [] H3 (upd H3 r1 (.lst (xs.take i))) := Keep.new nr1
      refine ⟨_, rfl, p, q, ns, bud, rfl, P3.new nr1, fun t n' a' H5 nt hn' ht P5 K5 => And.intro (by show 1 ≤ sizeLine; decide) <| fun u nu => ?_⟩
      have nr1p := P3.nep nr1
      have hr5 := hr1.keepP (P3.new nr1) K5 nr1p
      have hc5 := (hc3.keep0 k4).keepP (P3.new nr1) K5 nlp
      have hu : CL (upd H5 u (.lst [.ref t])) u [(n', a')] := ⟨_, upd_same, .cons (Keep.new (W := []) nu _ _ ht (by simp)) .nil⟩
      have k6 : Keep [] H5 (upd H5 u (.lst [.ref t])) := Keep.new nu
      have ll : ∀ (c1 c2 : List In2), (c1 ++ c2).length = c1.length + c2.length := fun _ _ => List.length_append
      have l1 : ∀ (nm : Str) (a : Int), ([(nm, a)] : List In2).length = 1 := fun _ _ => rfl
      refine cat2 (hr5.keep0 k6) hu (by rw [l1, List.length_take]; omega) fun r2 H6 nr2 hr2 k7 => ?_
      have k67 := k6.trans k7
      obtain ⟨xs6, hx6, px6⟩ := hc5.keep0 k67
      have hl6 := px6.len
      refine ⟨_, rfl, _, rfl, _, rfl, l, xs6, rfl, SqL.of hx6, fun r3 nr3 => ?_⟩
      rw [cutFrom (by omega)]
      have k8 : Keep [] H6 (upd H6 r3 (.lst (xs6.drop i))) := Keep.new nr3
      have hr3 : CL (upd H6 r3 (.lst (xs6.drop i))) r3 (cs.drop i) := ⟨_, upd_same, (px6.drop i).tk (TK.new nr3)⟩
      refine cat2 (hr2.keep0 k8) hr3 (by rw [ll, l1, List.length_take, List.length_drop]; omega) fun r4 H7 nr4 hr4 k9 => ?_
      have K37 : Keep [p] H3 H5 := (k4.mono (by simp)).trans K5
      have k57 := k67.trans (k8.trans k9)
      refine k r4 _ _ (P5.free (K03.trans K37) ((k67.trans k8).free nr4)) hr4 (((hnm.take i).app (.one' hn')).app (hnm.drop i)) (by rw [ll, ll, l1, List.length_take, List.length_drop]; omega) (P5.keep0 k57) ((K03.trans K37).trans (k57.mono (by simp)))
    refine ⟨_, rfl, rfl, _, rfl, iteD (fun e => ?_) (fun e => ?_)⟩
    · refine ⟨_, rfl, _, rfl, _, rfl, l, xs, rfl, SqL.of hx3, fun r1 nr1 => ?_⟩
      rw [cutTo (by omega)]
      have hr1 : CL (upd H3 r1 (.lst (xs.take i))) r1 (cs.take i) := ⟨_, upd_same, (px3.take i).tk (TK.new nr1)⟩
      have k4 : Keep [] H3 (upd H3 r1 (.lst (xs.take i))) := Keep.new nr1
      refine ⟨_, rfl, _, rfl, _, _, rfl, rfl, _, rfl, l, xs, rfl, SqL.of (k4 _ _ hx3 (by simp)), fun r3 nr3 => ?_⟩
      have e1 : ((i : Int) + 1) = ((i + 1 : Nat) : Int) := by omega
      rw [e1, cutFrom (by omega)]
      have k8 : Keep [] _ (upd (upd H3 r1 (.lst (xs.take i))) r3 (.lst (xs.drop (i + 1)))) := Keep.new nr3
      have hr3 : CL (upd (upd H3 r1 (.lst (xs.take i))) r3 (.lst (xs.drop (i + 1)))) r3 (cs.drop (i + 1)) := ⟨_, upd_same, ((px3.tk k4.tk).drop (i + 1)).tk (TK.new nr3)⟩
      refine cat2 (hr1.keep0 k8) hr3 (by rw [List.length_take, List.length_drop]; omega) fun r4 H7 nr4 hr4 k9 => ?_
      have k57 := k4.trans (k8.trans k9)
      exact k r4 _ _ (P3.free K03 ((k4.trans k8).free nr4)) hr4 ((hnm.take i).app (hnm.drop (i + 1))) (by rw [List.length_append, List.length_take, List.length_drop]; omega) (P3.keep0 k57) (K03.trans (k57.mono (by simp)))
    refine ⟨_, rfl, rfl, _, rfl, iteD (fun e => ?_) (fun e => ⟨_, rfl, rfl, _, rfl, iteD (fun e => ?_) (fun e => ⟨_, rfl, rfl, _, rfl, iteD (fun e => ?_) (fun e => ?_)⟩)⟩)⟩
    · exact ⟨_, rfl, _, rfl, _, _, _, _, rfl, rfl, SqL.of hx3, atI_nat ht0, _, _, _, _, rfl, rfl, SqT.of hT0, rfl, _, rfl, _, rfl, _, _, _, _, rfl, rfl, SqL.of hx3, atI_nat ht0, _, _, _, _, rfl, rfl, SqT.of hT0, rfl, _, _, rfl, rfl, And.intro (by show 2 ≤ sizeLine; decide) <| fun t nt => ⟨_, rfl, _, rfl, _, _, _, _, rfl, rfl, Keep.new (W := []) nt _ _ hx3 (by simp), hix, _, rfl, finS (Keep.new (W := []) nt _ _ hx3 (by simp)) (px3.tk (TK.new nt)) upd_same hn (P3.new nt) (K03.then_new nt)⟩⟩
    · exact ⟨_, rfl, _, rfl, _, _, _, _, rfl, rfl, SqL.of hx3, atI_nat ht0, _, _, _, _, rfl, rfl, SqT.of hT0, rfl, _, rfl, _, rfl, _, _, _, _, rfl, rfl, SqL.of hx3, atI_nat ht0, _, _, _, _, rfl, rfl, SqT.of hT0, rfl, _, _, rfl, rfl, And.intro (by show 2 ≤ sizeLine; decide) <| fun t nt => ⟨_, rfl, _, rfl, _, _, _, _, rfl, rfl, Keep.new (W := []) nt _ _ hx3 (by simp), hix, _, rfl, finS (Keep.new (W := []) nt _ _ hx3 (by simp)) (px3.tk (TK.new nt)) upd_same hn (P3.new nt) (K03.then_new nt)⟩⟩
    · exact ⟨_, rfl, _, rfl, _, _, _, _, rfl, rfl, SqL.of hx3, atI_nat ht0, _, _, _, _, rfl, rfl, SqT.of hT0, rfl, And.intro (by show 2 ≤ sizeLine; decide) <| fun t nt => ⟨_, rfl, _, rfl, _, _, _, _, rfl, rfl, Keep.new (W := []) nt _ _ hx3 (by simp), hix, _, rfl, finS (Keep.new (W := []) nt _ _ hx3 (by simp)) (px3.tk (TK.new nt)) upd_same hn (P3.new nt) (K03.then_new nt)⟩⟩
    · exact ⟨_, rfl, p, q, ns, bud, rfl, P3, fun t n' a' H4 nt hn' ht P4 K4 => ⟨_, rfl, _, rfl, _, _, _, _, rfl, rfl, K4 _ _ hx3 (by simpa using nlp), hix, _, rfl, finS (K4 _ _ hx3 (by simpa using nlp)) (px3.tk (P3.tkb K4)) ht hn' P4 (K03.trans K4)⟩⟩
end

namespace Th
/-! expressions: data, values, folding -/
inductive Ex where
  | num (n : Int)
  | var (x : Str)
  | long
  | view (e : Ex)
  | pick (x : Str) (l r : Ex)
  | op (s : Str) (l r : Ex)
def dEx : Ex → PyData
  | .num n => .tuple [.str "number", .int n]
  | .var x => .tuple [.str "variable", .str x]
  | .long => .tuple [.str "long"]
  | .view e => .tuple [.str "view", dEx e]
  | .pick x l r => .tuple [.str "pick", .str x, dEx l, dEx r]
  | .op s l r => .tuple [.str s, dEx l, dEx r]
def Ex.dep : Ex → Nat
  | .num _ => 1
  | .var _ => 1
  | .long => 1
  | .view e => e.dep + 1
  | .pick _ l r => max l.dep r.dep + 1
  | .op _ l r => max l.dep r.dep + 1
theorem Ex.dep_pos : ∀ e : Ex, 1 ≤ e.dep
  | .num _ => Nat.le_refl _
  | .var _ => Nat.le_refl _
  | .long => Nat.le_refl _
  | .view e => by unfold Ex.dep; omega
  | .pick _ l r => by unfold Ex.dep; omega
  | .op _ l r => by unfold Ex.dep; omega
def sgL : List Str := ["+", "-", "*", "/", "mod", "<", "="]
def strOK (x : Str) : Bool := x.cps.all (· < 0x110000)
def Ex.Ok (ns ps : List Str) : Ex → Prop
  | .num n => 0 ≤ n ∧ n < 65536
  | .var x => x ∈ ns
  | .long => True
  | .view e => e.Ok ns ps
  | .pick x l r => x ∈ ps ∧ l.Ok ns ps ∧ r.Ok ns ps
  | .op s l r => s ∈ sgL ∧ l.Ok ns ps ∧ r.Ok ns ps
inductive EV (K : PySem.W.Frag) (H : Hp) : V → Ex → Prop
  | num {a : Addr} {n : Int} : At K H a [.str "number", .int n] → EV K H (.ref a) (.num n)
  | var {a : Addr} {x : Str} : At K H a [.str "variable", .str x] → EV K H (.ref a) (.var x)
  | long {a : Addr} : At K H a [.str "long"] → EV K H (.ref a) .long
  | view {a : Addr} {v : V} {e : Ex} : At K H a [.str "view", v] → EV K H v e → EV K H (.ref a) (.view e)
  | pick {a : Addr} {x : Str} {v u : V} {l r : Ex} : At K H a [.str "pick", .str x, v, u] → EV K H v l → EV K H u r → EV K H (.ref a) (.pick x l r)
  | op {a : Addr} {s : Str} {v u : V} {l r : Ex} : At K H a [.str s, v, u] → EV K H v l → EV K H u r → EV K H (.ref a) (.op s l r)
theorem EV.tk {K : PySem.W.Frag} {H H' : Hp} (k : TK H H') {v : V} {e : Ex} (h : EV K H v e) : EV K H' v e := by
  induction h with
  | num h => exact .num (h.tk k)
  | var h => exact .var (h.tk k)
  | long h => exact .long (h.tk k)
  | view h _ i => exact .view (h.tk k) i
  | pick h _ _ i j => exact .pick (h.tk k) i j
  | op h _ _ i j => exact .op (h.tk k) i j
theorem EV.dp {K : PySem.W.Frag} {H : Hp} {v : V} {e : Ex} (h : EV K H v e) : Dp K H v (dEx e) := by
  induction h with
  | num h => exact .tup h.sq (.cons (.str _) (.cons (.int _) .nil))
  | var h => exact .tup h.sq (.cons (.str _) (.cons (.str _) .nil))
  | long h => exact .tup h.sq (.cons (.str _) .nil)
  | view h _ i => exact .tup h.sq (.cons (.str _) (.cons i .nil))
  | pick h _ _ i j => exact .tup h.sq (.cons (.str _) (.cons (.str _) (.cons i (.cons j .nil))))
  | op h _ _ i j => exact .tup h.sq (.cons (.str _) (.cons i (.cons j .nil)))
theorem paired_get {F : V → V → Prop} {xs ys : List V} (h : Paired F xs ys) : xs.length = ys.length ∧ ∀ (i : Nat) x y, xs[i]? = some x → ys[i]? = some y → F x y := by
  induction h with
  | nil => exact ⟨rfl, fun i x y h => by simp at h⟩
  | cons h _ ih =>
    refine ⟨by rw [List.length_cons, List.length_cons, ih.1], fun i x y hx hy => ?_⟩
    cases i with
    | zero => simp at hx hy; subst hx hy; exact h
    | succ i => exact ih.2 i x y (by simpa using hx) (by simpa using hy)
theorem sameT {K : PySem.W.Frag} {H : Hp} {n : Nat} {p q : Addr} {xs ys : List V} (h1 : At K H p xs) (h2 : At K H q ys) (h : Paired (SameV K n H) xs ys) (hl : xs.length ≤ 1000000) : SameV K (n + 1) H (.ref p) (.ref q) :=
  .inr ⟨p, q, _, _, rfl, rfl, .inr ⟨h1, h2⟩, (paired_get h).1, smallM hl, (paired_get h).2⟩
theorem same_ev {K : PySem.W.Frag} {H : Hp} {v : V} {e : Ex} (h : EV K H v e) : ∀ {u : V} {n : Nat}, EV K H u e → e.dep ≤ n → SameV K (n + 1) H v u := by
  have st : ∀ {n : Nat} (x : Str), SameV K (n + 1) H (.str x) (.str x) := fun x => .inl ⟨rfl, .inl ⟨x, rfl⟩⟩
  have it : ∀ {n : Nat} (x : Int), SameV K (n + 1) H (.int x) (.int x) := fun x => .inl ⟨rfl, .inr (.inl ⟨x, rfl⟩)⟩
  induction h with
  | num h =>
    intro u n g d
    obtain ⟨n, rfl⟩ : ∃ m, n = m + 1 := ⟨n - 1, by have : (1 : Nat) ≤ n := d; omega⟩
    cases g with
    | num g => exact sameT h g (.cons (st _) (.cons (it _) .nil)) (by simp)
  | var h =>
    intro u n g d
    obtain ⟨n, rfl⟩ : ∃ m, n = m + 1 := ⟨n - 1, by have : (1 : Nat) ≤ n := d; omega⟩
    cases g with
    | var g => exact sameT h g (.cons (st _) (.cons (st _) .nil)) (by simp)
  | long h =>
    intro u n g d
    obtain ⟨n, rfl⟩ : ∃ m, n = m + 1 := ⟨n - 1, by have : (1 : Nat) ≤ n := d; omega⟩
    cases g with
    | long g => exact sameT h g (.cons (st _) .nil) (by simp)
  | view h _ i =>
    intro u n g d
    unfold Ex.dep at d
    obtain ⟨n, rfl⟩ : ∃ m, n = m + 1 := ⟨n - 1, by omega⟩
    cases g with
    | view g g1 => exact sameT h g (.cons (st _) (.cons (i g1 (by omega)) .nil)) (by simp)
  | pick h _ _ i j =>
    intro u n g d
    unfold Ex.dep at d
    obtain ⟨n, rfl⟩ : ∃ m, n = m + 1 := ⟨n - 1, by omega⟩
    cases g with
    | pick g g1 g2 => exact sameT h g (.cons (st _) (.cons (st _) (.cons (i g1 (by omega)) (.cons (j g2 (by omega)) .nil)))) (by simp)
  | op h _ _ i j =>
    intro u n g d
    unfold Ex.dep at d
    obtain ⟨n, rfl⟩ : ∃ m, n = m + 1 := ⟨n - 1, by omega⟩
    cases g with
    | op g g1 g2 => exact sameT h g (.cons (st _) (.cons (i g1 (by omega)) (.cons (j g2 (by omega)) .nil))) (by simp)
def EQ (a b : Ex) : Bool := PyData.eqv (dEx a) (dEx b)
def dL : Ex → List PyData
  | .num n => [.str "number", .int n]
  | .var x => [.str "variable", .str x]
  | .long => [.str "long"]
  | .view e => [.str "view", dEx e]
  | .pick x l r => [.str "pick", .str x, dEx l, dEx r]
  | .op s l r => [.str s, dEx l, dEx r]
theorem dEx_eq (e : Ex) : dEx e = .tuple (dL e) := by cases e <;> rfl
theorem eqvA_cons (x y : PyData) (xs ys : List PyData) : PyData.eqvAll (x :: xs) (y :: ys) = (PyData.eqv x y && PyData.eqvAll xs ys) := by rw [PyData.eqvAll]
theorem eqvA_len : ∀ xs ys : List PyData, PyData.eqvAll xs ys = true → xs.length = ys.length
  | [], [], _ => rfl
  | [], _ :: _, h => by simp [PyData.eqvAll] at h
  | _ :: _, [], h => by simp [PyData.eqvAll] at h
  | x :: xs, y :: ys, h => by
    rw [eqvA_cons, Bool.and_eq_true] at h
    rw [List.length_cons, List.length_cons, eqvA_len xs ys h.2]
theorem eqv_tup (xs ys : List PyData) : PyData.eqv (.tuple xs) (.tuple ys) = PyData.eqvAll xs ys := by rw [PyData.eqv]
theorem eqv_ti (xs : List PyData) (n : Int) : PyData.eqv (.tuple xs) (.int n) = false := by simp [PyData.eqv]
theorem eqv_it (xs : List PyData) (n : Int) : PyData.eqv (.int n) (.tuple xs) = false := by simp [PyData.eqv]
theorem eqv_ts (xs : List PyData) (n : Str) : PyData.eqv (.tuple xs) (.str n) = false := by simp [PyData.eqv]
theorem eqv_st (xs : List PyData) (n : Str) : PyData.eqv (.str n) (.tuple xs) = false := by simp [PyData.eqv]
theorem eqv_is (m : Int) (n : Str) : PyData.eqv (.int m) (.str n) = false := by simp [PyData.eqv]
theorem eqv_si (m : Int) (n : Str) : PyData.eqv (.str n) (.int m) = false := by simp [PyData.eqv]
theorem eqv_ii {m n : Int} (h : PyData.eqv (.int m) (.int n) = true) : m = n := by simpa [PyData.eqv] using h
theorem eqv_ss {m n : Str} (h : PyData.eqv (.str m) (.str n) = true) : m = n := by simpa [PyData.eqv] using h
theorem eq_sound : ∀ a b : Ex, EQ a b = true → a = b := by
  intro a
  have hEQ : ∀ x y : Ex, EQ x y = PyData.eqvAll (dL x) (dL y) := fun x y => by unfold EQ; rw [dEx_eq, dEx_eq, eqv_tup]
  induction a with
  | num n =>
    intro b h
    rw [hEQ] at h
    have hl := eqvA_len _ _ h
    cases b with
    | num m => simp only [dL, eqvA_cons, Bool.and_eq_true] at h; rw [eqv_ii h.2.1]
    | var m => simp only [dL, eqvA_cons, Bool.and_eq_true, eqv_is] at h; exact absurd h.2.1 (by simp)
    | view m => simp only [dL, eqvA_cons, Bool.and_eq_true] at h; rw [dEx_eq, eqv_it] at h; exact absurd h.2.1 (by simp)
    | _ => simp [dL] at hl
  | var n =>
    intro b h
    rw [hEQ] at h
    have hl := eqvA_len _ _ h
    cases b with
    | num m => simp only [dL, eqvA_cons, Bool.and_eq_true, eqv_si] at h; exact absurd h.2.1 (by simp)
    | var m => simp only [dL, eqvA_cons, Bool.and_eq_true] at h; rw [eqv_ss h.2.1]
    | view m => simp only [dL, eqvA_cons, Bool.and_eq_true] at h; rw [dEx_eq, eqv_st] at h; exact absurd h.2.1 (by simp)
    | _ => simp [dL] at hl
  | long =>
    intro b h
    rw [hEQ] at h
    have hl := eqvA_len _ _ h
    cases b with
    | long => rfl
    | _ => simp [dL] at hl
  | view e i =>
    intro b h
    rw [hEQ] at h
    have hl := eqvA_len _ _ h
    cases b with
    | num m => simp only [dL, eqvA_cons, Bool.and_eq_true] at h; rw [dEx_eq, eqv_ti] at h; exact absurd h.2.1 (by simp)
    | var m => simp only [dL, eqvA_cons, Bool.and_eq_true] at h; rw [dEx_eq, eqv_ts] at h; exact absurd h.2.1 (by simp)
    | view m => simp only [dL, eqvA_cons, Bool.and_eq_true] at h; rw [i m h.2.1]
    | _ => simp [dL] at hl
  | pick x l r i j =>
    intro b h
    rw [hEQ] at h
    have hl := eqvA_len _ _ h
    cases b with
    | pick y l' r' => simp only [dL, eqvA_cons, Bool.and_eq_true] at h; rw [eqv_ss h.2.1, i l' h.2.2.1, j r' h.2.2.2.1]
    | _ => simp [dL] at hl
  | op x l r i j =>
    intro b h
    rw [hEQ] at h
    have hl := eqvA_len _ _ h
    cases b with
    | op y l' r' => simp only [dL, eqvA_cons, Bool.and_eq_true] at h; rw [eqv_ss h.1, i l' h.2.1, j r' h.2.2.1]
    | _ => simp [dL] at hl
theorem sg_ok : ∀ s ∈ sgL, PyData.strOk s = true := by decide +kernel
theorem kw_ok : PyData.strOk "number" = true ∧ PyData.strOk "variable" = true ∧ PyData.strOk "long" = true ∧ PyData.strOk "view" = true ∧ PyData.strOk "pick" = true := by decide +kernel
theorem canLay_ex {ns ps : List Str} (hn : ∀ x ∈ ns, PyData.strOk x = true) (hp : ∀ x ∈ ps, PyData.strOk x = true) : ∀ e : Ex, e.Ok ns ps → (dEx e).canLay0 = true
  | .num _, _ => by simp only [dEx, PyData.canLay0, PyData.canLayAll0, Bool.and_true, kw_ok.1]
  | .var x, h => by simp only [dEx, PyData.canLay0, PyData.canLayAll0, Bool.and_true, hn x h, kw_ok.2.1]
  | .long, _ => by simp only [dEx, PyData.canLay0, PyData.canLayAll0, Bool.and_true, kw_ok.2.2.1]
  | .view e, h => by
    simp only [dEx, PyData.canLay0, PyData.canLayAll0, Bool.and_true, canLay_ex hn hp e h, kw_ok.2.2.2.1]
  | .pick x l r, ⟨h1, h2, h3⟩ => by
    simp only [dEx, PyData.canLay0, PyData.canLayAll0, Bool.and_true, canLay_ex hn hp l h2, canLay_ex hn hp r h3, hp x h1, kw_ok.2.2.2.2]
  | .op s l r, ⟨h1, h2, h3⟩ => by
    simp only [dEx, PyData.canLay0, PyData.canLayAll0, Bool.and_true, canLay_ex hn hp l h2, canLay_ex hn hp r h3, sg_ok s h1]
theorem depth_ex : ∀ e : Ex, (dEx e).depth ≤ e.dep + 1
  | .num _ => by simp [dEx, PyData.depth, PyData.depthAll, Ex.dep]
  | .var x => by simp [dEx, PyData.depth, PyData.depthAll, Ex.dep]
  | .long => by simp [dEx, PyData.depth, PyData.depthAll, Ex.dep]
  | .view e => by have := depth_ex e; simp only [dEx, PyData.depth, PyData.depthAll, Ex.dep]; omega
  | .pick x l r => by have := depth_ex l; have := depth_ex r; simp only [dEx, PyData.depth, PyData.depthAll, Ex.dep]; omega
  | .op s l r => by have := depth_ex l; have := depth_ex r; simp only [dEx, PyData.depth, PyData.depthAll, Ex.dep]; omega
def NamesOk (ns : List Str) : Prop := ∀ x ∈ ns, PyData.strOk x = true
theorem shaped_ex {ns ps : List Str} (hn : NamesOk ns) (hp : NamesOk ps) {e : Ex} (h : e.Ok ns ps) (hd : e.dep ≤ 60) : SeqAt.shaped (dEx e) = true := by
  unfold SeqAt.shaped
  rw [Bool.and_eq_true]
  exact ⟨canLay_ex hn hp e h, decide_eq_true (by have := depth_ex e; omega)⟩
def comb (s : Str) (a b : Int) : Int :=
  if s = "+" then (a + b) % 65536 else if s = "-" then (if a - b > 0 then a - b else 0) else if s = "*" then a * b % 65536 else if s = "/" then (if b > 0 then a / b else 0)
  else if s = "mod" then (if b > 0 then a % b else 0) else if s = "<" then (if a < b then 1 else 0) else (if a = b then 1 else 0)
theorem comb_add (a b : Int) : comb "+" a b = (a + b) % 65536 := by unfold comb; rw [if_pos rfl]
theorem comb_sub (a b : Int) : comb "-" a b = if a - b > 0 then a - b else 0 := by unfold comb; rw [if_neg (by decide +kernel), if_pos rfl]
theorem comb_mul (a b : Int) : comb "*" a b = a * b % 65536 := by unfold comb; rw [if_neg (by decide +kernel), if_neg (by decide +kernel), if_pos rfl]
theorem comb_div (a b : Int) : comb "/" a b = if b > 0 then a / b else 0 := by unfold comb; rw [if_neg (by decide +kernel), if_neg (by decide +kernel), if_neg (by decide +kernel), if_pos rfl]
theorem comb_mod (a b : Int) : comb "mod" a b = if b > 0 then a % b else 0 := by unfold comb; rw [if_neg (by decide +kernel), if_neg (by decide +kernel), if_neg (by decide +kernel), if_neg (by decide +kernel), if_pos rfl]
theorem comb_lt (a b : Int) : comb "<" a b = if a < b then 1 else 0 := by unfold comb; rw [if_neg (by decide +kernel), if_neg (by decide +kernel), if_neg (by decide +kernel), if_neg (by decide +kernel), if_neg (by decide +kernel), if_pos rfl]
theorem comb_eq (a b : Int) : comb "=" a b = if a = b then 1 else 0 := by unfold comb; rw [if_neg (by decide +kernel), if_neg (by decide +kernel), if_neg (by decide +kernel), if_neg (by decide +kernel), if_neg (by decide +kernel), if_neg (by decide +kernel)]
theorem sg_cases {s : Str} (h : s ∈ sgL) : s = "+" ∨ s = "-" ∨ s = "*" ∨ s = "/" ∨ s = "mod" ∨ s = "<" ∨ s = "=" := by
  simpa [sgL] using h
theorem comb_range {s : Str} {a b : Int} (h : s ∈ sgL) (a0 : 0 ≤ a) (a1 : a < 65536) (b0 : 0 ≤ b) (b1 : b < 65536) : 0 ≤ comb s a b ∧ comb s a b < 65536 := by
  rcases sg_cases h with rfl | rfl | rfl | rfl | rfl | rfl | rfl
  · rw [comb_add]; omega
  · rw [comb_sub]; split <;> omega
  · rw [comb_mul]; exact ⟨Int.emod_nonneg _ (by decide), Int.emod_lt_of_pos _ (by decide)⟩
  · rw [comb_div]
    split
    · exact ⟨Int.ediv_nonneg a0 b0, Int.lt_of_le_of_lt (Int.ediv_le_self _ a0) a1⟩
    · omega
  · rw [comb_mod]
    split
    · rename_i hb
      have := Int.emod_lt_of_pos a hb
      exact ⟨Int.emod_nonneg _ (by omega), by omega⟩
    · omega
  · rw [comb_lt]; split <;> omega
  · rw [comb_eq]; split <;> omega
def val (tb : Str → Int) (on : Str → Bool) (seen : List Int) : Ex → Int
  | .num n => n
  | .var x => tb x
  | .long => if (65535 : Int) < seen.length then 65535 else seen.length
  | .view e => if val tb on seen e < seen.length then seen.getD (val tb on seen e).toNat 0 else 0
  | .pick x l r => if on x = true then val tb on seen l else val tb on seen r
  | .op s l r => comb s (val tb on seen l) (val tb on seen r)
def TbOk (ns : List Str) (tb : Str → Int) : Prop := ∀ x ∈ ns, 0 ≤ tb x ∧ tb x < 65536
def SeenOk (seen : List Int) : Prop := ∀ x ∈ seen, 0 ≤ x ∧ x < 65536
theorem val_range {ns ps : List Str} {tb : Str → Int} {on : Str → Bool} {seen : List Int} (ht : TbOk ns tb) (hs : SeenOk seen) : ∀ e : Ex, e.Ok ns ps → 0 ≤ val tb on seen e ∧ val tb on seen e < 65536
  | .num n, h => h
  | .var x, h => ht x h
  | .long, _ => by unfold val; split <;> omega
  | .view e, h => by
    unfold val
    split
    · rename_i q
      have := val_range (on := on) ht hs e h
      have hl : (val tb on seen e).toNat < seen.length := by omega
      rw [List.getD_eq_getElem?_getD, List.getElem?_eq_getElem hl]
      exact hs _ (List.getElem_mem hl)
    · omega
  | .pick x l r, ⟨_, h2, h3⟩ => by
    unfold val
    split
    · exact val_range ht hs l h2
    · exact val_range ht hs r h3
  | .op s l r, ⟨h1, h2, h3⟩ => by
    unfold val
    have a := val_range (on := on) ht hs l h2
    have b := val_range (on := on) ht hs r h3
    exact comb_range h1 a.1 a.2 b.1 b.2
/-! the heap's parts for a value -/
def DcB (H : Hp) (a : Addr) (ps : List Str) (on : Str → Bool) : Prop := ∃ kvs : List (Key × V), H a = some (.dK kvs) ∧ ∀ x ∈ ps, valV kvs (.inr x) = some (.bl (on x))
def DcI (H : Hp) (a : Addr) (ns : List Str) (tb : Str → Int) : Prop := ∃ kvs : List (Key × V), H a = some (.dK kvs) ∧ ∀ x ∈ ns, valV kvs (.inr x) = some (.int (tb x))
theorem DcB.get {H : Hp} {a : Addr} {ps : List Str} {on : Str → Bool} (h : DcB H a ps on) {x : Str} (hx : x ∈ ps) : DGet H a (.str x) (some (.bl (on x))) := by
  obtain ⟨kvs, e, q⟩ := h
  rw [← q x hx]
  exact DGet.k (k := .inr x) e
theorem DcI.get {H : Hp} {a : Addr} {ps : List Str} {on : Str → Int} (h : DcI H a ps on) {x : Str} (hx : x ∈ ps) : DGet H a (.str x) (some (.int (on x))) := by
  obtain ⟨kvs, e, q⟩ := h
  rw [← q x hx]
  exact DGet.k (k := .inr x) e

theorem nes {x y : Str} (h : x ≠ y) : ¬ V.str x = V.str y := fun z => h (V.str.inj z)
theorem sg_not : ∀ s ∈ sgL, s ≠ "number" ∧ s ≠ "variable" ∧ s ≠ "long" ∧ s ≠ "view" ∧ s ≠ "pick" := by decide +kernel
def sp_combine : Sp := fun vs H Q _ => ∃ s a b, vs = [.str s, .int a, .int b] ∧ s ∈ sgL ∧ 0 ≤ a ∧ a < 65536 ∧ 0 ≤ b ∧ b < 65536 ∧ Q (.int (comb s a b)) H
structure VEnv (K : PySem.W.Frag) (H : Hp) (td od sa : Addr) (ns ps : List Str) (tb : Str → Int) (on : Str → Bool) (seen : List Int) : Prop where
  t : DcI H td ns tb
  o : DcB H od ps on
  s : SqT K H sa (seen.map V.int)
  tok : TbOk ns tb
  sok : SeenOk seen
  len : seen.length ≤ 1000000
def sp_value (K : PySem.W.Frag) (n : Nat) : Sp := fun vs H Q _ => ∃ v td od sa e ns ps tb on seen, vs = [v, .ref td, .ref od, .ref sa] ∧ EV K H v e ∧ e.Ok ns ps ∧ e.dep ≤ n ∧ VEnv K H td od sa ns ps tb on seen ∧ Q (.int (val tb on seen e)) H
theorem ev_range {K : PySem.W.Frag} {H : Hp} {v : V} {e : Ex} {ns ps : List Str} {tb : Str → Int} {on : Str → Bool} {seen : List Int} (ht : TbOk ns tb) (hs : SeenOk seen) (_ : EV K H v e) (h : e.Ok ns ps) : 0 ≤ val tb on seen e ∧ val tb on seen e < 65536 := val_range ht hs e h
theorem seen_at {seen : List Int} {z : Int} (h0 : 0 ≤ z) (h : z < seen.length) : atI (seen.map V.int) z = some (.int (seen.getD z.toNat 0)) := by
  obtain ⟨m, rfl⟩ : ∃ m : Nat, z = (m : Int) := ⟨z.toNat, by omega⟩
  have hm : m < seen.length := by omega
  refine atI_nat ?_
  rw [List.getElem?_map, List.getD_eq_getElem?_getD, Int.toNat_natCast, List.getElem?_eq_getElem hm]; rfl
section
variable {P : Program} {w : World} {K : PySem.W.Frag} {mg : Str → Option Value} {base : Heap} {C_Tape : Addr} {C_Thinker : Addr} {C_Brain : Addr} {C_Mind : Addr} {C_Frame : Addr} {C_Thinking : Addr} {C_Checker : Addr} {C_GameError : Addr} {C_BadCode : Addr} {f_BadCode___init : Addr} {T_EVENTS : Addr} {T_SIGNS : Addr} {T_ROUND_NAMES : Addr} {T_BRAIN_NAMES : Addr} {T_EFFECTS : Addr}
theorem ok_combine {f : Addr} {fd : FuncData} (D : C8.Def K mg "combine" s_combine f fd) (b : Binds K fd ["sign", "left", "right"] []) (T : Txt K mg C_Tape C_Thinker C_Brain C_Mind C_Frame C_Thinking C_Checker C_GameError C_BadCode T_EVENTS T_SIGNS T_ROUND_NAMES T_BRAIN_NAMES T_EFFECTS) {k : Nat} : C8.Cal P w K mg base (k + 1) "combine" sp_combine [] := by
  refine cal0 D b .nil sc_combine (fun vs H Q E h => ?_) (fun cdv A outer s H vs Q E hr h => ?_)
  · obtain ⟨s, a, b, rfl, _⟩ := h
    rfl
  · obtain ⟨s, x, y, rfl, hs, x0, x1, y0, y1, k⟩ := h
    refine ⟨_, (pss_cons (ps_if (pt_cmpR op_eq (pv 0) pe_str (nomark _))
  (pss_one (ps_ret (pe_op op_mod (pe_op op_add (pv 1) (pv 2)) (pe_op op_add (pe_gc rfl T.v_GREATEST) pe_int))))
  pss_nil)
(pss_cons (ps_if (pt_cmpR op_eq (pv 0) pe_str (nomark _))
  (pss_one (ps_ret (pe_callB (call_max2 rfl) (by rfl) T.n_max bo_max (pa_cons pe_int (pa_cons (pe_op op_sub (pv 1) (pv 2)) pa_nil)))))
  pss_nil)
(pss_cons (ps_if (pt_cmpR op_eq (pv 0) pe_str (nomark _))
  (pss_one (ps_ret (pe_op op_mod (pe_op op_mul (pv 1) (pv 2)) (pe_op op_add (pe_gc rfl T.v_GREATEST) pe_int))))
  pss_nil)
(pss_cons (ps_if (pt_cmpR op_eq (pv 0) pe_str (nomark _))
  (pss_one (ps_ret (pe_ifExp (pt_cmpR op_gt (pv 2) pe_int (nomark _)) (pe_op op_fdiv (pv 1) (pv 2)) pe_int)))
  pss_nil)
(pss_cons (ps_if (pt_cmpR op_eq (pv 0) pe_str (nomark _))
  (pss_one (ps_ret (pe_ifExp (pt_cmpR op_gt (pv 2) pe_int (nomark _)) (pe_op op_mod (pv 1) (pv 2)) pe_int)))
  pss_nil)
(pss_cons (ps_if (pt_cmpR op_eq (pv 0) pe_str (nomark _))
  (pss_one (ps_ret (pe_callTy call_int1 (by rfl) T.n_int bo_int (pa_cons (pe_cmpR op_lt (pv 1) (pv 2) (nomark _)) pa_nil))))
  pss_nil)
(pss_one (ps_ret (pe_callTy call_int1 (by rfl) T.n_int bo_int (pa_cons (pe_cmpR op_eq (pv 1) (pv 2) (nomark _)) pa_nil)))))))))), ?_⟩
    refine ⟨_, rfl, rfl, _, rfl, iteD (fun e => ?_) (fun e1 => ?_)⟩
    · rw [V.str.inj e, comb_add] at k
      exact ⟨_, rfl, _, rfl, _, _, rfl, rfl, _, _, rfl, rfl, _, _, rfl, rfl, (by show (0 : Int) < _; decide), k⟩
    refine ⟨_, rfl, rfl, _, rfl, iteD (fun e => ?_) (fun e2 => ?_)⟩
    · rw [V.str.inj e, comb_sub] at k
      exact ⟨_, rfl, _, rfl, _, _, rfl, rfl, _, _, rfl, k⟩
    refine ⟨_, rfl, rfl, _, rfl, iteD (fun e => ?_) (fun e3 => ?_)⟩
    · rw [V.str.inj e, comb_mul] at k
      exact ⟨_, rfl, _, rfl, _, _, rfl, rfl, .inl ⟨by omega, by omega⟩, _, _, rfl, rfl, _, _, rfl, rfl, (by show (0 : Int) < _; decide), k⟩
    refine ⟨_, rfl, rfl, _, rfl, iteD (fun e => ?_) (fun e4 => ?_)⟩
    · rw [V.str.inj e, comb_div] at k
      refine ⟨_, rfl, _, _, rfl, rfl, _, rfl, iteD (fun h => ?_) (fun h => ?_)⟩
      · rw [if_pos h] at k
        exact ⟨_, rfl, _, rfl, _, _, rfl, rfl, ⟨h, by omega⟩, k⟩
      · rw [if_neg h] at k
        exact k
    refine ⟨_, rfl, rfl, _, rfl, iteD (fun e => ?_) (fun e5 => ?_)⟩
    · rw [V.str.inj e, comb_mod] at k
      refine ⟨_, rfl, _, _, rfl, rfl, _, rfl, iteD (fun h => ?_) (fun h => ?_)⟩
      · rw [if_pos h] at k
        exact ⟨_, rfl, _, rfl, _, _, rfl, rfl, h, k⟩
      · rw [if_neg h] at k
        exact k
    refine ⟨_, rfl, rfl, _, rfl, iteD (fun e => ?_) (fun e6 => ?_)⟩
    · rw [V.str.inj e, comb_lt] at k
      refine ⟨_, rfl, _, rfl, _, _, rfl, rfl, .inr ⟨_, rfl, ?_⟩⟩
      by_cases h : x < y
      · rw [if_pos h] at k; rw [decide_eq_true h]; exact k
      · rw [if_neg h] at k; rw [decide_eq_false h]; exact k
    · have hs7 : s = "=" := by
        rcases sg_cases hs with rfl | rfl | rfl | rfl | rfl | rfl | rfl
        · exact absurd rfl e1
        · exact absurd rfl e2
        · exact absurd rfl e3
        · exact absurd rfl e4
        · exact absurd rfl e5
        · exact absurd rfl e6
        · rfl
      rw [hs7, comb_eq] at k
      refine ⟨_, rfl, _, rfl, rfl, .inr ⟨_, rfl, ?_⟩⟩
      by_cases h : x = y
      · rw [if_pos h] at k; rw [decide_eq_true (congrArg V.int h)]; exact k
      · rw [if_neg h] at k; rw [decide_eq_false (fun z => h (V.int.inj z))]; exact k
theorem ok_value0 {f : Addr} {fd : FuncData} (D : C8.Def K mg "value_of" s_value_of f fd) {ds : List Value} (d : Vals [] ds) (b : Binds K fd ["expression", "table", "on", "seen"] ds) : C8.Cal P w K mg base 1 "value_of" (sp_value K 0) [] :=
  ⟨f, fd, ["expression", "table", "on", "seen"], ds, ⟨fun vs H Q E h => (by obtain ⟨v, td, od, sa, e, ns, ps, tb, on, seen, rfl, _⟩ := h; rfl), fun A outer s H args us vs Q E _ _ _ _ h => (by obtain ⟨v, td, od, sa, e, ns, ps, tb, on, seen, _, _, _, z, _⟩ := h; have := e.dep_pos; omega)⟩, D.mgf, D.kp, b, d⟩
theorem ok_value {f : Addr} {fd : FuncData} (D : C8.Def K mg "value_of" s_value_of f fd) {ds : List Value} {dvs : List V} (d : Vals dvs ds) (b : Binds K fd ["expression", "table", "on", "seen"] ds) (T : Txt K mg C_Tape C_Thinker C_Brain C_Mind C_Frame C_Thinking C_Checker C_GameError C_BadCode T_EVENTS T_SIGNS T_ROUND_NAMES T_BRAIN_NAMES T_EFFECTS) {n k : Nat}
    (c_value_of : C8.Cal P w K mg base k "value_of" (sp_value K n) []) (c_combine : C8.Cal P w K mg base k "combine" sp_combine []) : C8.Cal P w K mg base (k + 1) "value_of" (sp_value K (n + 1)) dvs := by
  refine cal0 D b d sc_value_of (fun vs H Q E h => ?_) (fun cdv A outer s H vs Q E hr h => ?_)
  · obtain ⟨v, td, od, sa, e, ns, ps, tb, on, seen, rfl, _⟩ := h
    rfl
  · obtain ⟨v, td, od, sa, e, ns, ps, tb, on, seen, rfl, he, hok, hd, V, k⟩ := h
    have hu := hu_of hr
    refine ⟨_, (pss_cons (ps_set (i := 4) sc_value_of.nd rfl (by first | exact Or.inl rfl | exact Or.inr rfl) (pe_ix ix_tup (pv 0) pe_int (fun _ _ => rfl)))
(pss_cons (ps_if (pt_cmpR op_eq (pv 4) pe_str (nomark _))
  (pss_one (ps_ret (pe_ix ix_tup (pv 0) pe_int (fun _ _ => rfl))))
  pss_nil)
(pss_cons (ps_if (pt_cmpR op_eq (pv 4) pe_str (nomark _))
  (pss_one (ps_ret (pe_dget hu (pv 1) (pe_ix ix_tup (pv 0) pe_int (fun _ _ => rfl)) (fun _ _ => rfl))))
  pss_nil)
(pss_cons (ps_if (pt_cmpR op_eq (pv 4) pe_str (nomark _))
  (pss_one (ps_ret (pe_callB (call_min2 rfl) (by rfl) T.n_min bo_min (pa_cons (pe_callB call_len_seq (by rfl) T.n_len bo_len (pa_cons (pv 3) pa_nil)) (pa_cons (pe_gc rfl T.v_GREATEST) pa_nil)))))
  pss_nil)
(pss_cons (ps_if (pt_cmpR op_eq (pv 4) pe_str (nomark _))
  (pss_cons (ps_set (i := 5) sc_value_of.nd rfl (by first | exact Or.inl rfl | exact Or.inr rfl) (pe_c c_value_of hr (by first | exact Nat.le_refl _ | decide | omega) rfl (pa_cons (pe_ix ix_tup (pv 0) pe_int (fun _ _ => rfl)) (pa_cons (pv 1) (pa_cons (pv 2) (pa_cons (pv 3) pa_nil))))))
  (pss_one (ps_ret (pe_ifExp (pt_cmpR op_lt (pv 5) (pe_callB call_len_seq (by rfl) T.n_len bo_len (pa_cons (pv 3) pa_nil)) (nomark _)) (pe_ix ix_tup (pv 3) (pv 5) (fun _ _ => rfl)) pe_int))))
  pss_nil)
(pss_cons (ps_if (pt_cmpR op_eq (pv 4) pe_str (nomark _))
  (pss_cons (ps_set (i := 6) sc_value_of.nd rfl (by first | exact Or.inl rfl | exact Or.inr rfl) (pe_ifExp (pt_val (pe_dget hu (pv 2) (pe_ix ix_tup (pv 0) pe_int (fun _ _ => rfl)) (fun _ _ => rfl))) (pe_ix ix_tup (pv 0) pe_int (fun _ _ => rfl)) (pe_ix ix_tup (pv 0) pe_int (fun _ _ => rfl))))
  (pss_one (ps_ret (pe_c c_value_of hr (by first | exact Nat.le_refl _ | decide | omega) rfl (pa_cons (pv 6) (pa_cons (pv 1) (pa_cons (pv 2) (pa_cons (pv 3) pa_nil))))))))
  pss_nil)
(pss_cons (ps_set (i := 7) sc_value_of.nd rfl (by first | exact Or.inl rfl | exact Or.inr rfl) (pe_c c_value_of hr (by first | exact Nat.le_refl _ | decide | omega) rfl (pa_cons (pe_ix ix_tup (pv 0) pe_int (fun _ _ => rfl)) (pa_cons (pv 1) (pa_cons (pv 2) (pa_cons (pv 3) pa_nil))))))
(pss_cons (ps_set (i := 8) sc_value_of.nd rfl (by first | exact Or.inl rfl | exact Or.inr rfl) (pe_c c_value_of hr (by first | exact Nat.le_refl _ | decide | omega) rfl (pa_cons (pe_ix ix_tup (pv 0) pe_int (fun _ _ => rfl)) (pa_cons (pv 1) (pa_cons (pv 2) (pa_cons (pv 3) pa_nil))))))
(pss_one (ps_ret (pe_c c_combine hr (by first | exact Nat.le_refl _ | decide | omega) rfl (pa_cons (pv 4) (pa_cons (pv 7) (pa_cons (pv 8) pa_nil)))))))))))))), ?_⟩
    cases he with
    | num h =>
      refine ⟨_, rfl, _, _, _, _, rfl, rfl, h.sq, rfl, _, rfl, rfl, _, rfl, iteDT rfl ?_⟩
      exact ⟨_, rfl, _, _, _, _, rfl, rfl, h.sq, rfl, k⟩
    | var h =>
      refine ⟨_, rfl, _, _, _, _, rfl, rfl, h.sq, rfl, _, rfl, rfl, _, rfl, iteDF (nes (by decide +kernel)) ?_⟩
      refine ⟨_, rfl, rfl, _, rfl, iteDT rfl ?_⟩
      exact ⟨_, rfl, _, rfl, _, _, _, _, rfl, rfl, h.sq, rfl, _, _, rfl, V.t.get hok, k⟩
    | long h =>
      refine ⟨_, rfl, _, _, _, _, rfl, rfl, h.sq, rfl, _, rfl, rfl, _, rfl, iteDF (nes (by decide +kernel)) ?_⟩
      refine ⟨_, rfl, rfl, _, rfl, iteDF (nes (by decide +kernel)) ?_⟩
      refine ⟨_, rfl, rfl, _, rfl, iteDT rfl ?_⟩
      refine ⟨_, rfl, _, _, rfl, .inr V.s, _, _, rfl, ?_⟩
      rw [List.length_map]; exact k
    | view h h1 =>
      refine ⟨_, rfl, _, _, _, _, rfl, rfl, h.sq, rfl, _, rfl, rfl, _, rfl, iteDF (nes (by decide +kernel)) ?_⟩
      refine ⟨_, rfl, rfl, _, rfl, iteDF (nes (by decide +kernel)) ?_⟩
      refine ⟨_, rfl, rfl, _, rfl, iteDF (nes (by decide +kernel)) ?_⟩
      refine ⟨_, rfl, rfl, _, rfl, iteDT rfl ?_⟩
      have hr2 := ev_range (on := on) V.tok V.sok h1 hok
      refine ⟨_, rfl, _, _, _, _, rfl, rfl, h.sq, rfl, _, rfl, _, rfl, _, rfl, _, td, od, sa, _, ns, ps, tb, on, seen, rfl, h1, hok, (by unfold Ex.dep at hd; omega), V, ?_⟩
      refine ⟨_, rfl, _, rfl, _, _, rfl, .inr V.s, _, _, rfl, rfl, _, rfl, iteD (fun q => ?_) (fun q => ?_)⟩
      · rw [List.length_map] at q
        refine ⟨_, rfl, _, rfl, _, _, _, _, rfl, rfl, V.s, seen_at hr2.1 q, ?_⟩
        unfold val at k
        rw [if_pos q] at k
        exact k
      · rw [List.length_map] at q
        unfold val at k
        rw [if_neg q] at k
        exact k
    | pick h h1 h2 =>
      refine ⟨_, rfl, _, _, _, _, rfl, rfl, h.sq, rfl, _, rfl, rfl, _, rfl, iteDF (nes (by decide +kernel)) ?_⟩
      refine ⟨_, rfl, rfl, _, rfl, iteDF (nes (by decide +kernel)) ?_⟩
      refine ⟨_, rfl, rfl, _, rfl, iteDF (nes (by decide +kernel)) ?_⟩
      refine ⟨_, rfl, rfl, _, rfl, iteDF (nes (by decide +kernel)) ?_⟩
      refine ⟨_, rfl, rfl, _, rfl, iteDT rfl ?_⟩
      unfold val at k
      unfold Ex.dep at hd
      refine ⟨_, rfl, _, rfl, _, _, _, _, rfl, rfl, h.sq, rfl, _, _, rfl, V.o.get hok.1, _, rfl, iteB (fun q => ?_) (fun q => ?_)⟩
      · rw [if_pos q] at k
        refine ⟨_, rfl, _, _, _, _, rfl, rfl, h.sq, rfl, ?_⟩
        exact ⟨_, rfl, _, rfl, _, rfl, _, rfl, _, td, od, sa, _, ns, ps, tb, on, seen, rfl, h1, hok.2.1, (by omega), V, k⟩
      · rw [if_neg (by simp [q])] at k
        refine ⟨_, rfl, _, _, _, _, rfl, rfl, h.sq, rfl, ?_⟩
        exact ⟨_, rfl, _, rfl, _, rfl, _, rfl, _, td, od, sa, _, ns, ps, tb, on, seen, rfl, h2, hok.2.2, (by omega), V, k⟩
    | op h h1 h2 =>
      obtain ⟨n1, n2, n3, n4, n5⟩ := sg_not _ hok.1
      refine ⟨_, rfl, _, _, _, _, rfl, rfl, h.sq, rfl, _, rfl, rfl, _, rfl, iteDF (nes n1) ?_⟩
      refine ⟨_, rfl, rfl, _, rfl, iteDF (nes n2) ?_⟩
      refine ⟨_, rfl, rfl, _, rfl, iteDF (nes n3) ?_⟩
      refine ⟨_, rfl, rfl, _, rfl, iteDF (nes n4) ?_⟩
      refine ⟨_, rfl, rfl, _, rfl, iteDF (nes n5) ?_⟩
      unfold val at k
      unfold Ex.dep at hd
      have ha := val_range (on := on) V.tok V.sok _ hok.2.1
      have hb := val_range (on := on) V.tok V.sok _ hok.2.2
      refine ⟨_, rfl, _, _, _, _, rfl, rfl, h.sq, rfl, _, rfl, _, rfl, _, rfl, _, td, od, sa, _, ns, ps, tb, on, seen, rfl, h1, hok.2.1, (by omega), V, ?_⟩
      refine ⟨_, rfl, _, _, _, _, rfl, rfl, h.sq, rfl, _, rfl, _, rfl, _, rfl, _, td, od, sa, _, ns, ps, tb, on, seen, rfl, h2, hok.2.2, (by omega), V, ?_⟩
      exact ⟨_, rfl, _, rfl, _, rfl, _, _, _, rfl, hok.1, ha.1, ha.2, hb.1, hb.2, k⟩
end

theorem DcB.keep {H H' : Hp} {a : Addr} {ps : List Str} {on : Str → Bool} (h : DcB H a ps on) (k : Keep [] H H') : DcB H' a ps on := by
  obtain ⟨kvs, e, q⟩ := h
  exact ⟨kvs, k _ _ e (by simp), q⟩

/-! tapes -/
inductive PL (H : Hp) : List V → List (Int × Int) → Prop
  | nil : PL H [] []
  | cons {t : Addr} {r c : Int} {vs : List V} {l : List (Int × Int)} : H t = some (.tup [.int r, .int c]) → PL H vs l → PL H (.ref t :: vs) ((r, c) :: l)
theorem PL.tk {H H' : Hp} (k : TK H H') {vs : List V} {l : List (Int × Int)} (h : PL H vs l) : PL H' vs l := by
  induction h with
  | nil => exact .nil
  | cons h _ ih => exact .cons (k _ _ h) ih
theorem PL.snoc {H : Hp} {vs : List V} {l : List (Int × Int)} {t : Addr} {r c : Int} (h : PL H vs l) (ht : H t = some (.tup [.int r, .int c])) : PL H (vs ++ [.ref t]) (l ++ [(r, c)]) := by
  induction h with
  | nil => exact .cons ht .nil
  | cons h _ ih => exact .cons h ih
theorem PL.len {H : Hp} {vs : List V} {l : List (Int × Int)} (h : PL H vs l) : vs.length = l.length := by
  induction h with
  | nil => rfl
  | cons _ _ ih => rw [List.length_cons, List.length_cons, ih]
theorem PL.get {H : Hp} {vs : List V} {l : List (Int × Int)} (h : PL H vs l) : ∀ {i : Nat} {v : V}, vs[i]? = some v → ∃ t r c, v = .ref t ∧ l[i]? = some (r, c) ∧ H t = some (.tup [.int r, .int c]) := by
  induction h with
  | nil => intro i v h; simp at h
  | cons h _ ih =>
    intro i v hv
    cases i with
    | zero => simp at hv; subst hv; exact ⟨_, _, _, rfl, rfl, h⟩
    | succ i => simpa using ih (by simpa using hv)
structure TapeAt (C : Addr) (H : Hp) (x rx tx : Addr) (rs : List Int) (tk : List (Int × Int)) : Prop where
  o : ∃ dx, H x = some (.ins C dx [("results", .ref rx), ("taken", .ref tx)])
  r : H rx = some (.lst (rs.map V.int))
  t : ∃ xs, H tx = some (.lst xs) ∧ PL H xs tk
  ne : rx ≠ tx
theorem TapeAt.keep {C : Addr} {H H' : Hp} {x rx tx : Addr} {rs : List Int} {tk : List (Int × Int)} {W : List Addr} (h : TapeAt C H x rx tx rs tk) (k : Keep W H H') (kt : TK H H') (w1 : x ∉ W) (w2 : rx ∉ W) (w3 : tx ∉ W) : TapeAt C H' x rx tx rs tk := by
  obtain ⟨dx, o⟩ := h.o
  obtain ⟨xs, t1, t2⟩ := h.t
  exact ⟨⟨dx, k _ _ o w1⟩, k _ _ h.r w2, ⟨xs, k _ _ t1 w3, t2.tk kt⟩, h.ne⟩
def nextR (rs : List Int) (tk : List (Int × Int)) (c : Int) : Int := if tk.length < rs.length then (rs.getD tk.length 0) % c else 0
def sp_tape (K : PySem.W.Frag) (C : Addr) : Sp := fun vs H Q _ => ∃ (x dx src : Addr) (rs : List Int), vs = [.ref x, .ref src] ∧ SqL K H src (rs.map V.int) ∧ H x = some (.ins C dx []) ∧ ∀ rx tx H', H rx = none → H tx = none → Keep [x] H H' → TapeAt C H' x rx tx rs [] → Q .non H'
def sp_take (C : Addr) : Sp := fun vs H Q _ => ∃ (x rx tx : Addr) (rs : List Int) (tk : List (Int × Int)) (c : Int), vs = [.ref x, .int c] ∧ 0 < c ∧ c < 1073741824 ∧ tk.length ≤ 900000 ∧ TapeAt C H x rx tx rs tk ∧
  ∀ H', Keep [tx] H H' → TapeAt C H' x rx tx rs (tk ++ [(nextR rs tk c, c)]) → Q (.int (nextR rs tk c)) H'
section
variable {P : Program} {w : World} {K : PySem.W.Frag} {mg : Str → Option Value} {base : Heap} {C_Tape : Addr} {C_Thinker : Addr} {C_Brain : Addr} {C_Mind : Addr} {C_Frame : Addr} {C_Thinking : Addr} {C_Checker : Addr} {C_GameError : Addr} {C_BadCode : Addr} {f_BadCode___init : Addr} {T_EVENTS : Addr} {T_SIGNS : Addr} {T_ROUND_NAMES : Addr} {T_BRAIN_NAMES : Addr} {T_EFFECTS : Addr}
theorem ok_tape_init {f : Addr} {fd : FuncData} (M : Mk K C_Tape f) (F : C8.Fun K "__init__" "Tape.__init__" s_Tape___init f fd) (b : Binds K fd ["self", "results"] []) (T : Txt K mg C_Tape C_Thinker C_Brain C_Mind C_Frame C_Thinking C_Checker C_GameError C_BadCode T_EVENTS T_SIGNS T_ROUND_NAMES T_BRAIN_NAMES T_EFFECTS) :
    C8.Mak P w K mg base 1 "Tape" C_Tape (sp_tape K C_Tape) [] := by
  refine mak0 M T.m_Tape F b .nil sc_Tape___init (fun vs H Q E h => ?_) (fun cdv A outer s H vs Q E hr h => ?_)
  · obtain ⟨x, dx, src, rs, rfl, _⟩ := h
    rfl
  · obtain ⟨x, dx, src, rs, rfl, hS, hx, k⟩ := h
    refine ⟨_, (pss_cons (ps_fld (pv 0) (pe_callTy call_list_of (by rfl) T.n_list bo_list (pa_cons (pv 1) pa_nil)) rfl)
(pss_one (ps_fld (pv 0) (pe_lst pa_nil) rfl))), ?_⟩
    refine ⟨_, rfl, _, _, rfl, .inl hS, fun rx nrx => ?_⟩
    have exr : x ≠ rx := ne_of_none hx nrx
    refine ⟨_, rfl, x, C_Tape, dx, [], rfl, by rw [upd_ne exr]; exact hx, T.cl_Tape, T.a_Tape_results, by show 0 < 1000; decide, ?_⟩
    refine ⟨by show 0 ≤ sizeLine; decide, fun tx ntx => ?_⟩
    have ext : x ≠ tx := ne_of_none (H := upd (upd H rx (.lst (rs.map V.int))) x _) upd_same ntx
    have ert : rx ≠ tx := ne_of_none (H := upd (upd H rx (.lst (rs.map V.int))) x _) (by rw [upd_ne exr.symm]; exact upd_same) ntx
    refine ⟨_, rfl, x, C_Tape, dx, _, rfl, by rw [upd_ne ext]; exact upd_same, T.cl_Tape, T.a_Tape_taken, by show 1 < 1000; decide, ?_⟩
    have ntx' : H tx = none := by
      rw [upd_ne ext.symm, upd_ne ert.symm] at ntx
      exact ntx
    refine k rx tx _ nrx ntx' ?_ ⟨⟨dx, upd_same⟩, ?_, ⟨[], ?_, .nil⟩, ert⟩
    · exact (((Keep.new nrx).then_at (List.mem_singleton.mpr rfl)).then_own ntx').then_at (List.mem_singleton.mpr rfl)
    · rw [upd_ne exr.symm, upd_ne ert, upd_ne exr.symm]; exact upd_same
    · rw [upd_ne ext.symm]; exact upd_same
theorem ok_tape_take {f : Addr} {fd : FuncData} (me : Meth K C_Tape "take" f) (F : C8.Fun K "take" "Tape.take" s_Tape_take f fd) (b : Binds K fd ["self", "count"] []) (T : Txt K mg C_Tape C_Thinker C_Brain C_Mind C_Frame C_Thinking C_Checker C_GameError C_BadCode T_EVENTS T_SIGNS T_ROUND_NAMES T_BRAIN_NAMES T_EFFECTS) : C8.Met P w K mg base 1 C_Tape "take" (sp_take C_Tape) [] := by
  refine met0 T.cl_Tape me F b sc_Tape_take (fun vs H Q E h => ?_) (fun cdv A outer s H vs Q E hr h => ?_)
  · obtain ⟨x, rx, tx, rs, tk, c, rfl, _⟩ := h
    rfl
  · obtain ⟨x, rx, tx, rs, tk, c, rfl, c0, c1, hl, ⟨⟨dx, ho⟩, hr1, ⟨xs, ht, pl⟩, hne⟩, k⟩ := h
    refine ⟨_, (pss_cons (ps_set (i := 2) sc_Tape_take.nd rfl (by first | exact Or.inl rfl | exact Or.inr rfl) pe_int)
(pss_cut (ps_if (pt_cmpR op_lt (pe_callB call_len_seq (by rfl) T.n_len bo_len (pa_cons (pe_fld (pv 0) rfl) pa_nil)) (pe_callB call_len_seq (by rfl) T.n_len bo_len (pa_cons (pe_fld (pv 0) rfl) pa_nil)) (nomark _))
  (pss_one (ps_set (i := 2) sc_Tape_take.nd rfl (by first | exact Or.inl rfl | exact Or.inr rfl) (pe_op op_mod (pe_ix ix_list (pe_fld (pv 0) rfl) (pe_callB call_len_seq (by rfl) T.n_len bo_len (pa_cons (pe_fld (pv 0) rfl) pa_nil)) (fun _ _ => rfl)) (pv 1))))
  pss_nil)
(pss_cons (ps_expr (pe_bm PySem.F.plainAttrs_list PySem.F.slot_list_append PySem.F.type_list_append mt_append (pe_fld (pv 0) rfl) (pa_cons (pe_tup (pa_cons (pv 2) (pa_cons (pv 1) pa_nil))) pa_nil)))
(pss_one (ps_ret (pv 2)))))), ?_⟩
    refine ⟨fun σ H' => H' = H ∧ σ = [some (.ref x), some (.int c), some (.int (nextR rs tk c))], ?_, ?_⟩
    · have hlen := pl.len
      refine ⟨_, rfl, x, C_Tape, dx, _, _, rfl, ho, T.cl_Tape, T.a_Tape_taken, rfl, _, _, rfl, .inl (SqL.of ht), _, rfl, x, C_Tape, dx, _, _, rfl, ho, T.cl_Tape, T.a_Tape_results, rfl, _, _, rfl, .inl (SqL.of hr1), _, _, rfl, rfl, _, rfl, iteD (fun h => ?_) (fun h => ⟨rfl, ?_⟩)⟩
      · rw [List.length_map, hlen] at h
        have h' : tk.length < rs.length := by omega
        have hget : (rs.map V.int)[xs.length]? = some (.int (rs.getD tk.length 0)) := by
          rw [hlen, List.getElem?_map, List.getD_eq_getElem?_getD, List.getElem?_eq_getElem h']; rfl
        refine ⟨_, rfl, x, C_Tape, dx, _, _, rfl, ho, T.cl_Tape, T.a_Tape_results, rfl, _, rfl, x, C_Tape, dx, _, _, rfl, ho, T.cl_Tape, T.a_Tape_taken, rfl, _, _, rfl, .inl (SqL.of ht), _, _, _, _, rfl, rfl, SqL.of hr1, atI_nat hget, _, rfl, _, _, rfl, rfl, c0, rfl, ?_⟩
        unfold nextR
        rw [if_pos h']; rfl
      · rw [List.length_map, hlen] at h
        unfold nextR
        rw [if_neg (by omega)]; rfl
    rintro σ H' ⟨rfl, rfl⟩
    refine ⟨_, rfl, x, C_Tape, dx, _, _, rfl, ho, T.cl_Tape, T.a_Tape_taken, rfl, .inl ⟨rfl, _, SqL.of ht⟩, _, rfl, _, rfl, by show 2 ≤ sizeLine; decide, fun u nu => ?_⟩
    have ku : Keep [] H' (upd H' u (.tup [.int (nextR rs tk c), .int c])) := Keep.new nu
    have ht' := ku _ _ ht (by simp)
    have eut : u ≠ tx := (ne_of_none ht nu).symm
    have ext : x ≠ tx := ne_of ho ht (by intro z; cases z)
    refine ⟨_, _, _, rfl, rfl, ht', by rw [pl.len]; exact smallL (by omega), ?_⟩
    have kk : Keep [tx] H' (upd (upd H' u (.tup [.int (nextR rs tk c), .int c])) tx (.lst (xs ++ [.ref u]))) := (ku.mono (by simp)).then_at (List.mem_singleton.mpr rfl)
    have kt : TK H' (upd (upd H' u (.tup [.int (nextR rs tk c), .int c])) tx (.lst (xs ++ [.ref u]))) := (TK.new nu).trans (TK.lst ht')
    exact ⟨_, rfl, k _ kk ⟨⟨dx, kk _ _ ho (by simpa using ext)⟩, kk _ _ hr1 (by simpa using hne), ⟨_, upd_same, (pl.tk kt).snoc (by rw [upd_ne eut]; exact upd_same)⟩, hne⟩⟩
end

/-! tuples whose object is known: their methods -/
def TupD (H : Hp) (a : Addr) (xs : List V) : Prop := ∃ o : Obj, H a = some (.frz o (.tup xs)) ∧ o.cls = .type "tuple" ∧ o.dict = none
theorem TupD.sq {K : PySem.W.Frag} {H : Hp} {a : Addr} {xs : List V} (h : TupD H a xs) : SqT K H a xs := by
  obtain ⟨o, e, _⟩ := h
  exact .inl (.inr ⟨o, e⟩)
theorem TupD.keep {H H' : Hp} {W : List Addr} {a : Addr} {xs : List V} (h : TupD H a xs) (k : Keep W H H') (w : a ∉ W) : TupD H' a xs := by
  obtain ⟨o, e, c, d⟩ := h
  exact ⟨o, k _ _ e w, c, d⟩
section
open PySem.Spec PyProof.Rows
variable {X : Cx} {T id : String} {r : V → List V → Hp → VK → Prop} {o e : Expr} {es : List Expr} {to : TE} {t : TA} {name : Str} {apos cpos pos : Pos}
theorem tupD_is {pins : List (Addr × Obj)} {σ : L2.St} {H : Hp} {s : Shared} {a : Addr} {xs : List V} (I : Inv X pins σ H s) (h : TupD H a xs) :
    s.TypeIs (.ref a) "tuple" ∧ ∀ b, Value.ref a = .ref b → ∃ ob, s.heap.get? b = some ob ∧ ob.dict = none := by
  obtain ⟨o, e, c, d⟩ := h
  obtain ⟨g, _⟩ := I.hok _ _ e
  exact ⟨⟨o, g, c⟩, fun b q => by cases q; exact ⟨o, g, d⟩⟩
theorem pe_bmZ (pa : PlainAttrs "tuple") (slot : Slot "tuple" name id) (hty : typeOf (.builtin id) = pure (.type "method_descriptor")) (hm : MtR X id r) (ho : PE X o to) (ha : PA X (e :: es) t)
    (hbase : attributeBase o name X.env (eval o X.env) = eval o X.env := by rfl)
    (hfew : ((backTo cpos (starEach (e :: es) X.env)).all (fun x => !x.1) && (backToKw cpos (keywordEach [] X.env)).all (fun x => x.1.isSome)
      && decide ((e :: es).length + ([] : List Keyword).length + (if ([] : List Keyword).isEmpty then 0 else 1) < 30)) = true := by rfl)
    (hline : (apos.endLine == cpos.line) = true := by rfl) (hs : starEach (e :: es) X.env = (false, eval e X.env) :: starEach es X.env := by rfl) (hplain : (backTo cpos (starEach es X.env)).any (·.1) = false := by rfl) :
    PE X (.Call (.Attribute o name apos) (e :: es) [] cpos) (fun σ H Q => to σ H fun x H1 => ∃ a xs, x = .ref a ∧ TupD H1 a xs ∧ t σ H1 fun ys H2 => r x ys H2 Q) := by
  refine ⟨fun pins s σ H Q I h => ?_⟩
  refine wpAny_Call_method_late hbase hfew hline rfl (thn (ho.run pins s σ H _ I h) fun v s1 ⟨x, H1, I1, r1, a, xs, hx, ty, q1⟩ => ?_)
  subst hx
  obtain rfl : v = Value.ref a := r1
  obtain ⟨h1, h2⟩ := tupD_is I1 ty
  refine ⟨"tuple", id, pa, slot, hty, h1, h2, ?_⟩
  have hA := ha.run cpos pins s1 σ H1 _ I1 q1
  rw [hs] at hA ⊢
  refine Calls.callWith_builtin (by show (false || (backTo cpos (starEach es X.env)).any (·.1)) = false; rw [hplain] <;> rfl) (Calls.evalArgs_plain ?_)
  exact thn hA fun us s2 ⟨vs, H2, I2, r2, q2⟩ => hm pins s2 σ H2 (.ref a) vs (.ref a) us Q I2 rfl r2 q2
theorem pe_tupZ {x1} (h : PA X es t) : PE X (.Tuple es x1 pos) (fun σ H Q => t σ H fun xs H1 => xs.length ≤ sizeLine ∧ ∀ p o, H1 p = none → o.cls = .type "tuple" → o.dict = none → Q (.ref p) (upd H1 p (.frz o (.tup xs)))) := by
  refine ⟨fun pins s σ H Q I hq => ?_⟩
  refine wpAny_Tuple_spliced (thn (h.run pos pins s σ H _ I hq) fun us s1 ⟨xs, H1, I1, r, z, q⟩ => ⟨by rw [← r.length]; exact z, ?_⟩)
  have hf : H1 s1.heap.objs.size = none := I1.hok.fresh (Nat.le_refl _)
  refine ⟨.ref s1.heap.objs.size, upd H1 s1.heap.objs.size (.frz { cls := .type "tuple", data := .seq us.toArray } (.tup xs)), I1.laid (t' := s1.toks) (fun b u e => Heap.get?_push_of_some _ e) (Nat.le_refl _) ?_, rfl, q _ _ hf rfl rfl⟩
  exact ⟨Heap.get?_push_size _ rfl, z, us, r, ⟨_, Heap.get?_push_size _ rfl, rfl, _, rfl⟩⟩
theorem call_tuple_ofZ : CallR X (.type "tuple") (fun xs H Q => ∃ p ys, xs = [.ref p] ∧ SqL X.K H p ys ∧ ∀ l o, H l = none → o.cls = .type "tuple" → o.dict = none → Q (.ref l) (upd H l (.frz o (.tup ys)))) := by
  intro pins s σ H xs us Q I r h
  obtain ⟨p, ys, rfl, hq, q⟩ := h
  obtain ⟨u, rfl, rx⟩ := vals1 r
  cases rx
  obtain ⟨its, r', pl, hz⟩ := I.list hq
  have hlen := r'.length
  refine call_tuple_list pl.isList (fun h' kp => ?_) (by simp only [List.size_toArray] <;> omega)
  have I1 : Inv X pins σ H { s with heap := h' } := I.kept (t' := s.toks) kp
  have I2 : Inv X pins σ (upd H h'.objs.size (.frz { cls := .type "tuple", data := .seq its.toArray } (.tup ys))) { s with heap := h'.push { cls := .type "tuple", data := .seq its.toArray } } :=
    I1.laid (t' := s.toks) (fun b o e => Heap.get?_push_of_some _ e) (Nat.le_refl _) (show ObjOk X.prog X.w _ _ _ (.frz _ (.tup ys)) from ⟨Heap.get?_push_size _ rfl, hz, its, r', IsTup.new _ _⟩)
  exact ⟨.ref h'.objs.size, _, I2, rfl, q _ _ (I1.hok.fresh (Nat.le_refl _)) rfl rfl⟩
end

theorem DcI.keep {H H' : Hp} {a : Addr} {ns : List Str} {tb : Str → Int} {W : List Addr} (h : DcI H a ns tb) (k : Keep W H H') (w : a ∉ W) : DcI H' a ns tb := by
  obtain ⟨kvs, e, q⟩ := h
  exact ⟨kvs, k _ _ e w, q⟩

/-! statements of a brain -/
mutual
inductive Th where
  | set (x : Str) (e : Ex)
  | lot (x : Str) (e : Ex)
  | iff (t : Ex) (a b : Bl)
  | whl (t : Ex) (b : Bl)
inductive Bl where
  | nil
  | cons (t : Th) (b : Bl)
end
def ExOk (ns : List Str) (e : Ex) : Prop := e.Ok ns [] ∧ e.dep ≤ 12
mutual
def Th.Ok (ns : List Str) : Th → Prop
  | .set x e => x ∈ ns ∧ ExOk ns e
  | .lot x e => x ∈ ns ∧ ExOk ns e
  | .iff t a b => ExOk ns t ∧ a.Ok ns ∧ b.Ok ns
  | .whl t b => ExOk ns t ∧ b.Ok ns
def Bl.Ok (ns : List Str) : Bl → Prop
  | .nil => True
  | .cons t b => t.Ok ns ∧ b.Ok ns
end
mutual
def Th.dep : Th → Nat
  | .set _ _ => 0
  | .lot _ _ => 0
  | .iff _ a b => max a.dep b.dep + 1
  | .whl _ b => b.dep + 1
def Bl.dep : Bl → Nat
  | .nil => 0
  | .cons t b => max t.dep b.dep
end
def Bl.len : Bl → Nat
  | .nil => 0
  | .cons _ b => b.len + 1
mutual
def Th.Sm : Th → Prop
  | .set _ _ => True
  | .lot _ _ => True
  | .iff _ a b => (a.len ≤ 5 ∧ a.Sm) ∧ b.len ≤ 5 ∧ b.Sm
  | .whl _ b => b.len ≤ 5 ∧ b.Sm
def Bl.Sm : Bl → Prop
  | .nil => True
  | .cons t b => t.Sm ∧ b.Sm
end
def Bl.app : Bl → Bl → Bl
  | .nil, c => c
  | .cons t b, c => .cons t (b.app c)
theorem Bl.app_ok {ns : List Str} : ∀ {b c : Bl}, b.Ok ns → c.Ok ns → (b.app c).Ok ns
  | .nil, _, _, h => h
  | .cons _ b, _, h, g => ⟨h.1, Bl.app_ok h.2 g⟩
theorem Bl.app_sm : ∀ {b c : Bl}, b.Sm → c.Sm → (b.app c).Sm
  | .nil, _, _, h => h
  | .cons _ b, _, h, g => ⟨h.1, Bl.app_sm h.2 g⟩
theorem Bl.app_dep : ∀ (b c : Bl), (b.app c).dep = max b.dep c.dep
  | .nil, c => by show c.dep = max 0 c.dep; omega
  | .cons t b, c => by show max t.dep (b.app c).dep = max (max t.dep b.dep) c.dep; rw [Bl.app_dep b c]; omega
theorem Bl.app_len : ∀ (b c : Bl), (b.app c).len = b.len + c.len
  | .nil, c => by show c.len = 0 + c.len; omega
  | .cons t b, c => by show (b.app c).len + 1 = b.len + 1 + c.len; rw [Bl.app_len b c]; omega
mutual
def TV (K : PySem.W.Frag) (H : Hp) : Th → V → Prop
  | .set x e, v => ∃ a u, v = .ref a ∧ At K H a [.str "set", .str x, u] ∧ EV K H u e
  | .lot x e, v => ∃ a u, v = .ref a ∧ At K H a [.str "lot", .str x, u] ∧ EV K H u e
  | .iff t a b, v => ∃ p u q r xs ys, v = .ref p ∧ At K H p [.str "if", u, .ref q, .ref r] ∧ EV K H u t ∧ At K H q xs ∧ TVs K H a xs ∧ At K H r ys ∧ TVs K H b ys
  | .whl t b, v => ∃ p u q xs, v = .ref p ∧ At K H p [.str "while", u, .ref q] ∧ EV K H u t ∧ At K H q xs ∧ TVs K H b xs
def TVs (K : PySem.W.Frag) (H : Hp) : Bl → List V → Prop
  | .nil, xs => xs = []
  | .cons t b, xs => ∃ v r, xs = v :: r ∧ TV K H t v ∧ TVs K H b r
end
def BV (K : PySem.W.Frag) (H : Hp) (b : Bl) (q : Addr) : Prop := ∃ xs, At K H q xs ∧ TVs K H b xs
mutual
theorem TV.tk {K : PySem.W.Frag} {H H' : Hp} (k : TK H H') : ∀ (t : Th) {v : V}, TV K H t v → TV K H' t v
  | .set _ _, _, ⟨a, u, e, h1, h2⟩ => ⟨a, u, e, h1.tk k, h2.tk k⟩
  | .lot _ _, _, ⟨a, u, e, h1, h2⟩ => ⟨a, u, e, h1.tk k, h2.tk k⟩
  | .iff _ a b, _, ⟨p, u, q, r, xs, ys, e, h1, h2, h3, h4, h5, h6⟩ => ⟨p, u, q, r, xs, ys, e, h1.tk k, h2.tk k, h3.tk k, TVs.tk k a h4, h5.tk k, TVs.tk k b h6⟩
  | .whl _ b, _, ⟨p, u, q, xs, e, h1, h2, h3, h4⟩ => ⟨p, u, q, xs, e, h1.tk k, h2.tk k, h3.tk k, TVs.tk k b h4⟩
theorem TVs.tk {K : PySem.W.Frag} {H H' : Hp} (k : TK H H') : ∀ (b : Bl) {xs : List V}, TVs K H b xs → TVs K H' b xs
  | .nil, _, h => h
  | .cons t b, _, ⟨v, r, e, h1, h2⟩ => ⟨v, r, e, TV.tk k t h1, TVs.tk k b h2⟩
end
theorem BV.tk {K : PySem.W.Frag} {H H' : Hp} (k : TK H H') {b : Bl} {q : Addr} (h : BV K H b q) : BV K H' b q := by
  obtain ⟨xs, h1, h2⟩ := h
  exact ⟨xs, h1.tk k, TVs.tk k b h2⟩
theorem TVs.app {K : PySem.W.Frag} {H : Hp} : ∀ {b c : Bl} {xs ys : List V}, TVs K H b xs → TVs K H c ys → TVs K H (b.app c) (xs ++ ys)
  | .nil, _, _, _, h, g => by cases h; exact g
  | .cons _ b, _, _, _, ⟨v, r, e, h1, h2⟩, g => by
    subst e
    exact ⟨v, r ++ _, rfl, h1, TVs.app h2 g⟩
theorem TVs.len {K : PySem.W.Frag} {H : Hp} : ∀ {b : Bl} {xs : List V}, TVs K H b xs → xs.length = b.len
  | .nil, _, h => by cases h; rfl
  | .cons _ b, _, ⟨v, r, e, h1, h2⟩ => by
    subst e
    show r.length + 1 = b.len + 1
    rw [TVs.len h2]
/-! what they do -/
structure MS where
  left : Int
  tb : Str → Int
  tk : List (Int × Int)
def MS.put (s : MS) (x : Str) (v : Int) : MS := { s with tb := fun y => if y = x then v else s.tb y }
def offs : Str → Bool := fun _ => false
def MS.ev (seen : List Int) (s : MS) (e : Ex) : Int := val s.tb offs seen e
def loopM (test : MS → Bool) (f : MS → Bool × MS) : Nat → MS → Bool × MS
  | 0, s => (false, s)
  | n + 1, s => if test s = false then (true, s) else if (f s).1 = false then (false, (f s).2) else if (f s).2.left = 0 then (false, (f s).2) else loopM test f n { (f s).2 with left := (f s).2.left - 1 }
def lotS (seen rs : List Int) (s : MS) (x : Str) (e : Ex) : MS :=
  if s.ev seen e > 0 then MS.put { s with tk := s.tk ++ [(nextR rs s.tk (s.ev seen e), s.ev seen e)] } x (nextR rs s.tk (s.ev seen e)) else s.put x (s.ev seen e)
mutual
def runT (seen rs : List Int) : Th → MS → Bool × MS
  | .set x e, s => (true, s.put x (s.ev seen e))
  | .lot x e, s => (true, lotS seen rs s x e)
  | .iff t a b, s => if s.ev seen t ≠ 0 then runB seen rs a s else runB seen rs b s
  | .whl t b, s => loopM (fun s => decide (s.ev seen t ≠ 0)) (fun s => runB seen rs b s) (s.left.toNat + 1) s
def runB (seen rs : List Int) : Bl → MS → Bool × MS
  | .nil, s => (true, s)
  | .cons t b, s => if s.left = 0 then (false, s) else if (runT seen rs t { s with left := s.left - 1 }).1 = false then runT seen rs t { s with left := s.left - 1 } else runB seen rs b (runT seen rs t { s with left := s.left - 1 }).2
end
/-- a state that stays in its bounds -/
structure MOk (ns : List Str) (s : MS) : Prop where
  l : 0 ≤ s.left
  t : TbOk ns s.tb
/-- what a run may do to it -/
structure Mv (ns : List Str) (g : Nat) (s r : MS) : Prop where
  ok : MOk ns r
  l : r.left ≤ s.left
  k : r.left.toNat + r.tk.length ≤ s.left.toNat + s.tk.length + g
theorem Mv.refl {ns : List Str} {s : MS} (h : MOk ns s) : Mv ns 0 s s := ⟨h, Int.le_refl _, Nat.le_refl _⟩
theorem Mv.trans {ns : List Str} {g h : Nat} {s r q : MS} (a : Mv ns g s r) (b : Mv ns h r q) : Mv ns (g + h) s q := ⟨b.ok, Int.le_trans b.l a.l, by have := a.k; have := b.k; omega⟩
theorem Mv.mono {ns : List Str} {g h : Nat} {s r : MS} (a : Mv ns g s r) (e : g ≤ h) : Mv ns h s r := ⟨a.ok, a.l, by have := a.k; omega⟩
theorem MOk.dec {ns : List Str} {s : MS} (h : MOk ns s) (z : ¬ s.left = 0) : MOk ns { s with left := s.left - 1 } := ⟨by have := h.l; show 0 ≤ s.left - 1; omega, h.t⟩
theorem MOk.put {ns : List Str} {s : MS} (h : MOk ns s) {x : Str} {v : Int} (v0 : 0 ≤ v) (v1 : v < 65536) : MOk ns (s.put x v) := ⟨h.l, fun y hy => by
  show 0 ≤ (if y = x then v else s.tb y) ∧ (if y = x then v else s.tb y) < 65536
  split
  · exact ⟨v0, v1⟩
  · exact h.t y hy⟩
theorem MOk.ev {ns : List Str} {s : MS} {seen : List Int} (h : MOk ns s) (hs : SeenOk seen) {e : Ex} (he : ExOk ns e) : 0 ≤ s.ev seen e ∧ s.ev seen e < 65536 := val_range h.t hs e he.1
theorem nextR_range {rs : List Int} {tk : List (Int × Int)} {c : Int} (h : 0 < c) : 0 ≤ nextR rs tk c ∧ nextR rs tk c < c := by
  unfold nextR
  split
  · exact ⟨Int.emod_nonneg _ (by omega), Int.emod_lt_of_pos _ h⟩
  · exact ⟨Int.le_refl _, h⟩
theorem lotS_mv {ns : List Str} {seen rs : List Int} {s : MS} (h : MOk ns s) (hs : SeenOk seen) {x : Str} {e : Ex} (he : ExOk ns e) : Mv ns 1 s (lotS seen rs s x e) := by
  have hv := h.ev hs he
  unfold lotS
  split
  · rename_i q
    have hn := nextR_range (rs := rs) (tk := s.tk) q
    refine ⟨?_, Int.le_refl _, ?_⟩
    · exact MOk.put (s := { s with tk := s.tk ++ [(nextR rs s.tk (s.ev seen e), s.ev seen e)] }) ⟨h.l, h.t⟩ hn.1 (by omega)
    · show s.left.toNat + (s.tk ++ [_]).length ≤ _
      rw [List.length_append]; simp; omega
  · exact ⟨h.put hv.1 hv.2, Int.le_refl _, Nat.le_succ _⟩
theorem loopM_mv {ns : List Str} {test : MS → Bool} {f : MS → Bool × MS} (hf : ∀ s, MOk ns s → Mv ns 0 s (f s).2) : ∀ (n : Nat) (s : MS), MOk ns s → Mv ns 0 s (loopM test f n s).2
  | 0, s, h => Mv.refl h
  | n + 1, s, h => by
    have h1 := hf s h
    unfold loopM
    split
    · exact Mv.refl h
    · split
      · exact h1
      · split
        · exact h1
        · rename_i z
          have hd : Mv ns 0 (f s).2 { (f s).2 with left := (f s).2.left - 1 } := ⟨h1.ok.dec z, by show (f s).2.left - 1 ≤ _; omega, by show ((f s).2.left - 1).toNat + (f s).2.tk.length ≤ (f s).2.left.toNat + (f s).2.tk.length + 0; omega⟩
          exact (h1.trans hd).trans (loopM_mv hf n _ hd.ok)
mutual
theorem runT_mv {ns : List Str} {seen rs : List Int} (hs : SeenOk seen) : ∀ (t : Th), t.Ok ns → ∀ s, MOk ns s → Mv ns 1 s (runT seen rs t s).2
  | .set x e, ok, s, h => ⟨h.put (h.ev hs ok.2).1 (h.ev hs ok.2).2, Int.le_refl _, Nat.le_succ _⟩
  | .lot x e, ok, s, h => by unfold runT; exact lotS_mv h hs ok.2
  | .iff t a b, ok, s, h => by
    unfold runT
    split
    · exact (runB_mv hs a ok.2.1 s h).mono (by omega)
    · exact (runB_mv hs b ok.2.2 s h).mono (by omega)
  | .whl t b, ok, s, h => by
    unfold runT
    exact (loopM_mv (fun s h => runB_mv hs b ok.2 s h) _ s h).mono (by omega)
theorem runB_mv {ns : List Str} {seen rs : List Int} (hs : SeenOk seen) : ∀ (b : Bl), b.Ok ns → ∀ s, MOk ns s → Mv ns 0 s (runB seen rs b s).2
  | .nil, _, s, h => by unfold runB; exact Mv.refl h
  | .cons t b, ok, s, h => by
    unfold runB
    split
    · exact Mv.refl h
    · rename_i z
      have h1 := h.dec z
      have h2 := runT_mv (rs := rs) hs t ok.1 _ h1
      have h3 : Mv ns 0 s (runT seen rs t { s with left := s.left - 1 }).2 := by
        refine ⟨h2.ok, Int.le_trans h2.l (by show s.left - 1 ≤ s.left; omega), ?_⟩
        have h2k := h2.k
        have h2l := h.l
        change _ ≤ (s.left - 1).toNat + s.tk.length + 1 at h2k
        omega
      split
      · exact h3
      · exact h3.trans (runB_mv hs b ok.2 _ h2.ok)
end
/-! how they are drawn -/
section
variable {P : Program} {w : World} {K : PySem.W.Frag} {mg : Str → Option Value} {base : Heap} {C_Tape : Addr} {C_Thinker : Addr} {C_Brain : Addr} {C_Mind : Addr} {C_Frame : Addr} {C_Thinking : Addr} {C_Checker : Addr} {C_GameError : Addr} {C_BadCode : Addr} {f_BadCode___init : Addr} {T_EVENTS : Addr} {T_SIGNS : Addr} {T_ROUND_NAMES : Addr} {T_BRAIN_NAMES : Addr} {T_EFFECTS : Addr}
end

section
variable {P : Program} {w : World} {K : PySem.W.Frag} {mg : Str → Option Value} {base : Heap} {C_Tape : Addr} {C_Thinker : Addr} {C_Brain : Addr} {C_Mind : Addr} {C_Frame : Addr} {C_Thinking : Addr} {C_Checker : Addr} {C_GameError : Addr} {C_BadCode : Addr} {f_BadCode___init : Addr} {T_EVENTS : Addr} {T_SIGNS : Addr} {T_ROUND_NAMES : Addr} {T_BRAIN_NAMES : Addr} {T_EFFECTS : Addr}
theorem value_all {f : Addr} {fd : FuncData} (D : C8.Def K mg "value_of" s_value_of f fd) {ds : List Value} (d : Vals [] ds) (b : Binds K fd ["expression", "table", "on", "seen"] ds) (T : Txt K mg C_Tape C_Thinker C_Brain C_Mind C_Frame C_Thinking C_Checker C_GameError C_BadCode T_EVENTS T_SIGNS T_ROUND_NAMES T_BRAIN_NAMES T_EFFECTS) (c : C8.Cal P w K mg base 1 "combine" sp_combine []) : ∀ n, C8.Cal P w K mg base (n + 1) "value_of" (sp_value K n) []
  | 0 => ok_value0 D d b
  | n + 1 => ok_value D d b T (value_all D d b T c n) (calUp c (by omega))
end
/-! dicts filled to the end -/
def Full (H : Hp) (d : Addr) (ys : List Str) (f : Str → V) : Prop := ∃ kvs : List (Key × V), H d = some (.dK kvs) ∧ kvs.length = ys.length ∧ ∀ x, valV kvs (.inr x) = if x ∈ ys then some (f x) else none
theorem Full.keep {H H' : Hp} {W : List Addr} {d : Addr} {ys : List Str} {f : Str → V} (h : Full H d ys f) (k : Keep W H H') (w : d ∉ W) : Full H' d ys f := by
  obtain ⟨kvs, e, l, v⟩ := h
  exact ⟨kvs, k _ _ e w, l, v⟩
theorem Full.dcI {H : Hp} {d : Addr} {ys : List Str} {tb : Str → Int} (h : Full H d ys fun x => .int (tb x)) : DcI H d ys tb := by
  obtain ⟨kvs, e, _, v⟩ := h
  exact ⟨kvs, e, fun x hx => by rw [v x, if_pos hx]⟩
theorem putK_old {kvs : List (Key × V)} {k : Key} {v u : V} (h : valV kvs k = some u) : (putK kvs k v).length = kvs.length := by
  unfold putK
  rw [if_pos (by rw [valV_any, h]; rfl), List.length_map]
theorem Full.put {H : Hp} {d : Addr} {ys : List Str} {tb : Str → Int} (h : Full H d ys fun x => .int (tb x)) {x : Str} (hx : x ∈ ys) : ∃ kvs : List (Key × V), H d = some (.dK kvs) ∧ kvs.length = ys.length ∧
    ∀ (H' : Hp) (v : Int), H' d = some (.dK (putK kvs (.inr x) (.int v))) → Full H' d ys (fun y => .int (if y = x then v else tb y)) := by
  obtain ⟨kvs, e, l, g⟩ := h
  refine ⟨kvs, e, l, fun H' v h' => ⟨_, h', ?_, fun y => ?_⟩⟩
  · rw [putK_old (by rw [g x, if_pos hx])]; exact l
  · rw [valV_put]
    by_cases q : y = x
    · subst q
      rw [if_pos rfl, if_pos hx]
      show _ = some (V.int (if y = y then v else tb y))
      rw [if_pos rfl]
    · rw [if_neg (fun w => q (Sum.inr.inj w)), g y]
      show _ = if y ∈ ys then some (V.int (if y = x then v else tb y)) else none
      rw [if_neg q]
/-! a brain at work -/
def thF (d st tp : Addr) (l : Int) : List (Str × V) := [("table", .ref d), ("left", .int l), ("seen", .ref st), ("tape", .ref tp)]
structure ThAt (C CT : Addr) (H : Hp) (x d st tp rx tx : Addr) (ns : List Str) (seen rs : List Int) (s : MS) : Prop where
  o : ∃ dx, H x = some (.ins C dx (thF d st tp s.left))
  t : Full H d ns (fun y => .int (s.tb y))
  sn : H st = some (.tup (seen.map V.int))
  ta : TapeAt CT H tp rx tx rs s.tk
  nx : x ≠ tp
theorem ThAt.keep0 {C CT : Addr} {H H' : Hp} {x d st tp rx tx : Addr} {ns : List Str} {seen rs : List Int} {s : MS} (h : ThAt C CT H x d st tp rx tx ns seen rs s) (k : Keep [] H H') : ThAt C CT H' x d st tp rx tx ns seen rs s := by
  obtain ⟨dx, o⟩ := h.o
  exact ⟨⟨dx, k _ _ o (by simp)⟩, h.t.keep k (by simp), k _ _ h.sn (by simp), h.ta.keep k k.tk (by simp) (by simp) (by simp), h.nx⟩
theorem ThAt.tk3 {C CT : Addr} {H H' : Hp} {x d st tp rx tx : Addr} {ns : List Str} {seen rs : List Int} {s : MS} (h : ThAt C CT H x d st tp rx tx ns seen rs s) (k : Keep [x, d, tx] H H') : TK H H' := by
  obtain ⟨dx, o⟩ := h.o
  obtain ⟨kvs, e, _⟩ := h.t
  obtain ⟨ys, t, _⟩ := h.ta.t
  intro b xs q
  refine k _ _ q fun z => ?_
  have z' : b = x ∨ b = d ∨ b = tx := by simpa using z
  rcases z' with rfl | rfl | rfl
  · rw [o] at q; cases q
  · rw [e] at q; cases q
  · rw [t] at q; cases q
/-- all that a brain at work rests on -/
structure TC (C CT : Addr) (H : Hp) (x d st tp rx tx : Addr) (ns : List Str) (seen rs : List Int) (s : MS) : Prop where
  A : ThAt C CT H x d st tp rx tx ns seen rs s
  ok : MOk ns s
  sk : SeenOk seen
  sl : seen.length ≤ 90000
  bd : s.left.toNat + s.tk.length ≤ 90000
  nl : ns.length ≤ 1000
theorem TC.keep0 {C CT : Addr} {H H' : Hp} {x d st tp rx tx : Addr} {ns : List Str} {seen rs : List Int} {s : MS} (h : TC C CT H x d st tp rx tx ns seen rs s) (k : Keep [] H H') : TC C CT H' x d st tp rx tx ns seen rs s := ⟨h.A.keep0 k, h.ok, h.sk, h.sl, h.bd, h.nl⟩
theorem TC.mv {C CT : Addr} {H H' : Hp} {x d st tp rx tx : Addr} {ns : List Str} {seen rs : List Int} {s r : MS} (h : TC C CT H x d st tp rx tx ns seen rs s) (a : ThAt C CT H' x d st tp rx tx ns seen rs r) (m : Mv ns 0 s r) : TC C CT H' x d st tp rx tx ns seen rs r := ⟨a, m.ok, h.sk, h.sl, by have := m.k; have := h.bd; omega, h.nl⟩
def sp_tval (K : PySem.W.Frag) (C CT : Addr) : Sp := fun vs H Q _ => ∃ x d st tp rx tx ns seen rs s v e, vs = [.ref x, v] ∧ ThAt C CT H x d st tp rx tx ns seen rs s ∧ MOk ns s ∧ SeenOk seen ∧ seen.length ≤ 90000 ∧ EV K H v e ∧ ExOk ns e ∧ ∀ H', Keep [] H H' → Q (.int (s.ev seen e)) H'
def sp_tunit (C CT : Addr) : Sp := fun vs H Q _ => ∃ x d st tp rx tx ns seen rs s, vs = [.ref x] ∧ ThAt C CT H x d st tp rx tx ns seen rs s ∧ (s.left = 0 → Q (.bl false) H) ∧ (¬ s.left = 0 → ∀ H', ThAt C CT H' x d st tp rx tx ns seen rs { s with left := s.left - 1 } → Keep [x, d, tx] H H' → Q (.bl true) H')
def sp_trun (K : PySem.W.Frag) (C CT : Addr) (n : Nat) : Sp := fun vs H Q _ => ∃ x d st tp rx tx ns seen rs s q b, vs = [.ref x, .ref q] ∧ TC C CT H x d st tp rx tx ns seen rs s ∧ BV K H b q ∧ b.Ok ns ∧ b.dep < n ∧ ∀ H', ThAt C CT H' x d st tp rx tx ns seen rs (runB seen rs b s).2 → Keep [x, d, tx] H H' → Q (.bl (runB seen rs b s).1) H'
def sp_tstep (K : PySem.W.Frag) (C CT : Addr) (n : Nat) : Sp := fun vs H Q _ => ∃ x d st tp rx tx ns seen rs s v t, vs = [.ref x, v] ∧ TC C CT H x d st tp rx tx ns seen rs s ∧ TV K H t v ∧ t.Ok ns ∧ t.dep ≤ n ∧ ∀ H', ThAt C CT H' x d st tp rx tx ns seen rs (runT seen rs t s).2 → Keep [x, d, tx] H H' → Q (.bl (runT seen rs t s).1) H'
def sp_tloop (K : PySem.W.Frag) (C CT : Addr) (n : Nat) : Sp := fun vs H Q _ => ∃ x d st tp rx tx ns seen rs s v t q b, vs = [.ref x, v, .ref q] ∧ TC C CT H x d st tp rx tx ns seen rs s ∧ EV K H v t ∧ ExOk ns t ∧ BV K H b q ∧ b.Ok ns ∧ b.dep < n ∧
  ∀ H', ThAt C CT H' x d st tp rx tx ns seen rs (runT seen rs (.whl t b) s).2 → Keep [x, d, tx] H H' → Q (.bl (runT seen rs (.whl t b) s).1) H'
section
variable {P : Program} {w : World} {K : PySem.W.Frag} {mg : Str → Option Value} {base : Heap} {C_Tape : Addr} {C_Thinker : Addr} {C_Brain : Addr} {C_Mind : Addr} {C_Frame : Addr} {C_Thinking : Addr} {C_Checker : Addr} {C_GameError : Addr} {C_BadCode : Addr} {f_BadCode___init : Addr} {T_EVENTS : Addr} {T_SIGNS : Addr} {T_ROUND_NAMES : Addr} {T_BRAIN_NAMES : Addr} {T_EFFECTS : Addr}
theorem ok_tval {f : Addr} {fd : FuncData} (me : Meth K C_Thinker "value" f) (F : C8.Fun K "value" "Thinker.value" s_Thinker_value f fd) (b : Binds K fd ["self", "expression"] []) (T : Txt K mg C_Tape C_Thinker C_Brain C_Mind C_Frame C_Thinking C_Checker C_GameError C_BadCode T_EVENTS T_SIGNS T_ROUND_NAMES T_BRAIN_NAMES T_EFFECTS) (c_value_of : C8.Cal P w K mg base 13 "value_of" (sp_value K 12) []) : C8.Met P w K mg base 14 C_Thinker "value" (sp_tval K C_Thinker C_Tape) [] := by
  refine met0 T.cl_Thinker me F b sc_Thinker_value (fun vs H Q E h => ?_) (fun cdv A outer s H vs Q E hr h => ?_)
  · obtain ⟨x, d, st, tp, rx, tx, ns, seen, rs, s, v, e, rfl, _⟩ := h
    rfl
  · obtain ⟨x, d, st, tp, rx, tx, ns, seen, rs, s, v, e, rfl, hA, ok, sk, sl, he, hok, k⟩ := h
    have hu := hu_of hr
    refine ⟨_, (pss_one (ps_ret (pe_c c_value_of hr (by first | exact Nat.le_refl _ | decide | omega) rfl (pa_cons (pv 1) (pa_cons (pe_fld (pv 0) rfl) (pa_cons pe_dnewK (pa_cons (pe_fld (pv 0) rfl) pa_nil))))))), ?_⟩
    obtain ⟨dx, ho⟩ := hA.o
    refine ⟨_, rfl, _, rfl, x, C_Thinker, dx, _, _, rfl, ho, T.cl_Thinker, T.a_Thinker_table, rfl, fun od nod => ?_⟩
    have k1 : Keep [] H (upd H od (.dK [])) := Keep.new nod
    refine ⟨_, rfl, x, C_Thinker, dx, _, _, rfl, k1 _ _ ho (by simp), T.cl_Thinker, T.a_Thinker_seen, rfl, ?_⟩
    refine ⟨v, d, od, st, e, ns, [], s.tb, offs, seen, rfl, he.tk k1.tk, hok.1, hok.2, ⟨(hA.t.keep k1 (by simp)).dcI, ⟨[], upd_same, fun x hx => by cases hx⟩, SqT.of (k1 _ _ hA.sn (by simp)), ok.t, sk, by omega⟩, k _ k1⟩
theorem ok_tunit {f : Addr} {fd : FuncData} (me : Meth K C_Thinker "unit" f) (F : C8.Fun K "unit" "Thinker.unit" s_Thinker_unit f fd) (b : Binds K fd ["self"] []) (T : Txt K mg C_Tape C_Thinker C_Brain C_Mind C_Frame C_Thinking C_Checker C_GameError C_BadCode T_EVENTS T_SIGNS T_ROUND_NAMES T_BRAIN_NAMES T_EFFECTS) : C8.Met P w K mg base 1 C_Thinker "unit" (sp_tunit C_Thinker C_Tape) [] := by
  refine met0 T.cl_Thinker me F b sc_Thinker_unit (fun vs H Q E h => ?_) (fun cdv A outer s H vs Q E hr h => ?_)
  · obtain ⟨x, d, st, tp, rx, tx, ns, seen, rs, s, rfl, _⟩ := h
    rfl
  · obtain ⟨x, d, st, tp, rx, tx, ns, seen, rs, s, rfl, hA, k0, k1⟩ := h
    refine ⟨_, (pss_cons (ps_if (pt_cmpR op_eq (pe_fld (pv 0) rfl) pe_int (nomark _))
  (pss_one (ps_ret pe_bl))
  pss_nil)
(pss_cons (ps_fldaug (pv 0) pe_int in_sub)
(pss_one (ps_ret pe_bl)))), ?_⟩
    obtain ⟨dx, ho⟩ := hA.o
    refine ⟨_, rfl, x, C_Thinker, dx, _, _, rfl, ho, T.cl_Thinker, T.a_Thinker_left, rfl, rfl, _, rfl, iteD (fun e => k0 (V.int.inj e)) (fun e => ?_)⟩
    have e' : ¬ s.left = 0 := fun z => e (congrArg V.int z)
    refine ⟨_, rfl, x, C_Thinker, dx, _, _, rfl, ho, T.cl_Thinker, T.a_Thinker_left, rfl, _, _, rfl, rfl, dx, _, ho, by show 4 < 1000; decide, ?_⟩
    have ne : ∀ {a : Addr} {o : HO}, H a = some o → ¬ o = .ins C_Thinker dx (thF d st tp s.left) → a ≠ x := fun h1 h2 z => by rw [z, ho] at h1; exact h2 (Option.some.inj h1).symm
    obtain ⟨kvs, e1, e2, e3⟩ := hA.t
    obtain ⟨dt, ot⟩ := hA.ta.o
    obtain ⟨ys, t1, t2⟩ := hA.ta.t
    have ku : Keep [x] H (upd H x (.ins C_Thinker dx (thF d st tp (s.left - 1)))) := Keep.at_ (List.mem_singleton.mpr rfl)
    have tku : TK H (upd H x (.ins C_Thinker dx (thF d st tp (s.left - 1)))) := fun b xs q => by rw [upd_ne (ne q (by intro z; cases z))]; exact q
    refine k1 e' _ ⟨⟨dx, upd_same⟩, ⟨kvs, ?_, e2, e3⟩, ?_, hA.ta.keep ku tku ?_ ?_ ?_, hA.nx⟩ (ku.mono (by simp))
    · exact ku _ _ e1 (by have := ne e1 (by intro z; cases z); simpa using this)
    · exact tku _ _ hA.sn
    · simpa using hA.nx.symm
    · have := ne hA.ta.r (by intro z; cases z); simpa using this
    · have := ne t1 (by intro z; cases z); simpa using this
end

theorem ThAt.put {C CT : Addr} {H : Hp} {x d st tp rx tx : Addr} {ns : List Str} {seen rs : List Int} {s : MS} (h : ThAt C CT H x d st tp rx tx ns seen rs s) {y : Str} (hy : y ∈ ns) : ∃ kvs : List (Key × V), H d = some (.dK kvs) ∧ kvs.length = ns.length ∧
    ∀ v : Int, ThAt C CT (upd H d (.dK (putK kvs (.inr y) (.int v)))) x d st tp rx tx ns seen rs (s.put y v) := by
  obtain ⟨kvs, e, l, g⟩ := h.t.put hy
  obtain ⟨dx, o⟩ := h.o
  obtain ⟨dt, ot⟩ := h.ta.o
  obtain ⟨ys, t1, t2⟩ := h.ta.t
  refine ⟨kvs, e, l, fun v => ?_⟩
  have ne : ∀ {a : Addr} {u : HO}, H a = some u → ¬ u = .dK kvs → a ≠ d := fun h1 h2 z => by rw [z, e] at h1; exact h2 (Option.some.inj h1).symm
  have ku : Keep [d] H (upd H d (.dK (putK kvs (.inr y) (.int v)))) := Keep.at_ (List.mem_singleton.mpr rfl)
  have tku : TK H (upd H d (.dK (putK kvs (.inr y) (.int v)))) := fun b xs q => by rw [upd_ne (ne q (by intro z; cases z))]; exact q
  refine ⟨⟨dx, ku _ _ o (by have := ne o (by intro z; cases z); simpa using this)⟩, g _ v upd_same, tku _ _ h.sn, h.ta.keep ku tku ?_ ?_ ?_, h.nx⟩
  · have := ne ot (by intro z; cases z); simpa using this
  · have := ne h.ta.r (by intro z; cases z); simpa using this
  · have := ne t1 (by intro z; cases z); simpa using this
theorem ThAt.take {C CT : Addr} {H H' : Hp} {x d st tp rx tx : Addr} {ns : List Str} {seen rs : List Int} {s : MS} (h : ThAt C CT H x d st tp rx tx ns seen rs s) (k : Keep [tx] H H') {tk : List (Int × Int)} (t : TapeAt CT H' tp rx tx rs tk) : ThAt C CT H' x d st tp rx tx ns seen rs { s with tk := tk } := by
  obtain ⟨dx, o⟩ := h.o
  obtain ⟨ys, t1, t2⟩ := h.ta.t
  obtain ⟨kvs, e, _⟩ := id h.t
  have ne : ∀ {a : Addr} {u : HO}, H a = some u → ¬ u = .lst ys → a ≠ tx := fun h1 h2 z => by rw [z, t1] at h1; exact h2 (Option.some.inj h1).symm
  refine ⟨⟨dx, k _ _ o (by have := ne o (by intro z; cases z); simpa using this)⟩, h.t.keep k (by have := ne e (by intro z; cases z); simpa using this), k _ _ h.sn (by have := ne h.sn (by intro z; cases z); simpa using this), t, h.nx⟩
theorem metUp {P : Program} {w : World} {K : PySem.W.Frag} {mg : Str → Option Value} {base : Heap} {j k : Nat} {C : Addr} {m : Str} {sp : Sp} {dvs : List V} (c : C8.Met P w K mg base j C m sp dvs) (h : j ≤ k) : C8.Met P w K mg base k C m sp dvs := by
  obtain ⟨f, fd, ps, ds, hc, hm, F, b, d⟩ := c.ex
  exact ⟨f, fd, ps, ds, hc, hm, F.mono h, b, d⟩
section
variable {P : Program} {w : World} {K : PySem.W.Frag} {mg : Str → Option Value} {base : Heap} {C_Tape : Addr} {C_Thinker : Addr} {C_Brain : Addr} {C_Mind : Addr} {C_Frame : Addr} {C_Thinking : Addr} {C_Checker : Addr} {C_GameError : Addr} {C_BadCode : Addr} {f_BadCode___init : Addr} {T_EVENTS : Addr} {T_SIGNS : Addr} {T_ROUND_NAMES : Addr} {T_BRAIN_NAMES : Addr} {T_EFFECTS : Addr}
theorem ok_trun0 {f : Addr} {fd : FuncData} (me : Meth K C_Thinker "run" f) (b : Binds K fd ["self", "block"] []) (T : Txt K mg C_Tape C_Thinker C_Brain C_Mind C_Frame C_Thinking C_Checker C_GameError C_BadCode T_EVENTS T_SIGNS T_ROUND_NAMES T_BRAIN_NAMES T_EFFECTS) {k : Nat} : C8.Met P w K mg base k C_Thinker "run" (sp_trun K C_Thinker C_Tape 0) [] :=
  ⟨f, fd, ["self", "block"], [], T.cl_Thinker, me, ⟨fun vs H Q E h => (by obtain ⟨x, d, st, tp, rx, tx, ns, seen, rs, s, q, b, rfl, _⟩ := h; rfl), fun A outer s H args us vs Q E _ _ _ _ h => (by
    obtain ⟨x, d, st, tp, rx, tx, ns, seen, rs, s, q, b, _, _, _, _, z, _⟩ := h
    exact absurd z (Nat.not_lt_zero _))⟩, b, .nil⟩
theorem ok_tloop {f : Addr} {fd : FuncData} (me : Meth K C_Thinker "loop" f) (F : C8.Fun K "loop" "Thinker.loop" s_Thinker_loop f fd) (b : Binds K fd ["self", "test", "block"] []) (T : Txt K mg C_Tape C_Thinker C_Brain C_Mind C_Frame C_Thinking C_Checker C_GameError C_BadCode T_EVENTS T_SIGNS T_ROUND_NAMES T_BRAIN_NAMES T_EFFECTS) {n k : Nat} (c_Thinker_value : C8.Met P w K mg base k C_Thinker "value" (sp_tval K C_Thinker C_Tape) []) (c_Thinker_unit : C8.Met P w K mg base k C_Thinker "unit" (sp_tunit C_Thinker C_Tape) [])
    (c_Thinker_run : C8.Met P w K mg base k C_Thinker "run" (sp_trun K C_Thinker C_Tape n) []) : C8.Met P w K mg base (k + 1) C_Thinker "loop" (sp_tloop K C_Thinker C_Tape n) [] := by
  refine met0 T.cl_Thinker me F b sc_Thinker_loop (fun vs H Q E h => ?_) (fun cdv A outer s H vs Q E hr h => ?_)
  · obtain ⟨x, d, st, tp, rx, tx, ns, seen, rs, s, v, t, q, b, rfl, _⟩ := h
    rfl
  · obtain ⟨x, d, st, tp, rx, tx, ns, seen, rs, s0, v, t, q, b, rfl, hC, he, hok, hB, bok, bd, k⟩ := h
    refine ⟨_, (pss_cons (ps_while PassesOwn.never (pt_cmpR op_ne (pe_mt c_Thinker_value hr (by first | exact Nat.le_refl _ | decide | omega) (pv 0) (pa_cons (pv 1) pa_nil)) pe_int (nomark _))
  (pss_one (ps_if (PW.pt (pw_or (pt_not (pt_truth (pe_mt c_Thinker_run hr (by first | exact Nat.le_refl _ | decide | omega) (pv 0) (pa_cons (pv 2) pa_nil)) (by intro _; rfl))) (pw_or1 (pt_not (pt_truth (pe_mt0 c_Thinker_unit hr (by first | exact Nat.le_refl _ | decide | omega) (pv 0)) (by intro _; rfl))))))
    (pss_one (ps_ret pe_bl))
    pss_nil)))
(pss_one (ps_ret pe_bl))), ?_⟩
    have eR : runT seen rs (.whl t b) s0 = loopM (fun s => decide (s.ev seen t ≠ 0)) (fun s => runB seen rs b s) (s0.left.toNat + 1) s0 := by unfold runT; rfl
    rw [eR] at k
    refine ⟨fun m σ H' => σ = [some (.ref x), some v, some (.ref q)] ∧ ∃ (s : MS) (i : Nat), m = s.left.toNat ∧ s.left.toNat < i ∧ TC C_Thinker C_Tape H' x d st tp rx tx ns seen rs s ∧ Keep [x, d, tx] H H' ∧ loopM (fun s => decide (s.ev seen t ≠ 0)) (fun s => runB seen rs b s) i s = loopM (fun s => decide (s.ev seen t ≠ 0)) (fun s => runB seen rs b s) (s0.left.toNat + 1) s0,
      ⟨_, rfl, s0, _, rfl, Nat.lt_succ_self _, hC, Keep.refl _ _, rfl⟩, ?_⟩
    rintro m σ H1 ⟨rfl, s, i, rfl, hi, C1, K1, eL⟩
    obtain ⟨i, rfl⟩ : ∃ j, i = j + 1 := ⟨i - 1, by omega⟩
    have tk1 := hC.A.tk3 K1
    obtain ⟨dx, ho⟩ := C1.A.o
    refine ⟨_, rfl, x, dx, _, rfl, ho, rfl, _, rfl, x, d, st, tp, rx, tx, ns, seen, rs, s, v, t, rfl, C1.A, C1.ok, C1.sk, C1.sl, he.tk tk1, hok, fun H2 K2 => ?_⟩
    have C2 := C1.keep0 K2
    have K12 := K1.trans (K2.mono (by simp))
    have hB2 := (hB.tk tk1).tk K2.tk
    by_cases hz : s.ev seen t = 0
    · have e : loopM (fun s => decide (s.ev seen t ≠ 0)) (fun s => runB seen rs b s) (i + 1) s = (true, s) := by
        unfold loopM
        rw [if_pos (decide_eq_false (not_not_intro hz))]
      rw [← eL, e] at k
      exact ⟨rfl, _, rfl, iteNF (by rw [hz]) (k _ C2.A K12)⟩
    have e : loopM (fun s => decide (s.ev seen t ≠ 0)) (fun s => runB seen rs b s) (i + 1) s = if (runB seen rs b s).1 = false then (false, (runB seen rs b s).2) else if (runB seen rs b s).2.left = 0 then (false, (runB seen rs b s).2) else
        loopM (fun s => decide (s.ev seen t ≠ 0)) (fun s => runB seen rs b s) i { (runB seen rs b s).2 with left := (runB seen rs b s).2.left - 1 } := by
      conv => lhs; unfold loopM
      rw [if_neg (by simpa using hz)]
    refine ⟨rfl, _, rfl, iteNT (fun z => hz (V.int.inj z)) ⟨fun σ' H' => ∃ m', m' < s.left.toNat ∧ (σ' = [some (.ref x), some v, some (.ref q)] ∧ ∃ (s : MS) (i : Nat), m' = s.left.toNat ∧ s.left.toNat < i ∧ TC C_Thinker C_Tape H' x d st tp rx tx ns seen rs s ∧ Keep [x, d, tx] H H' ∧ loopM (fun s => decide (s.ev seen t ≠ 0)) (fun s => runB seen rs b s) i s = loopM (fun s => decide (s.ev seen t ≠ 0)) (fun s => runB seen rs b s) (s0.left.toNat + 1) s0), fun _ _ z => z, ?_⟩⟩
    have mv := runB_mv (rs := rs) C1.sk b bok s C1.ok
    obtain ⟨dx2, ho2⟩ := C2.A.o
    refine ⟨_, rfl, x, dx2, _, rfl, ho2, rfl, _, rfl, x, d, st, tp, rx, tx, ns, seen, rs, s, q, b, rfl, C2, hB2, bok, bd, fun H3 A3 K3 => ?_⟩
    have C3 := C2.mv A3 mv
    have K13 := K12.trans K3
    cases hb : (runB seen rs b s).1 with
    | false =>
      rw [hb, if_pos rfl] at e
      rw [← eL, e] at k
      exact ⟨_, rfl, iteT (k _ A3 K13)⟩
    | true =>
      rw [hb, if_neg (by decide)] at e
      refine ⟨_, rfl, iteF ?_⟩
      obtain ⟨dx3, ho3⟩ := C3.A.o
      refine ⟨_, rfl, x, dx3, _, rfl, ho3, rfl, x, d, st, tp, rx, tx, ns, seen, rs, _, rfl, A3, fun z => ?_, fun z H4 A4 K4 => ?_⟩
      · rw [if_pos z] at e
        rw [← eL, e] at k
        exact ⟨_, rfl, iteT (k _ A3 K13)⟩
      · rw [if_neg z] at e
        refine ⟨_, rfl, iteF ?_⟩
        have hok3 := C3.ok.dec z
        have hl3 := C3.ok.l
        have hml := mv.l
        have hl0 := C1.ok.l
        refine ⟨((runB seen rs b s).2.left - 1).toNat, by omega, rfl, _, i, rfl, ?_, ⟨A4, hok3, C3.sk, C3.sl, ?_, C3.nl⟩, K13.trans K4, ?_⟩
        · show ((runB seen rs b s).2.left - 1).toNat < i
          omega
        · have := C3.bd
          show ((runB seen rs b s).2.left - 1).toNat + (runB seen rs b s).2.tk.length ≤ 90000
          omega
        · rw [← e, eL]
theorem ok_tstep {f : Addr} {fd : FuncData} (me : Meth K C_Thinker "step" f) (F : C8.Fun K "step" "Thinker.step" s_Thinker_step f fd) (b : Binds K fd ["self", "statement"] []) (T : Txt K mg C_Tape C_Thinker C_Brain C_Mind C_Frame C_Thinking C_Checker C_GameError C_BadCode T_EVENTS T_SIGNS T_ROUND_NAMES T_BRAIN_NAMES T_EFFECTS) {n k : Nat} (c_Thinker_value : C8.Met P w K mg base k C_Thinker "value" (sp_tval K C_Thinker C_Tape) []) (c_Thinker_loop : C8.Met P w K mg base k C_Thinker "loop" (sp_tloop K C_Thinker C_Tape n) [])
    (c_Thinker_run : C8.Met P w K mg base k C_Thinker "run" (sp_trun K C_Thinker C_Tape n) []) (c_Tape_take : C8.Met P w K mg base k C_Tape "take" (sp_take C_Tape) []) : C8.Met P w K mg base (k + 1) C_Thinker "step" (sp_tstep K C_Thinker C_Tape n) [] := by
  refine met0 T.cl_Thinker me F b sc_Thinker_step (fun vs H Q E h => ?_) (fun cdv A outer s H vs Q E hr h => ?_)
  · obtain ⟨x, d, st, tp, rx, tx, ns, seen, rs, s, v, t, rfl, _⟩ := h
    rfl
  · obtain ⟨x, d, st, tp, rx, tx, ns, seen, rs, s, v, t, rfl, hC, hT, hok, bd, k⟩ := h
    have hu := hu_of hr
    refine ⟨_, (pss_cons (ps_set (i := 2) sc_Thinker_step.nd rfl (by first | exact Or.inl rfl | exact Or.inr rfl) (pe_ix ix_tup (pv 1) pe_int (fun _ _ => rfl)))
(pss_cons (ps_if (pt_cmpR op_eq (pv 2) pe_str (nomark _))
  (pss_one (ps_ret (pe_mt c_Thinker_loop hr (by first | exact Nat.le_refl _ | decide | omega) (pv 0) (pa_cons (pe_ix ix_tup (pv 1) pe_int (fun _ _ => rfl)) (pa_cons (pe_ix ix_tup (pv 1) pe_int (fun _ _ => rfl)) pa_nil)))))
  pss_nil)
(pss_cons (ps_if (pt_cmpR op_eq (pv 2) pe_str (nomark _))
  (pss_cons (ps_if (pt_cmpR op_ne (pe_mt c_Thinker_value hr (by first | exact Nat.le_refl _ | decide | omega) (pv 0) (pa_cons (pe_ix ix_tup (pv 1) pe_int (fun _ _ => rfl)) pa_nil)) pe_int (nomark _))
    (pss_one (ps_ret (pe_mt c_Thinker_run hr (by first | exact Nat.le_refl _ | decide | omega) (pv 0) (pa_cons (pe_ix ix_tup (pv 1) pe_int (fun _ _ => rfl)) pa_nil))))
    pss_nil)
  (pss_one (ps_ret (pe_mt c_Thinker_run hr (by first | exact Nat.le_refl _ | decide | omega) (pv 0) (pa_cons (pe_ix ix_tup (pv 1) pe_int (fun _ _ => rfl)) pa_nil)))))
  pss_nil)
(pss_cons (ps_set (i := 3) sc_Thinker_step.nd rfl (by first | exact Or.inl rfl | exact Or.inr rfl) (pe_mt c_Thinker_value hr (by first | exact Nat.le_refl _ | decide | omega) (pv 0) (pa_cons (pe_ix ix_tup (pv 1) pe_int (fun _ _ => rfl)) pa_nil)))
(pss_cons (ps_if (PW.pt (pw_and (pt_cmpR op_eq (pv 2) pe_str (nomark _)) (pw_and1 (pt_cmpR op_gt (pv 3) pe_int (nomark _)))))
  (pss_one (ps_set (i := 3) sc_Thinker_step.nd rfl (by first | exact Or.inl rfl | exact Or.inr rfl) (pe_mt c_Tape_take hr (by first | exact Nat.le_refl _ | decide | omega) (pe_fld (pv 0) rfl) (pa_cons (pv 3) pa_nil))))
  pss_nil)
(pss_cons (ps_dput hu (pe_fld (pv 0) rfl) (pe_ix ix_tup (pv 1) pe_int (fun _ _ => rfl)) (pv 3) (by rfl))
(pss_one (ps_ret pe_bl)))))))), ?_⟩
    obtain ⟨dx, ho⟩ := hC.A.o
    cases t with
    | whl t b =>
      obtain ⟨p, u, q, xs, rfl, h1, h2, h3, h4⟩ := hT
      refine ⟨_, rfl, _, _, _, _, rfl, rfl, h1.sq, rfl, ?_⟩
      refine ⟨_, rfl, rfl, _, rfl, iteDT rfl ?_⟩
      exact ⟨_, rfl, x, dx, _, rfl, ho, rfl, _, rfl, _, _, _, _, rfl, rfl, h1.sq, rfl, _, rfl, _, _, _, _, rfl, rfl, h1.sq, rfl, x, d, st, tp, rx, tx, ns, seen, rs, s, u, t, q, b, rfl, hC, h2, hok.1, ⟨xs, h3, h4⟩, hok.2, by (have : b.dep + 1 ≤ n := bd); omega, k⟩
    | iff t a b =>
      obtain ⟨p, u, q, r, xs, ys, rfl, h1, h2, h3, h4, h5, h6⟩ := hT
      have bd' : max a.dep b.dep + 1 ≤ n := bd
      refine ⟨_, rfl, _, _, _, _, rfl, rfl, h1.sq, rfl, ?_⟩
      refine ⟨_, rfl, rfl, _, rfl, iteDF (nes (by decide +kernel)) ?_⟩
      refine ⟨_, rfl, rfl, _, rfl, iteDT rfl ?_⟩
      refine ⟨_, rfl, x, dx, _, rfl, ho, rfl, _, rfl, _, _, _, _, rfl, rfl, h1.sq, rfl, x, d, st, tp, rx, tx, ns, seen, rs, s, u, t, rfl, hC.A, hC.ok, hC.sk, hC.sl, h2, hok.1, fun H1 K1 => ?_⟩
      have C1 := hC.keep0 K1
      have h1' := h1.tk K1.tk
      obtain ⟨dx1, ho1⟩ := C1.A.o
      by_cases hz : s.ev seen t = 0
      · have e : runT seen rs (.iff t a b) s = runB seen rs b s := by unfold runT; rw [if_neg (not_not_intro hz)]
        rw [e] at k
        refine ⟨rfl, _, rfl, iteNF (by rw [hz]) ?_⟩
        exact ⟨_, rfl, x, dx1, _, rfl, ho1, rfl, _, rfl, _, _, _, _, rfl, rfl, h1'.sq, rfl, x, d, st, tp, rx, tx, ns, seen, rs, s, r, b, rfl, C1, ⟨ys, h5.tk K1.tk, TVs.tk K1.tk b h6⟩, hok.2.2, by omega, fun H2 A2 K2 => k _ A2 ((K1.mono (by simp)).trans K2)⟩
      · have e : runT seen rs (.iff t a b) s = runB seen rs a s := by unfold runT; rw [if_pos hz]
        rw [e] at k
        refine ⟨rfl, _, rfl, iteNT (fun z => hz (V.int.inj z)) ?_⟩
        exact ⟨_, rfl, x, dx1, _, rfl, ho1, rfl, _, rfl, _, _, _, _, rfl, rfl, h1'.sq, rfl, x, d, st, tp, rx, tx, ns, seen, rs, s, q, a, rfl, C1, ⟨xs, h3.tk K1.tk, TVs.tk K1.tk a h4⟩, hok.2.1, by omega, fun H2 A2 K2 => k _ A2 ((K1.mono (by simp)).trans K2)⟩
    | set y e =>
      obtain ⟨p, u, rfl, h1, h2⟩ := hT
      refine ⟨_, rfl, _, _, _, _, rfl, rfl, h1.sq, rfl, ?_⟩
      refine ⟨_, rfl, rfl, _, rfl, iteDF (nes (by decide +kernel)) ?_⟩
      refine ⟨_, rfl, rfl, _, rfl, iteDF (nes (by decide +kernel)) ?_⟩
      refine ⟨_, rfl, x, dx, _, rfl, ho, rfl, _, rfl, _, _, _, _, rfl, rfl, h1.sq, rfl, x, d, st, tp, rx, tx, ns, seen, rs, s, u, e, rfl, hC.A, hC.ok, hC.sk, hC.sl, h2, hok.2, fun H1 K1 => ?_⟩
      have C1 := hC.keep0 K1
      have h1' := h1.tk K1.tk
      obtain ⟨dx1, ho1⟩ := C1.A.o
      refine ⟨_, rfl, rfl, _, rfl, iteDF (nes (by decide +kernel)) ?_⟩
      obtain ⟨kvs, e1, e2, e3⟩ := C1.A.put hok.1
      refine ⟨_, rfl, _, rfl, x, C_Thinker, dx1, _, _, rfl, ho1, T.cl_Thinker, T.a_Thinker_table, rfl, _, rfl, _, _, _, _, rfl, rfl, h1'.sq, rfl, d, _, rfl, DPut.k (k := .inr y) e1 (smallL (by rw [e2]; have := hC.nl; omega)), ?_⟩
      exact k _ (e3 _) ((K1.mono (by simp)).trans (Keep.at_ (by simp)))
    | lot y e =>
      obtain ⟨p, u, rfl, h1, h2⟩ := hT
      refine ⟨_, rfl, _, _, _, _, rfl, rfl, h1.sq, rfl, ?_⟩
      refine ⟨_, rfl, rfl, _, rfl, iteDF (nes (by decide +kernel)) ?_⟩
      refine ⟨_, rfl, rfl, _, rfl, iteDF (nes (by decide +kernel)) ?_⟩
      refine ⟨_, rfl, x, dx, _, rfl, ho, rfl, _, rfl, _, _, _, _, rfl, rfl, h1.sq, rfl, x, d, st, tp, rx, tx, ns, seen, rs, s, u, e, rfl, hC.A, hC.ok, hC.sk, hC.sl, h2, hok.2, fun H1 K1 => ?_⟩
      have C1 := hC.keep0 K1
      have h1' := h1.tk K1.tk
      obtain ⟨dx1, ho1⟩ := C1.A.o
      have hv := hC.ok.ev hC.sk hok.2
      have eR : runT seen rs (.lot y e) s = (true, lotS seen rs s y e) := by unfold runT; rfl
      rw [eR] at k
      refine ⟨_, rfl, rfl, _, rfl, iteDT rfl ⟨_, rfl, _, _, rfl, rfl, _, rfl, iteD (fun hp => ?_) (fun hp => ?_)⟩⟩
      · obtain ⟨dt, ot⟩ := C1.A.ta.o
        have hl : s.tk.length ≤ 900000 := by have := hC.bd; omega
        refine ⟨_, rfl, x, C_Thinker, dx1, _, _, rfl, ho1, T.cl_Thinker, T.a_Thinker_tape, rfl, tp, dt, _, rfl, ot, rfl, _, rfl, tp, rx, tx, rs, s.tk, s.ev seen e, rfl, hp, by omega, hl, C1.A.ta, fun H2 K2 TA2 => ?_⟩
        have A2 := C1.A.take K2 TA2
        have tk2 : TK H1 H2 := C1.A.tk3 (K2.mono (by simp))
        obtain ⟨kvs, e1, e2, e3⟩ := A2.put hok.1
        obtain ⟨dx2, ho2⟩ := A2.o
        have eL : lotS seen rs s y e = MS.put { s with tk := s.tk ++ [(nextR rs s.tk (s.ev seen e), s.ev seen e)] } y (nextR rs s.tk (s.ev seen e)) := by unfold lotS; rw [if_pos hp]
        rw [eL] at k
        refine ⟨_, rfl, _, rfl, x, C_Thinker, dx2, _, _, rfl, ho2, T.cl_Thinker, T.a_Thinker_table, rfl, _, rfl, _, _, _, _, rfl, rfl, (h1'.tk tk2).sq, rfl, d, _, rfl, DPut.k (k := .inr y) e1 (smallL (by rw [e2]; have := hC.nl; omega)), ?_⟩
        exact k _ (e3 _) (((K1.mono (by simp)).trans (K2.mono (by simp))).trans (Keep.at_ (by simp)))
      · have eL : lotS seen rs s y e = s.put y (s.ev seen e) := by unfold lotS; rw [if_neg hp]
        rw [eL] at k
        obtain ⟨kvs, e1, e2, e3⟩ := C1.A.put hok.1
        refine ⟨_, rfl, _, rfl, x, C_Thinker, dx1, _, _, rfl, ho1, T.cl_Thinker, T.a_Thinker_table, rfl, _, rfl, _, _, _, _, rfl, rfl, h1'.sq, rfl, d, _, rfl, DPut.k (k := .inr y) e1 (smallL (by rw [e2]; have := hC.nl; omega)), ?_⟩
        exact k _ (e3 _) ((K1.mono (by simp)).trans (Keep.at_ (by simp)))
theorem ok_trun {f : Addr} {fd : FuncData} (me : Meth K C_Thinker "run" f) (F : C8.Fun K "run" "Thinker.run" s_Thinker_run f fd) (b : Binds K fd ["self", "block"] []) (T : Txt K mg C_Tape C_Thinker C_Brain C_Mind C_Frame C_Thinking C_Checker C_GameError C_BadCode T_EVENTS T_SIGNS T_ROUND_NAMES T_BRAIN_NAMES T_EFFECTS) {n k : Nat} (c_Thinker_unit : C8.Met P w K mg base k C_Thinker "unit" (sp_tunit C_Thinker C_Tape) [])
    (c_Thinker_step : C8.Met P w K mg base k C_Thinker "step" (sp_tstep K C_Thinker C_Tape n) []) : C8.Met P w K mg base (k + 1) C_Thinker "run" (sp_trun K C_Thinker C_Tape (n + 1)) [] := by
  refine met0 T.cl_Thinker me F b sc_Thinker_run (fun vs H Q E h => ?_) (fun cdv A outer s H vs Q E hr h => ?_)
  · obtain ⟨x, d, st, tp, rx, tx, ns, seen, rs, s, q, b, rfl, _⟩ := h
    rfl
  · obtain ⟨x, d, st, tp, rx, tx, ns, seen, rs, s0, q, b0, rfl, hC, ⟨xs, hq, hT⟩, hok, bd, k⟩ := h
    refine ⟨_, (pss_cons (ps_for PassesOwn.never rfl (pi_tup (pv 1)) (pg_name (i := 2) sc_Thinker_run.nd rfl (by first | exact Or.inl rfl | exact Or.inr rfl))
  (pss_one (ps_if (PW.pt (pw_or (pt_not (pt_truth (pe_mt0 c_Thinker_unit hr (by first | exact Nat.le_refl _ | decide | omega) (pv 0)) (by intro _; rfl))) (pw_or1 (pt_not (pt_truth (pe_mt c_Thinker_step hr (by first | exact Nat.le_refl _ | decide | omega) (pv 0) (pa_cons (pv 2) pa_nil)) (by intro _; rfl))))))
    (pss_one (ps_ret pe_bl))
    pss_nil)))
(pss_one (ps_ret pe_bl))), ?_⟩
    have tkOf : ∀ {H' : Hp}, Keep [x, d, tx] H H' → TK H H' := fun K' => hC.A.tk3 K'
    refine ⟨_, rfl, q, rfl, ⟨_, hq.sq⟩, for_tup (K := K) (a := q) (xs := xs) (fun i σ H' => ∃ (s : MS) (b : Bl) (o : Option V), σ = [some (.ref x), some (.ref q), o] ∧ TC C_Thinker C_Tape H' x d st tp rx tx ns seen rs s ∧ TVs K H b (xs.drop i) ∧ b.Ok ns ∧ b.dep ≤ n ∧ runB seen rs b s = runB seen rs b0 s0 ∧ Keep [x, d, tx] H H')
      ⟨s0, b0, none, rfl, hC, hT, hok, by omega, rfl, Keep.refl _ _⟩ (fun i σ H' _ ⟨_, _, _, _, _, _, _, _, _, K'⟩ => (hq.tk (tkOf K')).sq) ?_ ?_⟩
    · rintro i v σ H1 hv ⟨s, b, o, rfl, C1, hT1, ok1, d1, e1, K1⟩
      obtain ⟨hlt, hget⟩ := List.getElem?_eq_some_iff.mp hv
      rw [List.drop_eq_getElem_cons hlt, hget] at hT1
      cases b with
      | nil => cases hT1
      | cons t b =>
        obtain ⟨v', r', e2, hT2, hT3⟩ := hT1
        cases e2
        obtain ⟨dx, ho⟩ := C1.A.o
        have dt : t.dep ≤ n ∧ b.dep ≤ n := by (have : max t.dep b.dep ≤ n := d1); omega
        have eB : runB seen rs (.cons t b) s = if s.left = 0 then (false, s) else if (runT seen rs t { s with left := s.left - 1 }).1 = false then runT seen rs t { s with left := s.left - 1 } else runB seen rs b (runT seen rs t { s with left := s.left - 1 }).2 := by
          conv => lhs; unfold runB
        refine ⟨_, rfl, x, dx, _, rfl, ho, rfl, x, d, st, tp, rx, tx, ns, seen, rs, s, rfl, C1.A, fun z => ?_, fun z H2 A2 K2 => ?_⟩
        · rw [if_pos z] at eB
          rw [← e1, eB] at k
          exact ⟨_, rfl, iteT (k _ C1.A K1)⟩
        · rw [if_neg z] at eB
          refine ⟨_, rfl, iteF ?_⟩
          have K12 := K1.trans K2
          have okd := C1.ok.dec z
          have C2 : TC C_Thinker C_Tape H2 x d st tp rx tx ns seen rs { s with left := s.left - 1 } := ⟨A2, okd, C1.sk, C1.sl, by (have := C1.bd; show (s.left - 1).toNat + s.tk.length ≤ 90000; omega), C1.nl⟩
          obtain ⟨dx2, ho2⟩ := A2.o
          refine ⟨_, rfl, x, dx2, _, rfl, ho2, rfl, _, rfl, x, d, st, tp, rx, tx, ns, seen, rs, _, v, t, rfl, C2, TV.tk (tkOf K12) t hT2, ok1.1, dt.1, fun H3 A3 K3 => ?_⟩
          have K13 := K12.trans K3
          cases hb : (runT seen rs t { s with left := s.left - 1 }).1 with
          | false =>
            rw [if_pos hb] at eB
            rw [← e1, eB, hb] at k
            exact ⟨_, rfl, iteT (k _ A3 K13)⟩
          | true =>
            rw [if_neg (by rw [hb]; decide)] at eB
            refine ⟨_, rfl, iteF ?_⟩
            have mv := runT_mv (rs := rs) C1.sk t ok1.1 _ okd
            refine ⟨_, b, _, rfl, ⟨A3, mv.ok, C1.sk, C1.sl, ?_, C1.nl⟩, hT3, ok1.2, dt.2, by rw [← e1, eB], K13⟩
            have h1 := mv.k
            have h2 := C1.bd
            have h3 := C1.ok.l
            change _ ≤ (s.left - 1).toNat + s.tk.length + 1 at h1
            omega
    · rintro σ H1 ⟨s, b, o, rfl, C1, hT1, ok1, d1, e1, K1⟩
      rw [List.drop_length] at hT1
      cases b with
      | cons t b => obtain ⟨_, _, e2, _⟩ := hT1; cases e2
      | nil =>
        have eB : runB seen rs .nil s = (true, s) := by unfold runB; rfl
        rw [← e1, eB] at k
        exact k _ C1.A K1
theorem trun_all {fr fs fl : Addr} {dr ds dl : FuncData} (mr : Meth K C_Thinker "run" fr) (Fr : C8.Fun K "run" "Thinker.run" s_Thinker_run fr dr) (br : Binds K dr ["self", "block"] []) (ms : Meth K C_Thinker "step" fs) (Fs : C8.Fun K "step" "Thinker.step" s_Thinker_step fs ds) (bs : Binds K ds ["self", "statement"] [])
    (ml : Meth K C_Thinker "loop" fl) (Fl : C8.Fun K "loop" "Thinker.loop" s_Thinker_loop fl dl) (bl : Binds K dl ["self", "test", "block"] []) (T : Txt K mg C_Tape C_Thinker C_Brain C_Mind C_Frame C_Thinking C_Checker C_GameError C_BadCode T_EVENTS T_SIGNS T_ROUND_NAMES T_BRAIN_NAMES T_EFFECTS) (c1 : C8.Met P w K mg base 14 C_Thinker "value" (sp_tval K C_Thinker C_Tape) []) (c2 : C8.Met P w K mg base 1 C_Thinker "unit" (sp_tunit C_Thinker C_Tape) []) (c3 : C8.Met P w K mg base 1 C_Tape "take" (sp_take C_Tape) []) :
    ∀ n, C8.Met P w K mg base (3 * n + 14) C_Thinker "run" (sp_trun K C_Thinker C_Tape n) []
  | 0 => ok_trun0 mr br T
  | n + 1 => by
    have c := trun_all mr Fr br ms Fs bs ml Fl bl T c1 c2 c3 n
    have cl := ok_tloop ml Fl bl T (metUp c1 (by omega)) (metUp c2 (by omega)) c
    have cs := ok_tstep ms Fs bs T (metUp c1 (by omega)) cl (metUp c (by omega)) (metUp c3 (by omega))
    exact ok_trun mr Fr br T (metUp c2 (by omega)) cs
end

/-! views -/
structure Ev where
  w : Str
  a : Int
  b : Option Int
def evL : List Str := ["round", "told", "move", "did"]
def evI (w : Str) : Nat := if w = "round" then 0 else if w = "told" then 1 else if w = "move" then 2 else 3
theorem evI_at : ∀ w ∈ evL, evL[evI w]? = some w ∧ (∀ m, m < evI w → evL[m]? ≠ some w) ∧ evI w < 4 := by decide +kernel
def evD (e : Ev) : List V := match e.b with
  | none => [.str e.w, .int e.a]
  | some b => [.str e.w, .int e.a, .int b]
structure EvOk (e : Ev) : Prop where
  w : e.w ∈ evL
  a0 : 0 ≤ e.a
  a1 : e.a < 65536
  b : ∀ b, e.b = some b → 0 ≤ b ∧ b < 65536
  m : e.w = "move" → ∃ b, e.b = some b
inductive Evs (H : Hp) : List V → List Ev → Prop
  | nil : Evs H [] []
  | cons {p : Addr} {e : Ev} {vs : List V} {es : List Ev} : H p = some (.tup (evD e)) → Evs H vs es → Evs H (.ref p :: vs) (e :: es)
theorem Evs.tk {H H' : Hp} (k : TK H H') {vs : List V} {l : List Ev} (h : Evs H vs l) : Evs H' vs l := by
  induction h with
  | nil => exact .nil
  | cons h _ ih => exact .cons (k _ _ h) ih
theorem Evs.app {H : Hp} {vs us : List V} {l m : List Ev} (h : Evs H vs l) (g : Evs H us m) : Evs H (vs ++ us) (l ++ m) := by
  induction h with
  | nil => exact g
  | cons h _ ih => exact .cons h ih
theorem Evs.len {H : Hp} {vs : List V} {l : List Ev} (h : Evs H vs l) : vs.length = l.length := by
  induction h with
  | nil => rfl
  | cons _ _ ih => rw [List.length_cons, List.length_cons, ih]
theorem Evs.get {H : Hp} {vs : List V} {l : List Ev} (h : Evs H vs l) : ∀ {i : Nat} {v : V}, vs[i]? = some v → ∃ p e, v = .ref p ∧ l[i]? = some e ∧ H p = some (.tup (evD e)) := by
  induction h with
  | nil => intro i v h; simp at h
  | cons h _ ih =>
    intro i v hv
    cases i with
    | zero => simp at hv; subst hv; exact ⟨_, _, rfl, rfl, h⟩
    | succ i => simpa using ih (by simpa using hv)
def EvsOk (es : List Ev) : Prop := ∀ e ∈ es, EvOk e
def num3 (e : Ev) : List Int := [(evI e.w : Int) + 1, e.a, e.b.getD 0]
def nums (es : List Ev) : List Int := (es.map num3).flatten
theorem nums_snoc (es : List Ev) (e : Ev) : nums (es ++ [e]) = nums es ++ num3 e := by simp [nums]
theorem nums_len : ∀ es : List Ev, (nums es).length = 3 * es.length
  | [] => rfl
  | e :: es => by
    show (num3 e ++ nums es).length = _
    rw [List.length_append, nums_len es, List.length_cons]
    show 3 + _ = _
    omega
theorem nums_ok {es : List Ev} (h : EvsOk es) : SeenOk (nums es) := by
  intro x hx
  obtain ⟨l, h1, h2⟩ := List.mem_flatten.mp hx
  obtain ⟨e, he, rfl⟩ := List.mem_map.mp h1
  have k := h e he
  have h3 := (evI_at _ k.w).2.2
  simp only [num3, List.mem_cons, List.not_mem_nil, or_false] at h2
  rcases h2 with rfl | rfl | rfl
  · omega
  · exact ⟨k.a0, k.a1⟩
  · cases q : e.b with
    | none => exact ⟨Int.le_refl _, by decide⟩
    | some b => exact k.b b q
def sp_views : Sp := fun vs H Q _ => ∃ q xs es, vs = [.ref q] ∧ H q = some (.tup xs) ∧ Evs H xs es ∧ EvsOk es ∧ es.length ≤ 30000 ∧ ∀ t H', H t = none → H' t = some (.tup ((nums es).map V.int)) → Keep [] H H' → Q (.ref t) H'
section
variable {P : Program} {w : World} {K : PySem.W.Frag} {mg : Str → Option Value} {base : Heap} {C_Tape : Addr} {C_Thinker : Addr} {C_Brain : Addr} {C_Mind : Addr} {C_Frame : Addr} {C_Thinking : Addr} {C_Checker : Addr} {C_GameError : Addr} {C_BadCode : Addr} {f_BadCode___init : Addr} {T_EVENTS : Addr} {T_SIGNS : Addr} {T_ROUND_NAMES : Addr} {T_BRAIN_NAMES : Addr} {T_EFFECTS : Addr}
theorem ok_views {f : Addr} {fd : FuncData} (D : C8.Def K mg "view_numbers" s_view_numbers f fd) (b : Binds K fd ["view"] []) (T : Txt K mg C_Tape C_Thinker C_Brain C_Mind C_Frame C_Thinking C_Checker C_GameError C_BadCode T_EVENTS T_SIGNS T_ROUND_NAMES T_BRAIN_NAMES T_EFFECTS) : C8.Cal P w K mg base 1 "view_numbers" sp_views [] := by
  refine cal0 D b .nil sc_view_numbers (fun vs H Q E h => ?_) (fun cdv A outer s H vs Q E hr h => ?_)
  · obtain ⟨q, xs, es, rfl, _⟩ := h
    rfl
  · obtain ⟨q, xs, es, rfl, hq, hE, hok, hlen, k⟩ := h
    refine ⟨_, (pss_cons (ps_set (i := 1) sc_view_numbers.nd rfl (by first | exact Or.inl rfl | exact Or.inr rfl) (pe_lst pa_nil))
(pss_cons (ps_for PassesOwn.never rfl (pi_tup (pv 0)) (pg_name (i := 2) sc_view_numbers.nd rfl (by first | exact Or.inl rfl | exact Or.inr rfl))
  (pss_cons (ps_expr (pe_bm PySem.F.plainAttrs_list PySem.F.slot_list_append PySem.F.type_list_append mt_append (pv 1) (pa_cons (pe_op op_add (pe_bm PySem.F.plainAttrs_tuple PySem.F.slot_tuple_index PySem.F.type_tuple_index mt_tup_index (pe_gc rfl T.v_EVENTS) (pa_cons (pe_ix ix_tup (pv 2) pe_int (fun _ _ => rfl)) pa_nil)) pe_int) pa_nil)))
  (pss_cons (ps_expr (pe_bm PySem.F.plainAttrs_list PySem.F.slot_list_append PySem.F.type_list_append mt_append (pv 1) (pa_cons (pe_ix ix_tup (pv 2) pe_int (fun _ _ => rfl)) pa_nil)))
  (pss_one (ps_expr (pe_bm PySem.F.plainAttrs_list PySem.F.slot_list_append PySem.F.type_list_append mt_append (pv 1) (pa_cons (pe_ifExp (pt_cmpR op_gt (pe_callB call_len_seq (by rfl) T.n_len bo_len (pa_cons (pv 2) pa_nil)) pe_int (nomark _)) (pe_ix ix_tup (pv 2) pe_int (fun _ _ => rfl)) pe_int) pa_nil)))))))
(pss_one (ps_ret (pe_callTy call_tuple_of (by rfl) T.n_tuple bo_tuple (pa_cons (pv 1) pa_nil)))))), ?_⟩
    refine ⟨Nat.zero_le _, fun l nl => ?_⟩
    have hl := hE.len
    refine ⟨_, rfl, q, rfl, ⟨_, SqT.of (Keep.new (W := []) nl _ _ hq (by simp))⟩, for_tup (K := K) (a := q) (xs := xs) (fun i σ H' => ∃ o : Option V, σ = [some (.ref q), some (.ref l), o] ∧ H' l = some (.lst ((nums (es.take i)).map V.int)) ∧ Keep [] H H')
      ⟨none, rfl, upd_same, Keep.new nl⟩ (fun i σ H' _ ⟨_, _, _, K'⟩ => SqT.of (K' _ _ hq (by simp))) ?_ ?_⟩
    · rintro i v σ H1 hv ⟨o, rfl, h1, K1⟩
      obtain ⟨p, e, rfl, hg, he⟩ := hE.get hv
      obtain ⟨hlt, hget⟩ := List.getElem?_eq_some_iff.mp hg
      have hee := hok e (hget ▸ List.getElem_mem hlt)
      have hi := evI_at _ hee.w
      have ll := nums_len (es.take i)
      rw [List.length_take] at ll
      have he1 := K1 _ _ he (by simp)
      have npl : p ≠ l := ne_of_none he nl
      obtain ⟨w0, a0, b0⟩ := e
      have hs0 : (evD ⟨w0, a0, b0⟩)[0]? = some (.str w0) := by cases b0 <;> rfl
      have hs1 : (evD ⟨w0, a0, b0⟩)[1]? = some (.int a0) := by cases b0 <;> rfl
      refine ⟨_, rfl, .inl ⟨rfl, _, SqL.of h1⟩, .inr (.inl ⟨rfl, T.d_EVENTS⟩), _, rfl, _, _, _, _, rfl, rfl, SqT.of he1, atI_nat (j := 0) hs0, _, evL, _, _, rfl, rfl, T.q_EVENTS _, hi.1, hi.2.1, _, _, rfl, rfl, ?_⟩
      refine ⟨_, _, _, rfl, rfl, h1, by rw [List.length_map]; exact smallL (by omega), ?_⟩
      have he2 : upd H1 l (.lst ((nums (es.take i)).map V.int ++ [.int ((evI w0 : Int) + 1)])) p = some (.tup (evD ⟨w0, a0, b0⟩)) := by rw [upd_ne npl]; exact he1
      refine ⟨_, rfl, .inl ⟨rfl, _, SqL.of upd_same⟩, _, rfl, _, _, _, _, rfl, rfl, SqT.of he2, atI_nat (j := 1) hs1, ?_⟩
      refine ⟨_, _, _, rfl, rfl, upd_same, by rw [List.length_append, List.length_map]; exact smallL (by simp; omega), ?_⟩
      have he3 : upd (upd H1 l (.lst ((nums (es.take i)).map V.int ++ [.int ((evI w0 : Int) + 1)]))) l (.lst ((nums (es.take i)).map V.int ++ [.int ((evI w0 : Int) + 1)] ++ [.int a0])) p = some (.tup (evD ⟨w0, a0, b0⟩)) := by rw [upd_ne npl]; exact he2
      refine ⟨_, rfl, .inl ⟨rfl, _, SqL.of upd_same⟩, _, rfl, _, _, rfl, .inr (SqT.of he3), _, _, rfl, rfl, ?_⟩
      have fin : ∀ z : Int, z = b0.getD 0 → ∀ {H9 : Hp}, H9 l = some (.lst (((nums (es.take i)).map V.int ++ [.int ((evI w0 : Int) + 1)] ++ [.int a0]) ++ [.int z])) → H9 l = some (.lst ((nums (es.take (i + 1))).map V.int)) := by
        intro z hz H9 h9
        rw [h9, List.take_succ_eq_append_getElem hlt, hget, nums_snoc, List.map_append, hz]
        simp [num3]
      have kf : ∀ z : Int, Keep [] H (upd (upd (upd H1 l (.lst ((nums (es.take i)).map V.int ++ [.int ((evI w0 : Int) + 1)]))) l (.lst ((nums (es.take i)).map V.int ++ [.int ((evI w0 : Int) + 1)] ++ [.int a0]))) l (.lst (((nums (es.take i)).map V.int ++ [.int ((evI w0 : Int) + 1)] ++ [.int a0]) ++ [.int z]))) := fun z => ((K1.then_own nl).then_own nl).then_own nl
      have sz : ((nums (es.take i)).map V.int ++ [V.int ((evI w0 : Int) + 1)] ++ [V.int a0]).length < sizeLine := by
        rw [List.length_append, List.length_append, List.length_map]; exact smallL (by simp; omega)
      cases b0 with
      | none =>
        refine ⟨_, rfl, iteDF (by show ¬ ((2 : Nat) : Int) > 2; omega) ?_⟩
        exact ⟨_, _, _, rfl, rfl, upd_same, sz, _, rfl, fin 0 rfl upd_same, kf 0⟩
      | some b =>
        refine ⟨_, rfl, iteDT (by show ((3 : Nat) : Int) > 2; omega) ?_⟩
        exact ⟨_, rfl, _, _, _, _, rfl, rfl, SqT.of he3, rfl, _, _, _, rfl, rfl, upd_same, sz, _, rfl, fin b rfl upd_same, kf b⟩
    · rintro σ H1 ⟨o, rfl, h1, K1⟩
      rw [hl, List.take_length] at h1
      exact ⟨_, rfl, _, _, rfl, .inl ⟨SqL.of h1, fun t nt => k t _ (K1.free nt) upd_same (K1.then_new nt)⟩⟩
end

/-! views that are drawn -/
def VL (H : Hp) (l : Addr) (es : List Ev) : Prop := ∃ vs, H l = some (.lst vs) ∧ Evs H vs es
theorem VL.keep {H H' : Hp} {l : Addr} {es : List Ev} {W : List Addr} (h : VL H l es) (k : Keep W H H') (t : TK H H') (w : l ∉ W) : VL H' l es := by
  obtain ⟨vs, h1, h2⟩ := h
  exact ⟨vs, k _ _ h1 w, h2.tk t⟩
theorem VL.push {H : Hp} {l t : Addr} {es : List Ev} (h : VL H l es) (e : Ev) (nt : H t = none) : ∃ vs, upd H t (.tup (evD e)) l = some (.lst vs) ∧ vs.length = es.length ∧ VL (upd (upd H t (.tup (evD e))) l (.lst (vs ++ [.ref t]))) l (es ++ [e]) := by
  obtain ⟨vs, h1, h2⟩ := h
  have k1 : Keep [] H (upd H t (.tup (evD e))) := Keep.new nt
  have h1' := k1 _ _ h1 (by simp)
  have ne : t ≠ l := (ne_of_none h1 nt).symm
  refine ⟨vs, h1', h2.len, _, upd_same, (h2.tk (k1.tk.trans (TK.lst h1'))).app (.cons (by rw [upd_ne ne]; exact upd_same) .nil)⟩
theorem VL.cat {H : Hp} {l u r : Addr} {es fs : List Ev} {vs us : List V} (h1 : Evs H vs es) (h2 : Evs H us fs) (nr : H r = none) : VL (upd H r (.lst (vs ++ us))) r (es ++ fs) := ⟨_, upd_same, (h1.app h2).tk (TK.new nr)⟩
theorem EvsOk.app {es fs : List Ev} (h : EvsOk es) (g : EvsOk fs) : EvsOk (es ++ fs) := fun e he => (List.mem_append.mp he).elim (h e) (g e)
theorem evok (w : Str) (a : Int) (b : Option Int) (hw : w ∈ evL) (a0 : 0 ≤ a) (a1 : a < 65536) (hb : ∀ c, b = some c → 0 ≤ c ∧ c < 65536) (hm : w = "move" → ∃ c, b = some c) : EvsOk [⟨w, a, b⟩] := fun e he => by
  rw [List.mem_singleton] at he
  subst he
  exact ⟨hw, a0, a1, hb, hm⟩
theorem evok2 {w : Str} {a : Int} (hw : w ∈ evL) (nm : w ≠ "move") (a0 : 0 ≤ a) (a1 : a < 65536) : EvsOk [⟨w, a, none⟩] := evok w a none hw a0 a1 (fun _ h => by cases h) (fun h => absurd h nm)
theorem evok3 {w : Str} {a b : Int} (hw : w ∈ evL) (a0 : 0 ≤ a) (a1 : a < 65536) (b0 : 0 ≤ b) (b1 : b < 65536) : EvsOk [⟨w, a, some b⟩] := evok w a (some b) hw a0 a1 (fun _ h => by cases h; exact ⟨b0, b1⟩) (fun _ => ⟨b, rfl⟩)
def sp_view : Sp := fun vs H Q _ => ∃ p q ns bud, vs = [.ref p] ∧ Pool H p q ns bud ∧ ∀ t xs es H', H t = none → H' t = some (.tup xs) → Evs H' xs es → EvsOk es → es ≠ [] → es.length ≤ 200 → Pool H' p q ns bud → Keep [p] H H' → Q (.ref t) H'
def sp_count : Sp := fun vs H Q _ => ∃ p q ns bud t xs es, vs = [.ref p, .ref t] ∧ Pool H p q ns bud ∧ H t = some (.tup xs) ∧ t ≠ p ∧ Evs H xs es ∧ EvsOk es ∧ es ≠ [] ∧ ∀ c H', Pool H' p q ns bud → Keep [p] H H' → Q (.int c) H'
def sp_results : Sp := fun vs H Q _ => ∃ p q ns bud m, vs = [.ref p, .int m] ∧ 0 ≤ m ∧ m ≤ 1000 ∧ Pool H p q ns bud ∧ ∀ l (rs : List Int) H', H l = none → H' l = some (.lst (rs.map V.int)) → rs.length ≤ m.toNat → Pool H' p q ns bud → Keep [p] H H' → Q (.ref l) H'
/-! a brain's cells -/
inductive RL (H : Hp) : List V → List Str → List Int → Prop
  | nil : RL H [] [] []
  | cons {p : Addr} {n : Str} {c : Int} {vs : List V} {ns : List Str} {cs : List Int} : H p = some (.tup [.str n, .int c]) → RL H vs ns cs → RL H (.ref p :: vs) (n :: ns) (c :: cs)
theorem RL.tk {H H' : Hp} (k : TK H H') {vs : List V} {ns : List Str} {cs : List Int} (h : RL H vs ns cs) : RL H' vs ns cs := by
  induction h with
  | nil => exact .nil
  | cons h _ ih => exact .cons (k _ _ h) ih
theorem RL.snoc {H : Hp} {vs : List V} {ns : List Str} {cs : List Int} {p : Addr} {n : Str} {c : Int} (h : RL H vs ns cs) (hp : H p = some (.tup [.str n, .int c])) : RL H (vs ++ [.ref p]) (ns ++ [n]) (cs ++ [c]) := by
  induction h with
  | nil => exact .cons hp .nil
  | cons h _ ih => exact .cons h ih
theorem RL.len {H : Hp} {vs : List V} {ns : List Str} {cs : List Int} (h : RL H vs ns cs) : vs.length = ns.length ∧ cs.length = ns.length := by
  induction h with
  | nil => exact ⟨rfl, rfl⟩
  | cons _ _ ih => exact ⟨by rw [List.length_cons, List.length_cons, ih.1], by rw [List.length_cons, List.length_cons, ih.2]⟩
theorem RL.get {H : Hp} {vs : List V} {ns : List Str} {cs : List Int} (h : RL H vs ns cs) : ∀ {i : Nat} {v : V}, vs[i]? = some v → ∃ p n c, v = .ref p ∧ ns[i]? = some n ∧ cs[i]? = some c ∧ H p = some (.tup [.str n, .int c]) := by
  induction h with
  | nil => intro i v h; simp at h
  | cons h _ ih =>
    intro i v hv
    cases i with
    | zero => simp at hv; subst hv; exact ⟨_, _, _, rfl, rfl, rfl, h⟩
    | succ i => simpa using ih (by simpa using hv)
structure Bd (K : PySem.W.Frag) (H : Hp) (ce bk : Addr) (an : V) (ns : List Str) (cs : List Int) (b : Bl) (e : Ex) : Prop where
  ce : ∃ xs, H ce = some (.tup xs) ∧ RL H xs ns cs
  bk : BV K H b bk
  an : EV K H an e
theorem Bd.tk {K : PySem.W.Frag} {H H' : Hp} {ce bk : Addr} {an : V} {ns : List Str} {cs : List Int} {b : Bl} {e : Ex} (h : Bd K H ce bk an ns cs b e) (k : TK H H') : Bd K H' ce bk an ns cs b e := by
  obtain ⟨xs, h1, h2⟩ := h.ce
  exact ⟨⟨xs, k _ _ h1, h2.tk k⟩, h.bk.tk k, h.an.tk k⟩
structure BdOk (ns : List Str) (b : Bl) (e : Ex) : Prop where
  nd : ns.Nodup
  nl : ns.length ≤ 8
  bo : b.Ok ns
  d : b.dep ≤ 8
  e : ExOk ns e
  sm : b.Sm
  ln : b.len ≤ 5
def sp_brain (K : PySem.W.Frag) : Sp := fun vs H Q _ => ∃ (p q : Addr) (ps : List Int) (bud u : Int) (lp : Bool), vs = [.ref p, .int u, .bl lp] ∧ Pool H p q ps bud ∧ ∀ t ce bk an ns cs b e H', H t = none → H' t = some (.tup [.int u, .ref ce, .ref bk, an]) → Bd K H' ce bk an ns cs b e → BdOk ns b e → Pool H' p q ps bud → Keep [p] H H' → Q (.ref t) H'
section
variable {P : Program} {w : World} {K : PySem.W.Frag} {mg : Str → Option Value} {base : Heap} {C_Tape : Addr} {C_Thinker : Addr} {C_Brain : Addr} {C_Mind : Addr} {C_Frame : Addr} {C_Thinking : Addr} {C_Checker : Addr} {C_GameError : Addr} {C_BadCode : Addr} {f_BadCode___init : Addr} {T_EVENTS : Addr} {T_SIGNS : Addr} {T_ROUND_NAMES : Addr} {T_BRAIN_NAMES : Addr} {T_EFFECTS : Addr}
theorem ok_count {f : Addr} {fd : FuncData} (D : C8.Def K mg "_law_count" s_law_count f fd) (b : Binds K fd ["pool", "view"] []) (T : Txt K mg C_Tape C_Thinker C_Brain C_Mind C_Frame C_Thinking C_Checker C_GameError C_BadCode T_EVENTS T_SIGNS T_ROUND_NAMES T_BRAIN_NAMES T_EFFECTS) (c_law_draw : C8.Cal P w K mg base 1 "_law_draw" sp_law_draw []) : C8.Cal P w K mg base 2 "_law_count" sp_count [] := by
  refine cal0 D b .nil sc_law_count (fun vs H Q E h => ?_) (fun cdv A outer s H vs Q E hr h => ?_)
  · obtain ⟨p, q, ns, bud, t, xs, es, rfl, _⟩ := h
    rfl
  · obtain ⟨p, q, ns, bud, t, xs, es, rfl, hP, ht, ntp, hE, hok, hne, k⟩ := h
    refine ⟨_, (pss_cons (ps_set (i := 2) sc_law_count.nd rfl (by first | exact Or.inl rfl | exact Or.inr rfl) (pe_op op_add pe_int (pe_c c_law_draw hr (by first | exact Nat.le_refl _ | decide | omega) rfl (pa_cons (pv 0) (pa_cons pe_int pa_nil)))))
(pss_cons (ps_if (pt_cmpR op_eq (pe_ix ix_tup (pe_ix ix_tup (pv 1) (pe_un un_neg pe_int) (fun _ _ => rfl)) pe_int (fun _ _ => rfl)) pe_str (nomark _))
  (pss_one (ps_ret (pe_ix ix_tup (pe_ix ix_tup (pv 1) (pe_un un_neg pe_int) (fun _ _ => rfl)) pe_int (fun _ _ => rfl))))
  pss_nil)
(pss_one (ps_ret (pv 2))))), ?_⟩
    refine ⟨_, rfl, p, q, ns, bud, 8, rfl, by decide, by decide, hP, fun r H1 _ _ P1 K1 => ⟨_, _, rfl, rfl, ?_⟩⟩
    have E1 := hE.tk (hP.tkb K1)
    have ht1 := K1 _ _ ht (by simpa using ntp)
    have hlen := E1.len
    have hpos : 0 < xs.length := by rw [hlen]; exact List.length_pos_iff.mpr hne
    obtain ⟨a, e, hx, hg, ha⟩ := E1.get (i := xs.length - 1) (v := xs[xs.length - 1]'(by omega)) (List.getElem?_eq_getElem _)
    have hlast : atI xs (-1) = some (.ref a) := by
      have e1 : xs = xs.dropLast ++ [xs.getLast (by intro z; rw [z] at hpos; simp at hpos)] := (List.dropLast_concat_getLast _).symm
      rw [e1, atI_last, List.getLast_eq_getElem, hx]
    obtain ⟨hlt, hge⟩ := List.getElem?_eq_some_iff.mp hg
    have hee := hok e (hge ▸ List.getElem_mem hlt)
    have hs0 : (evD e)[0]? = some (.str e.w) := by unfold evD; split <;> rfl
    refine ⟨_, rfl, _, rfl, _, _, _, _, rfl, rfl, SqT.of ht1, hlast, _, _, _, _, rfl, rfl, SqT.of ha, atI_nat (j := 0) hs0, rfl, _, rfl, iteD (fun h => ?_) (fun h => ?_)⟩
    · obtain ⟨c, hc⟩ := hee.m (V.str.inj h)
      have hs2 : (evD e)[2]? = some (.int c) := by unfold evD; rw [hc]; rfl
      exact ⟨_, rfl, _, rfl, _, _, _, _, rfl, rfl, SqT.of ht1, hlast, _, _, _, _, rfl, rfl, SqT.of ha, atI_nat (j := 2) hs2, k c _ P1 K1⟩
    · exact ⟨_, rfl, k _ _ P1 K1⟩
end

/-! dicts that are filled name by name -/
def Fill (H : Hp) (d : Addr) (ys : List Str) (i : Nat) (f : Str → V) : Prop := ∃ kvs : List (Key × V), H d = some (.dK kvs) ∧ kvs.length = i ∧ ∀ x, valV kvs (.inr x) = if x ∈ ys.take i then some (f x) else none
theorem fill0 {H : Hp} {d : Addr} {ys : List Str} {f : Str → V} (h : H d = some (.dK [])) : Fill H d ys 0 f := ⟨[], h, rfl, fun x => by simp [valV_nil]⟩
theorem Fill.keep {H H' : Hp} {W : List Addr} {d : Addr} {ys : List Str} {i : Nat} {f : Str → V} (h : Fill H d ys i f) (k : Keep W H H') (w : d ∉ W) : Fill H' d ys i f := by
  obtain ⟨kvs, e, l, v⟩ := h
  exact ⟨kvs, k _ _ e w, l, v⟩
theorem nodup_take {ys : List Str} (h : ys.Nodup) {i : Nat} {z : Str} (e : ys.take (i + 1) = ys.take i ++ [z]) : z ∉ ys.take i := by
  have h2 : (ys.take (i + 1)).Nodup := h.sublist (List.take_sublist _ _)
  rw [e, List.nodup_append] at h2
  exact fun q => h2.2.2 z q z (by simp) rfl
theorem Fill.step {H : Hp} {d : Addr} {ys : List Str} {i : Nat} {f : Str → V} (h : Fill H d ys i f) (nd : ys.Nodup) {z : Str} (e : ys.take (i + 1) = ys.take i ++ [z]) : ∃ kvs : List (Key × V), H d = some (.dK kvs) ∧ kvs.length = i ∧
    ∀ (H' : Hp), H' d = some (.dK (putK kvs (.inr z) (f z))) → Fill H' d ys (i + 1) f := by
  obtain ⟨kvs, hd, hl, hv⟩ := h
  have hnt := nodup_take nd e
  refine ⟨kvs, hd, hl, fun H' h' => ⟨_, h', ?_, fun x => ?_⟩⟩
  · rw [putK_new _ (by rw [hv z, if_neg hnt]), List.length_append, hl]; rfl
  · rw [valV_put]
    by_cases q : x = z
    · subst q
      rw [if_pos rfl, if_pos (by rw [e]; simp)]
    · rw [if_neg (fun w => q (Sum.inr.inj w)), hv x, e]
      by_cases e2 : x ∈ ys.take i
      · rw [if_pos e2, if_pos (List.mem_append_left _ e2)]
      · rw [if_neg e2, if_neg (by rw [List.mem_append, List.mem_singleton]; rintro (w | w) <;> contradiction)]
theorem Fill.full {H : Hp} {d : Addr} {ys : List Str} {n : Nat} {f : Str → V} (h : Fill H d ys n f) (e : n = ys.length) : Full H d ys f := by
  subst e
  obtain ⟨kvs, a, b, c⟩ := h
  exact ⟨kvs, a, b, fun x => by rw [c x, List.take_length]⟩
theorem Full.get {H : Hp} {d : Addr} {ys : List Str} {f : Str → V} (h : Full H d ys f) {x : Str} (hx : x ∈ ys) : DGet H d (.str x) (some (f x)) := by
  obtain ⟨kvs, e, _, v⟩ := h
  have := v x
  rw [if_pos hx] at this
  rw [← this]
  exact DGet.k (k := .inr x) e
def tbOf : List Str → List Int → Str → Int
  | n :: ns, c :: cs, y => if y = n then c else tbOf ns cs y
  | _, _, _ => 0
theorem tbOf_at : ∀ {ns : List Str} {cs : List Int}, ns.Nodup → ∀ {i : Nat} {n : Str} {c : Int}, ns[i]? = some n → cs[i]? = some c → tbOf ns cs n = c
  | [], _, _, i, n, c, h, _ => by simp at h
  | _ :: _, [], _, i, n, c, _, h => by simp at h
  | a :: ns, b :: cs, nd, 0, n, c, h1, h2 => by
    simp at h1 h2
    subst h1 h2
    show (if a = a then b else _) = b
    rw [if_pos rfl]
  | a :: ns, b :: cs, nd, i + 1, n, c, h1, h2 => by
    have hm : n ∈ ns := List.mem_of_getElem? (by simpa using h1)
    have hne : n ≠ a := fun z => (List.nodup_cons.mp nd).1 (z ▸ hm)
    show (if n = a then b else tbOf ns cs n) = c
    rw [if_neg hne]
    exact tbOf_at (List.nodup_cons.mp nd).2 (by simpa using h1) (by simpa using h2)
def CsOk (cs : List Int) : Prop := ∀ c ∈ cs, 0 ≤ c ∧ c < 65536
theorem tbOf_ok : ∀ {ns : List Str} {cs : List Int}, CsOk cs → ∀ y, 0 ≤ tbOf ns cs y ∧ tbOf ns cs y < 65536
  | [], _, _, y => by unfold tbOf; exact ⟨by decide, by decide⟩
  | _ :: _, [], _, y => by unfold tbOf; exact ⟨by decide, by decide⟩
  | a :: ns, b :: cs, h, y => by
    unfold tbOf
    split
    · exact h b (List.mem_cons_self ..)
    · exact tbOf_ok (fun c hc => h c (List.mem_cons_of_mem _ hc)) y
/-! brains, thinkers -/
def BrA (C : Addr) (H : Hp) (B : Addr) (u : Int) (ce bk : Addr) (an : V) : Prop := ∃ dx, H B = some (.ins C dx [("units", .int u), ("cells", .ref ce), ("block", .ref bk), ("answer", an)])
def sp_brinit (K : PySem.W.Frag) (C : Addr) : Sp := fun vs H Q _ => ∃ (x dx : Addr) (u : Int) (ce bk : Addr) (an : V) (xs ys : List V), vs = [.ref x, .int u, .ref ce, .ref bk, an] ∧ H x = some (.ins C dx []) ∧ H ce = some (.tup xs) ∧ At K H bk ys ∧ ∀ H', Keep [x] H H' → BrA C H' x u ce bk an → Q .non H'
def sp_thinit (K : PySem.W.Frag) (C CB : Addr) : Sp := fun vs H Q _ => ∃ (x dx B : Addr) (u : Int) (ce bk ca : Addr) (an st tp : V) (xs : List V) (ns : List Str) (ks cs : List Int), vs = [.ref x, .ref B, .ref ca, st, tp] ∧ H x = some (.ins C dx []) ∧ BrA CB H B u ce bk an ∧ B ≠ x ∧
  H ce = some (.tup xs) ∧ RL H xs ns ks ∧ H ca = some (.tup (cs.map V.int)) ∧ cs.length = ns.length ∧ ns.Nodup ∧ ns.length ≤ 1000 ∧
  ∀ d H', H d = none → Keep [x] H H' → H' x = some (.ins C dx [("table", .ref d), ("left", .int u), ("seen", st), ("tape", tp)]) → Full H' d ns (fun y => .int (tbOf ns cs y)) → Q .non H'
section
variable {P : Program} {w : World} {K : PySem.W.Frag} {mg : Str → Option Value} {base : Heap} {C_Tape : Addr} {C_Thinker : Addr} {C_Brain : Addr} {C_Mind : Addr} {C_Frame : Addr} {C_Thinking : Addr} {C_Checker : Addr} {C_GameError : Addr} {C_BadCode : Addr} {f_BadCode___init : Addr} {T_EVENTS : Addr} {T_SIGNS : Addr} {T_ROUND_NAMES : Addr} {T_BRAIN_NAMES : Addr} {T_EFFECTS : Addr}
theorem ok_brinit {f : Addr} {fd : FuncData} (M : Mk K C_Brain f) (F : C8.Fun K "__init__" "Brain.__init__" s_Brain___init f fd) (b : Binds K fd ["self", "units", "cells", "block", "answer"] []) (T : Txt K mg C_Tape C_Thinker C_Brain C_Mind C_Frame C_Thinking C_Checker C_GameError C_BadCode T_EVENTS T_SIGNS T_ROUND_NAMES T_BRAIN_NAMES T_EFFECTS) : C8.Mak P w K mg base 1 "Brain" C_Brain (sp_brinit K C_Brain) [] := by
  refine mak0 M T.m_Brain F b .nil sc_Brain___init (fun vs H Q E h => ?_) (fun cdv A outer s H vs Q E hr h => ?_)
  · obtain ⟨x, dx, u, ce, bk, an, xs, ys, rfl, _⟩ := h
    rfl
  · obtain ⟨x, dx, u, ce, bk, an, xs, ys, rfl, hx, hce, hbk, k⟩ := h
    refine ⟨_, (pss_cons (ps_fld (pv 0) (pv 1) rfl)
(pss_cons (ps_fld (pv 0) (pe_callTy call_tuple_of (by rfl) T.n_tuple bo_tuple (pa_cons (pv 2) pa_nil)) rfl)
(pss_cons (ps_fld (pv 0) (pe_callTy call_tuple_of (by rfl) T.n_tuple bo_tuple (pa_cons (pv 3) pa_nil)) rfl)
(pss_one (ps_fld (pv 0) (pv 4) rfl))))), ?_⟩
    have mx : x ∈ [x] := List.mem_singleton.mpr rfl
    have tku : ∀ {H1 : Hp} {fs gs : List (Str × V)}, H1 x = some (.ins C_Brain dx fs) → TK H1 (upd H1 x (.ins C_Brain dx gs)) := fun h b zs q => by rw [upd_ne (ne_of q h (by intro z; cases z))]; exact q
    refine ⟨_, rfl, _, rfl, x, C_Brain, dx, [], rfl, hx, T.cl_Brain, T.a_Brain_units, by show 0 < 1000; decide, ?_⟩
    have t1 := tku (gs := [("units", V.int u)]) hx
    refine ⟨_, rfl, _, _, rfl, .inr ⟨(SqT.of (t1 _ _ hce)), _, rfl, x, C_Brain, dx, _, rfl, upd_same, T.cl_Brain, T.a_Brain_cells, by show 1 < 1000; decide, ?_⟩⟩
    have t2 : TK H (upd (upd H x (.ins C_Brain dx [("units", .int u)])) x (.ins C_Brain dx [("units", .int u), ("cells", .ref ce)])) := t1.trans (tku upd_same)
    refine ⟨_, rfl, _, _, rfl, .inr ⟨(hbk.tk t2).sq, _, rfl, x, C_Brain, dx, _, rfl, upd_same, T.cl_Brain, T.a_Brain_block, by show 2 < 1000; decide, ?_⟩⟩
    refine ⟨_, rfl, _, rfl, x, C_Brain, dx, _, rfl, upd_same, T.cl_Brain, T.a_Brain_answer, by show 3 < 1000; decide, ?_⟩
    exact k _ ((((Keep.at_ mx).then_at mx).then_at mx).then_at mx) ⟨dx, upd_same⟩
theorem ok_thinit {f : Addr} {fd : FuncData} (M : Mk K C_Thinker f) (F : C8.Fun K "__init__" "Thinker.__init__" s_Thinker___init f fd) (b : Binds K fd ["self", "brain", "cells", "seen", "tape"] []) (T : Txt K mg C_Tape C_Thinker C_Brain C_Mind C_Frame C_Thinking C_Checker C_GameError C_BadCode T_EVENTS T_SIGNS T_ROUND_NAMES T_BRAIN_NAMES T_EFFECTS) : C8.Mak P w K mg base 1 "Thinker" C_Thinker (sp_thinit K C_Thinker C_Brain) [] := by
  refine mak0 M T.m_Thinker F b .nil sc_Thinker___init (fun vs H Q E h => ?_) (fun cdv A outer s H vs Q E hr h => ?_)
  · obtain ⟨x, dx, B, u, ce, bk, ca, an, st, tp, xs, ns, ks, cs, rfl, _⟩ := h
    rfl
  · obtain ⟨x, dx, B, u, ce, bk, ca, an, st, tp, xs, ns, ks, cs, rfl, hx, ⟨dB, oB⟩, nBx, hce, hR, hca, hcl, nd, hnl, k⟩ := h
    have hu := hu_of hr
    refine ⟨_, (pss_cons (ps_fld (pv 0) pe_dnewK rfl)
(pss_cons (ps_for PassesOwn.never rfl (RZ.pi_zipA (by rfl) T.n_zip (pa_cons (pe_fld (pv 1) rfl) (pa_cons (pv 2) pa_nil))) (pg_tup (by rfl) (pgs_cons (pg_name (i := 5) sc_Thinker___init.nd rfl (by first | exact Or.inl rfl | exact Or.inr rfl)) (pgs_cons (pg_name (i := 6) sc_Thinker___init.nd rfl (by first | exact Or.inl rfl | exact Or.inr rfl)) pgs_nil)))
  (pss_one (ps_dput hu (pe_fld (pv 0) rfl) (pe_ix ix_tup (pv 5) pe_int (fun _ _ => rfl)) (pv 6) (by rfl))))
(pss_cons (ps_fld (pv 0) (pe_fld (pv 1) rfl) rfl)
(pss_cons (ps_fld (pv 0) (pv 3) rfl)
(pss_one (ps_fld (pv 0) (pv 4) rfl)))))), ?_⟩
    have mx : x ∈ [x] := List.mem_singleton.mpr rfl
    refine fun d nd0 => ⟨_, rfl, x, C_Thinker, dx, [], rfl, by rw [upd_ne (ne_of_none hx nd0)]; exact hx, T.cl_Thinker, T.a_Thinker_table, by show 0 < 1000; decide, ?_⟩
    have exd : x ≠ d := ne_of_none hx nd0
    have k0 : Keep [x] H (upd (upd H d (.dK [])) x (.ins C_Thinker dx [("table", .ref d)])) := (Keep.new nd0).then_at mx
    have ncx : ce ≠ x := ne_of hce hx (by intro z; cases z)
    have nax : ca ≠ x := ne_of hca hx (by intro z; cases z)
    have hrl := hR.len
    have cok : ∀ {H1 : Hp}, Keep [x, d] H H1 → SqT K H1 ce xs ∧ SqT K H1 ca (cs.map V.int) := fun k1 =>
      ⟨SqT.of (k1 _ _ hce (by simp [ncx, ne_of_none hce nd0])), SqT.of (k1 _ _ hca (by simp [nax, ne_of_none hca nd0]))⟩
    have k0' : Keep [x, d] H (upd (upd H d (.dK [])) x (.ins C_Thinker dx [("table", .ref d)])) := k0.mono (by simp)
    have oB1 := k0 _ _ oB (by simpa using nBx)
    refine ⟨_, rfl, B, C_Brain, dB, _, _, rfl, oB1, T.cl_Brain, T.a_Brain_cells, rfl, _, rfl, ce, ca, xs, cs.map V.int, rfl, .inr ⟨(cok k0').1, (cok k0').2, ?_⟩⟩
    refine RZ.for_zipT (K := K) (by rw [List.length_map]; omega) (fun i σ H' => (∃ o5 o6 : Option V, σ = [some (.ref x), some (.ref B), some (.ref ca), some st, some tp, o5, o6]) ∧ Fill H' d ns i (fun y => .int (tbOf ns cs y)) ∧ Keep [x, d] H H' ∧ H' x = some (.ins C_Thinker dx [("table", .ref d)]))
      ⟨⟨none, none, rfl⟩, fill0 (by rw [upd_ne exd.symm]; exact upd_same), k0', upd_same⟩ (fun i σ H' ⟨_, _, k1, _⟩ => cok k1) ?_ ?_
    · rintro i v z Tt σ H1 hv hz ⟨⟨o5, o6, rfl⟩, hF, K1, ox⟩ nT
      obtain ⟨p, n, c0, rfl, hn, _, hp⟩ := hR.get hv
      obtain ⟨c, hc, rfl⟩ := ints_get hz
      obtain ⟨hlt, he⟩ := List.getElem?_eq_some_iff.mp hn
      have kT : Keep [] H1 (upd H1 Tt (.tup [.ref p, .int c])) := Keep.new nT
      have hp1 := kT _ _ (K1 _ _ hp (by simp [ne_of hp hx (by intro z; cases z), ne_of_none hp nd0])) (by simp)
      have et : ns.take (i + 1) = ns.take i ++ [n] := by rw [List.take_succ_eq_append_getElem hlt, he]
      obtain ⟨kvs, g1, g2, g3⟩ := (hF.keep kT (by simp)).step nd et
      have hval : tbOf ns cs n = c := tbOf_at nd hn hc
      have ox1 := kT _ _ ox (by simp)
      refine ⟨Tt, _, rfl, SqT.of upd_same, rfl, _, _, rfl, _, _, rfl, rfl, ?_⟩
      refine ⟨_, rfl, _, rfl, x, C_Thinker, dx, _, _, rfl, ox1, T.cl_Thinker, T.a_Thinker_table, rfl, _, rfl, _, _, _, _, rfl, rfl, SqT.of hp1, rfl, d, _, rfl, DPut.k (k := .inr n) g1 (smallL (by rw [g2]; omega)), ?_⟩
      refine ⟨⟨_, _, rfl⟩, g3 _ (by rw [hval]; exact upd_same), ((K1.trans (kT.mono (by simp))).then_at (by simp)), by rw [upd_ne exd]; exact ox1⟩
    · rintro σ H1 ⟨⟨o5, o6, rfl⟩, hF, K1, ox⟩
      have hFull := hF.full hrl.1
      have oB2 := K1 _ _ oB (by simp [nBx, ne_of_none oB nd0])
      refine ⟨_, rfl, B, C_Brain, dB, _, _, rfl, oB2, T.cl_Brain, T.a_Brain_units, rfl, _, rfl, x, C_Thinker, dx, _, rfl, ox, T.cl_Thinker, T.a_Thinker_left, by show 1 < 1000; decide, ?_⟩
      refine ⟨_, rfl, _, rfl, x, C_Thinker, dx, _, rfl, upd_same, T.cl_Thinker, T.a_Thinker_seen, by show 2 < 1000; decide, ?_⟩
      refine ⟨_, rfl, _, rfl, x, C_Thinker, dx, _, rfl, upd_same, T.cl_Thinker, T.a_Thinker_tape, by show 3 < 1000; decide, ?_⟩
      have kk : Keep [x, d] H _ := ((K1.then_at (o := .ins C_Thinker dx [("table", .ref d), ("left", .int u)]) (by simp : x ∈ [x, d])).then_at (o := .ins C_Thinker dx [("table", .ref d), ("left", .int u), ("seen", st)]) (by simp : x ∈ [x, d])).then_at (o := .ins C_Thinker dx [("table", .ref d), ("left", .int u), ("seen", st), ("tape", tp)]) (by simp : x ∈ [x, d])
      refine k d _ nd0 (fun a o h w => kk a o h (by simp at w; simp [w, ne_of_none h nd0])) upd_same ?_
      obtain ⟨kvs, a, b, c⟩ := hFull
      exact ⟨kvs, by rw [upd_ne exd.symm, upd_ne exd.symm, upd_ne exd.symm]; exact a, b, c⟩
end

def thk (ns : List Str) (cs : List Int) (b : Bl) (e : Ex) (count : Int) (seen rs : List Int) (u : Int) (tk : List (Int × Int)) : Int × List Int × List (Int × Int) :=
  if (runB seen rs b ⟨u, tbOf ns cs, tk⟩).1 = false then (0, cs, (runB seen rs b ⟨u, tbOf ns cs, tk⟩).2.tk)
  else (if (runB seen rs b ⟨u, tbOf ns cs, tk⟩).2.ev seen e ≥ count then 0 else (runB seen rs b ⟨u, tbOf ns cs, tk⟩).2.ev seen e, ns.map (runB seen rs b ⟨u, tbOf ns cs, tk⟩).2.tb, (runB seen rs b ⟨u, tbOf ns cs, tk⟩).2.tk)
/-- what both thinkings are told -/
structure ThIn (K : PySem.W.Frag) (H : Hp) (ce bk ca vw : Addr) (an : V) (ns : List Str) (ks cs : List Int) (b : Bl) (e : Ex) (xs : List V) (es : List Ev) (u : Int) : Prop where
  bd : Bd K H ce bk an ns ks b e
  bo : BdOk ns b e
  u0 : 0 ≤ u
  u1 : u ≤ 65535
  co : CsOk cs
  cl : cs.length = ns.length
  ca : H ca = some (.tup (cs.map V.int))
  vw : H vw = some (.tup xs)
  ev : Evs H xs es
  eo : EvsOk es
  el : es.length ≤ 30000
theorem ThIn.tk {K : PySem.W.Frag} {H H' : Hp} {ce bk ca vw : Addr} {an : V} {ns : List Str} {ks cs : List Int} {b : Bl} {e : Ex} {xs : List V} {es : List Ev} {u : Int} (h : ThIn K H ce bk ca vw an ns ks cs b e xs es u) (k : TK H H') : ThIn K H' ce bk ca vw an ns ks cs b e xs es u :=
  ⟨h.bd.tk k, h.bo, h.u0, h.u1, h.co, h.cl, k _ _ h.ca, k _ _ h.vw, h.ev.tk k, h.eo, h.el⟩
theorem ThIn.mok {K : PySem.W.Frag} {H : Hp} {ce bk ca vw : Addr} {an : V} {ns : List Str} {ks cs : List Int} {b : Bl} {e : Ex} {xs : List V} {es : List Ev} {u : Int} (h : ThIn K H ce bk ca vw an ns ks cs b e xs es u) (tk : List (Int × Int)) : MOk ns ⟨u, tbOf ns cs, tk⟩ := ⟨h.u0, fun y _ => tbOf_ok h.co y⟩
theorem ThIn.sl {K : PySem.W.Frag} {H : Hp} {ce bk ca vw : Addr} {an : V} {ns : List Str} {ks cs : List Int} {b : Bl} {e : Ex} {xs : List V} {es : List Ev} {u : Int} (h : ThIn K H ce bk ca vw an ns ks cs b e xs es u) : (nums es).length ≤ 90000 := by
  rw [nums_len]; have := h.el; omega
def sp_think (K : PySem.W.Frag) (CB CT : Addr) : Sp := fun vs H Q _ => ∃ B ce bk ca vw tp rx tx an ns ks cs b e xs es u count rs tk, vs = [.ref B, .ref ca, .ref vw, .int count, .ref tp] ∧ BrA CB H B u ce bk an ∧ ThIn K H ce bk ca vw an ns ks cs b e xs es u ∧ TapeAt CT H tp rx tx rs tk ∧ tk.length ≤ 1000 ∧
  ∀ t ct H', H t = none → H' t = some (.tup [.int (thk ns cs b e count (nums es) rs u tk).1, .ref ct]) → H' ct = some (.tup ((thk ns cs b e count (nums es) rs u tk).2.1.map V.int)) → TapeAt CT H' tp rx tx rs (thk ns cs b e count (nums es) rs u tk).2.2 → Keep [tx] H H' → Q (.ref t) H'
section
variable {P : Program} {w : World} {K : PySem.W.Frag} {mg : Str → Option Value} {base : Heap} {C_Tape : Addr} {C_Thinker : Addr} {C_Brain : Addr} {C_Mind : Addr} {C_Frame : Addr} {C_Thinking : Addr} {C_Checker : Addr} {C_GameError : Addr} {C_BadCode : Addr} {f_BadCode___init : Addr} {T_EVENTS : Addr} {T_SIGNS : Addr} {T_ROUND_NAMES : Addr} {T_BRAIN_NAMES : Addr} {T_EFFECTS : Addr}
theorem ok_think {f : Addr} {fd : FuncData} (D : C8.Def K mg "think" s_think f fd) (b : Binds K fd ["brain", "cells", "view", "count", "tape"] []) (T : Txt K mg C_Tape C_Thinker C_Brain C_Mind C_Frame C_Thinking C_Checker C_GameError C_BadCode T_EVENTS T_SIGNS T_ROUND_NAMES T_BRAIN_NAMES T_EFFECTS) (c_view_numbers : C8.Cal P w K mg base 1 "view_numbers" sp_views []) (c_Thinker : C8.Mak P w K mg base 1 "Thinker" C_Thinker (sp_thinit K C_Thinker C_Brain) [])
    (c_Thinker_run : C8.Met P w K mg base 41 C_Thinker "run" (sp_trun K C_Thinker C_Tape 9) []) (c_Thinker_value : C8.Met P w K mg base 14 C_Thinker "value" (sp_tval K C_Thinker C_Tape) []) : C8.Cal P w K mg base 42 "think" (sp_think K C_Brain C_Tape) [] := by
  refine cal0 D b .nil sc_think (fun vs H Q E h => ?_) (fun cdv A outer s H vs Q E hr h => ?_)
  · obtain ⟨B, ce, bk, ca, vw, tp, rx, tx, an, ns, ks, cs, b, e, xs, es, u, count, rs, tk, rfl, _⟩ := h
    rfl
  · obtain ⟨B, ce, bk, ca, vw, tp, rx, tx, an, ns, ks, cs, b, e, xs, es, u, count, rs, tk, rfl, ⟨dB, oB⟩, hI, hTp, htk, k⟩ := h
    have hu := hu_of hr
    refine ⟨_, (pss_cons (ps_set (i := 5) sc_think.nd rfl (by first | exact Or.inl rfl | exact Or.inr rfl) (pe_mk c_Thinker hr (by first | exact Nat.le_refl _ | decide | omega) rfl (pa_cons (pv 0) (pa_cons (pv 1) (pa_cons (pe_c c_view_numbers hr (by first | exact Nat.le_refl _ | decide | omega) rfl (pa_cons (pv 2) pa_nil)) (pa_cons (pv 4) pa_nil))))))
(pss_cons (ps_if (pt_not (pt_truth (pe_mt c_Thinker_run hr (by first | exact Nat.le_refl _ | decide | omega) (pv 5) (pa_cons (pe_fld (pv 0) rfl) pa_nil)) (by intro _; rfl)))
  (pss_one (ps_ret (pe_tup (pa_cons pe_int (pa_cons (pe_callTy call_tuple_of (by rfl) T.n_tuple bo_tuple (pa_cons (pv 1) pa_nil)) pa_nil)))))
  pss_nil)
(pss_cons (ps_set (i := 6) sc_think.nd rfl (by first | exact Or.inl rfl | exact Or.inr rfl) (pe_mt c_Thinker_value hr (by first | exact Nat.le_refl _ | decide | omega) (pv 5) (pa_cons (pe_fld (pv 0) rfl) pa_nil)))
(pss_cons (ps_if (pt_cmpR op_ge (pv 6) (pv 3) (nomark _))
  (pss_one (ps_set (i := 6) sc_think.nd rfl (by first | exact Or.inl rfl | exact Or.inr rfl) pe_int))
  pss_nil)
(pss_one (ps_ret (pe_tup (pa_cons (pv 6) (pa_cons (pe_callTy call_tuple_of (by rfl) T.n_tuple bo_tuple (pa_cons (pe_lc (own := [("row", 7)]) (g := gName 7) (tt := tYes) rfl sc_think.nd (pi_tup (pe_fld (pv 0) rfl)) (blkOk_by (N := ["brain", "cells", "view", "count", "tape", "thinker", "answer", "row"]) (sc := fnScope s_think) (by decide +kernel)) (fun _ _ _ _ _ => pg_name (i := 7) sc_think.nd rfl (by first | exact Or.inl rfl | exact Or.inr rfl)) (fun _ _ _ _ _ => pts_nil) (fun _ _ _ _ _ => (pe_dget hu (pe_fldK (K := K) (pv 5) rfl) (pe_ix (ix_tupK (K := K)) (pv 7) pe_int (fun _ _ => rfl)) (fun _ _ => rfl)))) pa_nil)) pa_nil))))))))), ?_⟩
    refine ⟨_, rfl, _, rfl, _, rfl, vw, xs, es, rfl, hI.vw, hI.ev, hI.eo, hI.el, fun st H1 nst hst K1 => ⟨_, rfl, fun x dx nx nd ne => ?_⟩⟩
    have km : Keep [] H1 (upd (upd H1 dx (.own x)) x (.ins C_Thinker dx [])) := Keep.made nx nd
    have I1 := (hI.tk K1.tk).tk km.tk
    obtain ⟨ys, hce, hR⟩ := I1.bd.ce
    have oB1 := km _ _ (K1 _ _ oB (by simp)) (by simp)
    have nBx : B ≠ x := ne_of_none (K1 _ _ oB (by simp)) nx
    refine ⟨x, dx, B, u, ce, bk, ca, an, .ref st, .ref tp, ys, ns, ks, cs, rfl, upd_same, ⟨dB, oB1⟩, nBx, hce, hR, I1.ca, I1.cl, I1.bo.nd, by have := I1.bo.nl; omega, fun d H2 ndd K2 ox2 hF2 => ⟨rfl, ?_⟩⟩
    have nx0 : H x = none := K1.free nx
    have T1 := hTp.keep K1 K1.tk (by simp) (by simp) (by simp)
    have Tm := T1.keep km km.tk (by simp) (by simp) (by simp)
    obtain ⟨dt, ot⟩ := T1.o
    obtain ⟨zs, t1, t2⟩ := T1.t
    have ntp : tp ≠ x := ne_of_none ot nx
    have nrx : rx ≠ x := ne_of_none T1.r nx
    have ntx : tx ≠ x := ne_of_none t1 nx
    have tk2 : TK (upd (upd H1 dx (.own x)) x (.ins C_Thinker dx [])) H2 := fun a ws q => K2 _ _ q (by
      have : a ≠ x := ne_of q upd_same (by intro z; cases z)
      simpa using this)
    have I2 := I1.tk tk2
    have T2 := Tm.keep K2 tk2 (by simpa using ntp) (by simpa using nrx) (by simpa using ntx)
    have oB2 := K2 _ _ oB1 (by simpa using nBx)
    have hst2 := tk2 _ _ (km.tk _ _ hst)
    have A2 : ThAt C_Thinker C_Tape H2 x d st tp rx tx ns (nums es) rs ⟨u, tbOf ns cs, tk⟩ := ⟨⟨dx, ox2⟩, hF2, hst2, T2, ntp.symm⟩
    have C2 : TC C_Thinker C_Tape H2 x d st tp rx tx ns (nums es) rs ⟨u, tbOf ns cs, tk⟩ := ⟨A2, I2.mok tk, nums_ok I2.eo, I2.sl, by (have := I2.u1; show u.toNat + tk.length ≤ 90000; omega), by have := I2.bo.nl; omega⟩
    have mv := runB_mv (rs := rs) C2.sk b I2.bo.bo _ C2.ok
    have K02 : Keep [x] H H2 := (K1.trans km).mono (by simp) |>.trans K2
    have nd0 : H d = none := (K1.trans km).free ndd
    have e0 : thk ns cs b e count (nums es) rs u tk = if (runB (nums es) rs b ⟨u, tbOf ns cs, tk⟩).1 = false then (0, cs, (runB (nums es) rs b ⟨u, tbOf ns cs, tk⟩).2.tk) else (if (runB (nums es) rs b ⟨u, tbOf ns cs, tk⟩).2.ev (nums es) e ≥ count then 0 else (runB (nums es) rs b ⟨u, tbOf ns cs, tk⟩).2.ev (nums es) e, ns.map (runB (nums es) rs b ⟨u, tbOf ns cs, tk⟩).2.tb, (runB (nums es) rs b ⟨u, tbOf ns cs, tk⟩).2.tk) := rfl
    refine ⟨_, rfl, x, dx, _, rfl, ox2, rfl, _, rfl, B, C_Brain, dB, _, _, rfl, oB2, T.cl_Brain, T.a_Brain_block, rfl, x, d, st, tp, rx, tx, ns, nums es, rs, _, bk, b, rfl, C2, I2.bd.bk, I2.bo.bo, by have := I2.bo.d; omega, fun H3 A3 K3 => ?_⟩
    have tk3 := A2.tk3 K3
    have I3 := I2.tk tk3
    have kx : Keep [tx] H H3 := fun a o h w => K3 _ _ (K02 _ _ h (by have := ne_of_none h nx0; simpa using this)) (by
      have h1 := ne_of_none h nx0
      have h2 := ne_of_none h nd0
      have h3 : a ≠ tx := by simpa using w
      simp [h1, h2, h3])
    have oB3 := kx _ _ oB (by
      have := ne_of (K1 _ _ oB (by simp)) t1 (by intro z; cases z)
      simpa using this)
    obtain ⟨dx3, ox3⟩ := A3.o
    have C3 := C2.mv A3 mv
    cases hb : (runB (nums es) rs b ⟨u, tbOf ns cs, tk⟩).1 with
    | false =>
      rw [if_pos hb] at e0
      rw [e0] at k
      refine ⟨_, rfl, iteT ?_⟩
      refine ⟨_, rfl, _, _, rfl, .inr ⟨SqT.of I3.ca, And.intro (by show 2 ≤ sizeLine; decide) <| fun t nt => ?_⟩⟩
      have kt : Keep [] H3 (upd H3 t (.tup [.int 0, .ref ca])) := Keep.new nt
      have hyt : ∃ o, H3 tx = some o := by obtain ⟨ws, h, _⟩ := A3.ta.t; exact ⟨_, h⟩
      obtain ⟨oo, hoo⟩ := hyt
      exact k t ca _ (kx.free1 hoo nt) upd_same (kt _ _ I3.ca (by simp)) (A3.ta.keep kt kt.tk (by simp) (by simp) (by simp)) (kx.trans (kt.mono (by simp)))
    | true =>
      rw [if_neg (by rw [hb]; decide)] at e0
      rw [e0] at k
      generalize (runB (nums es) rs b ⟨u, tbOf ns cs, tk⟩).2 = s3 at *
      refine ⟨_, rfl, iteF ?_⟩
      refine ⟨_, rfl, x, dx3, _, rfl, ox3, rfl, _, rfl, B, C_Brain, dB, _, _, rfl, oB3, T.cl_Brain, T.a_Brain_answer, rfl, x, d, st, tp, rx, tx, ns, nums es, rs, s3, an, e, rfl, A3, C3.ok, C3.sk, C3.sl, I3.bd.an, I3.bo.e, fun H4 K4 => ?_⟩
      have A4 := A3.keep0 K4
      have I4 := I3.tk K4.tk
      have k4 : Keep [tx] H H4 := kx.trans (K4.mono (by simp))
      have oB4 := K4 _ _ oB3 (by simp)
      obtain ⟨dx4, ox4⟩ := A4.o
      obtain ⟨ys4, hce4, hR4⟩ := I4.bd.ce
      obtain ⟨oo, hoo⟩ : ∃ o, H4 tx = some o := by obtain ⟨ws, h, _⟩ := A4.ta.t; exact ⟨_, h⟩
      -- the end, whatever the answer is
      have fin : ∀ (z : Int), z = (if s3.ev (nums es) e ≥ count then 0 else s3.ev (nums es) e) → ∀ {L : Addr} {H5 : Hp}, H4 L = none → Keep [] H4 H5 → H5 L = some (.lst (ns.map fun y => V.int (s3.tb y))) → ∃ p ys, [V.ref L] = [V.ref p] ∧ ((SqL K H5 p ys ∧ ∀ l, H5 l = none → 2 ≤ sizeLine ∧ ∀ t, upd H5 l (.tup ys) t = none → Q (.ref t) (upd (upd H5 l (.tup ys)) t (.tup [.int z, .ref l]))) ∨ (SqT K H5 p ys ∧ 2 ≤ sizeLine ∧ ∀ t, H5 t = none → Q (.ref t) (upd H5 t (.tup [.int z, .ref p])))) := by
        intro z hz L H5 nL K5 hL5
        refine ⟨_, _, rfl, .inl ⟨SqL.of hL5, fun l nl => ⟨by decide, fun t nt => ?_⟩⟩⟩
        have k6 : Keep [] H5 (upd H5 l (.tup (ns.map fun y => V.int (s3.tb y)))) := Keep.new nl
        have k7 := k6.then_new (o := .tup [.int z, .ref l]) nt
        have k47 := K5.trans k7
        subst hz
        refine k t l _ (k4.free1 hoo ((K5.trans k6).free nt)) upd_same ?_ (A4.ta.keep k47 k47.tk (by simp) (by simp) (by simp)) (k4.trans (k47.mono (by simp)))
        have : upd (upd H5 l (.tup (ns.map fun y => V.int (s3.tb y)))) t (.tup [.int (if s3.ev (nums es) e ≥ count then 0 else s3.ev (nums es) e), .ref l]) l = some (.tup (ns.map fun y => V.int (s3.tb y))) := Keep.new (W := []) nt _ _ upd_same (by simp)
        rw [this, List.map_map]
        rfl
      refine ⟨_, rfl, _, rfl, _, _, rfl, rfl, _, rfl, iteD (fun h => ?_) (fun h => ?_)⟩
      · have h' : s3.ev (nums es) e ≥ count := h
        refine ⟨_, rfl, _, rfl, B, C_Brain, dB, _, _, rfl, oB4, T.cl_Brain, T.a_Brain_cells, rfl, ce, rfl, ⟨_, SqT.of hce4⟩, fun L hL => ?_⟩
        refine lc_tup (K := K) (a := ce) (xs := ys4) (fun i H5 => H5 L = some (.lst ((ns.take i).map fun y => V.int (s3.tb y))) ∧ Keep [] H4 H5) ⟨upd_same, Keep.new hL⟩ (fun i H5 _ ⟨_, k5⟩ => SqT.of (k5 _ _ hce4 (by simp))) ?_ ?_
        · rintro i v H5 hv ⟨hL5, K5⟩
          obtain ⟨pp, n, c, rfl, hn, _, hp⟩ := hR4.get hv
          obtain ⟨hlt, hget⟩ := List.getElem?_eq_some_iff.mp hn
          have hmem : n ∈ ns := List.mem_of_getElem? hn
          refine ⟨rfl, yes_then ⟨_, rfl, x, C_Thinker, dx4, _, _, rfl, K5 _ _ ox4 (by simp), T.cl_Thinker, T.a_Thinker_table, rfl, _, rfl, _, _, _, _, rfl, rfl, SqT.of (K5 _ _ hp (by simp)), rfl, _, _, rfl, (A4.t.keep K5 (by simp)).get hmem, ?_⟩⟩
          refine ⟨_, hL5, by rw [List.length_map, List.length_take]; exact smallL (by have := hI.bo.nl; omega), ?_, K5.then_own hL⟩
          rw [List.take_succ_eq_append_getElem hlt, hget, List.map_append]
          exact upd_same
        · rintro H5 ⟨hL5, K5⟩
          rw [hR4.len.1, List.take_length] at hL5
          exact fin 0 (by rw [if_pos h']) hL K5 hL5
      · have h' : ¬ s3.ev (nums es) e ≥ count := h
        refine ⟨_, rfl, _, rfl, B, C_Brain, dB, _, _, rfl, oB4, T.cl_Brain, T.a_Brain_cells, rfl, ce, rfl, ⟨_, SqT.of hce4⟩, fun L hL => ?_⟩
        refine lc_tup (K := K) (a := ce) (xs := ys4) (fun i H5 => H5 L = some (.lst ((ns.take i).map fun y => V.int (s3.tb y))) ∧ Keep [] H4 H5) ⟨upd_same, Keep.new hL⟩ (fun i H5 _ ⟨_, k5⟩ => SqT.of (k5 _ _ hce4 (by simp))) ?_ ?_
        · rintro i v H5 hv ⟨hL5, K5⟩
          obtain ⟨pp, n, c, rfl, hn, _, hp⟩ := hR4.get hv
          obtain ⟨hlt, hget⟩ := List.getElem?_eq_some_iff.mp hn
          have hmem : n ∈ ns := List.mem_of_getElem? hn
          refine ⟨rfl, yes_then ⟨_, rfl, x, C_Thinker, dx4, _, _, rfl, K5 _ _ ox4 (by simp), T.cl_Thinker, T.a_Thinker_table, rfl, _, rfl, _, _, _, _, rfl, rfl, SqT.of (K5 _ _ hp (by simp)), rfl, _, _, rfl, (A4.t.keep K5 (by simp)).get hmem, ?_⟩⟩
          refine ⟨_, hL5, by rw [List.length_map, List.length_take]; exact smallL (by have := hI.bo.nl; omega), ?_, K5.then_own hL⟩
          rw [List.take_succ_eq_append_getElem hlt, hget, List.map_append]
          exact upd_same
        · rintro H5 ⟨hL5, K5⟩
          rw [hR4.len.1, List.take_length] at hL5
          exact fin _ (by rw [if_neg h']) hL K5 hL5
end

section
variable {P : Program} {w : World} {K : PySem.W.Frag} {mg : Str → Option Value} {base : Heap} {C_Tape : Addr} {C_Thinker : Addr} {C_Brain : Addr} {C_Mind : Addr} {C_Frame : Addr} {C_Thinking : Addr} {C_Checker : Addr} {C_GameError : Addr} {C_BadCode : Addr} {f_BadCode___init : Addr} {T_EVENTS : Addr} {T_SIGNS : Addr} {T_ROUND_NAMES : Addr} {T_BRAIN_NAMES : Addr} {T_EFFECTS : Addr}
theorem same_all {f : Addr} {fd : FuncData} (D : C8.Def K mg "_law_same" s_law_same f fd) (b : Binds K fd ["actual", "due"] []) (T : Txt K mg C_Tape C_Thinker C_Brain C_Mind C_Frame C_Thinking C_Checker C_GameError C_BadCode T_EVENTS T_SIGNS T_ROUND_NAMES T_BRAIN_NAMES T_EFFECTS) : ∀ n, C8.Cal P w K mg base n "_law_same" (sp_law_same K n) []
  | 0 => ok_law_same0 D b
  | n + 1 => ok_law_same D b T (same_all D b T n)
end
/-! a tape with more in front -/
theorem thk_len {ns : List Str} {cs : List Int} {b : Bl} {e : Ex} {count : Int} {seen rs : List Int} {u : Int} (hl : cs.length = ns.length) (hs : SeenOk seen) (hb : b.Ok ns) (ho : MOk ns ⟨u, tbOf ns cs, []⟩) (u1 : u ≤ 65535) :
    (thk ns cs b e count seen rs u []).2.1.length = ns.length ∧ (thk ns cs b e count seen rs u []).2.2.length ≤ 65535 := by
  have mv := runB_mv (rs := rs) hs b hb _ ho
  have h1 := mv.k
  have h2 : (runB seen rs b ⟨u, tbOf ns cs, []⟩).2.tk.length ≤ 65535 := by
    change _ ≤ u.toNat + 0 + 0 at h1
    omega
  unfold thk
  split
  · exact ⟨hl, h2⟩
  · exact ⟨by rw [List.length_map], h2⟩
/-! the same -/
theorem same_ints {K : PySem.W.Frag} {H : Hp} {n : Nat} : ∀ l : List Int, Paired (SameV K (n + 1) H) (l.map V.int) (l.map V.int)
  | [] => .nil
  | a :: l => .cons (sameV_atom (.inr (.inl ⟨a, rfl⟩))) (same_ints l)
theorem same_intsT {K : PySem.W.Frag} {H : Hp} {p q : Addr} {n : Nat} {l : List Int} (h1 : H p = some (.tup (l.map V.int))) (h2 : H q = some (.tup (l.map V.int))) (hl : l.length ≤ 1000000) : SameV K (n + 2) H (.ref p) (.ref q) :=
  sameT (.inl h1) (.inl h2) (same_ints l) (by rw [List.length_map]; exact hl)
theorem same_pl {K : PySem.W.Frag} {H : Hp} {n : Nat} : ∀ {tk : List (Int × Int)} {xs ys : List V}, PL H xs tk → PL H ys tk → Paired (SameV K (n + 2) H) xs ys
  | [], _, _, h, g => by cases h; cases g; exact .nil
  | p :: tk, _, _, h, g => by
    cases h with
    | cons h1 h2 =>
      cases g with
      | cons g1 g2 => exact .cons (sameT (.inl h1) (.inl g1) (same_ints [_, _]) (by simp)) (same_pl h2 g2)
theorem sameL {K : PySem.W.Frag} {H : Hp} {n : Nat} {p q : Addr} {xs ys : List V} (h1 : H p = some (.lst xs)) (h2 : H q = some (.lst ys)) (h : Paired (SameV K n H) xs ys) (hl : xs.length ≤ 1000000) : SameV K (n + 1) H (.ref p) (.ref q) :=
  .inr ⟨p, q, _, _, rfl, rfl, .inl ⟨h1, h2⟩, (paired_get h).1, smallM hl, (paired_get h).2⟩

end Th
namespace Th
/-! codes of expressions, in plain words -/
inductive Ins where
  | push (n : Int)
  | load (x : Str)
  | long
  | view
  | sign (s : Str)
def idx : List Str → Str → Nat
  | [], _ => 0
  | y :: r, x => if y = x then 0 else idx r x + 1
theorem idx_get : ∀ {ys : List Str} {x : Str}, x ∈ ys → ys[idx ys x]? = some x ∧ ∀ m, m < idx ys x → ys[m]? ≠ some x
  | [], x, h => by cases h
  | y :: r, x, h => by
    unfold idx
    by_cases e : y = x
    · rw [if_pos e]
      exact ⟨by rw [e]; rfl, fun m hm => absurd hm (Nat.not_lt_zero _)⟩
    · rw [if_neg e]
      have hx : x ∈ r := by
        rcases List.mem_cons.mp h with q | q
        · exact absurd q.symm e
        · exact q
      have ih := idx_get hx
      refine ⟨by simpa using ih.1, fun m hm => ?_⟩
      cases m with
      | zero => simpa using e
      | succ m => simpa using ih.2 m (by omega)
theorem idx_lt {ys : List Str} {x : Str} (h : x ∈ ys) : idx ys x < ys.length := (List.getElem?_eq_some_iff.mp (idx_get h).1).1
def tagI : Ins → Str
  | .push _ => "push"
  | .load _ => "load"
  | .long => "long"
  | .view => "view"
  | .sign _ => "sign"
def numI (ns : List Str) : Ins → Int
  | .push n => n
  | .load x => (idx ns x : Nat)
  | .long => 0
  | .view => 0
  | .sign s => (idx sgL s : Nat)
def code (on : Str → Bool) : Ex → List Ins
  | .num n => [.push n]
  | .var x => [.load x]
  | .long => [.long]
  | .view e => code on e ++ [.view]
  | .pick x l r => if on x = true then code on l else code on r
  | .op s l r => code on l ++ code on r ++ [.sign s]
theorem code_len (on : Str → Bool) : ∀ e : Ex, (code on e).length + 1 ≤ 2 ^ e.dep
  | .num _ => by show 1 + 1 ≤ 2 ^ 1; decide
  | .var _ => by show 1 + 1 ≤ 2 ^ 1; decide
  | .long => by show 1 + 1 ≤ 2 ^ 1; decide
  | .view e => by
    have := code_len on e
    have h1 : 1 ≤ 2 ^ e.dep := Nat.one_le_two_pow
    show (code on e ++ [Ins.view]).length + 1 ≤ 2 ^ (e.dep + 1)
    rw [List.length_append, Nat.pow_succ]
    simp only [List.length_cons, List.length_nil]; omega
  | .pick x l r => by
    have a := code_len on l
    have b := code_len on r
    have hl : 2 ^ l.dep ≤ 2 ^ (max l.dep r.dep + 1) := Nat.pow_le_pow_right (by decide) (by omega)
    have hr : 2 ^ r.dep ≤ 2 ^ (max l.dep r.dep + 1) := Nat.pow_le_pow_right (by decide) (by omega)
    show (if on x = true then code on l else code on r).length + 1 ≤ 2 ^ (max l.dep r.dep + 1)
    split <;> omega
  | .op s l r => by
    have a := code_len on l
    have b := code_len on r
    have hl : 2 ^ l.dep ≤ 2 ^ max l.dep r.dep := Nat.pow_le_pow_right (by decide) (by omega)
    have hr : 2 ^ r.dep ≤ 2 ^ max l.dep r.dep := Nat.pow_le_pow_right (by decide) (by omega)
    show (code on l ++ code on r ++ [Ins.sign s]).length + 1 ≤ 2 ^ (max l.dep r.dep + 1)
    rw [List.length_append, List.length_append, Nat.pow_succ]
    simp only [List.length_cons, List.length_nil]; omega
theorem code_small (on : Str → Bool) {e : Ex} (h : e.dep ≤ 13) : (code on e).length ≤ 8192 := by
  have := code_len on e
  have h2 : 2 ^ e.dep ≤ 2 ^ 13 := Nat.pow_le_pow_right (by decide) h
  have h3 : (2 : Nat) ^ 13 = 8192 := by decide
  omega
def Ins.Ok (ns : List Str) : Ins → Prop
  | .push n => 0 ≤ n ∧ n < 65536
  | .load x => x ∈ ns
  | .long => True
  | .view => True
  | .sign s => s ∈ sgL
theorem code_ok {ns ps : List Str} (on : Str → Bool) : ∀ e : Ex, e.Ok ns ps → ∀ i ∈ code on e, i.Ok ns
  | .num n, h, i, hi => by rw [List.mem_singleton.mp hi]; exact h
  | .var n, h, i, hi => by rw [List.mem_singleton.mp hi]; exact h
  | .long, h, i, hi => by rw [List.mem_singleton.mp hi]; trivial
  | .view e, h, i, hi => by
    rcases List.mem_append.mp hi with q | q
    · exact code_ok on e h i q
    · rw [List.mem_singleton.mp q]; trivial
  | .pick x l r, ⟨_, h2, h3⟩, i, hi => by
    have hi' : i ∈ if on x = true then code on l else code on r := hi
    split at hi'
    · exact code_ok on l h2 i hi'
    · exact code_ok on r h3 i hi'
  | .op s l r, ⟨h1, h2, h3⟩, i, hi => by
    rcases List.mem_append.mp hi with q | q
    · rcases List.mem_append.mp q with q | q
      · exact code_ok on l h2 i q
      · exact code_ok on r h3 i q
    · rw [List.mem_singleton.mp q]; exact h1
def vw (seen : List Int) (a : Int) : Int := if a < seen.length then seen.getD a.toNat 0 else 0
/-- one step; the stack from the top -/
def step (tb : Str → Int) (seen : List Int) : Ins → List Int → Option (List Int)
  | .push n, R => some (n :: R)
  | .load x, R => some (tb x :: R)
  | .long, R => some ((seen.length : Int) :: R)
  | .view, a :: r => some (vw seen a :: r)
  | .view, [] => none
  | .sign s, b :: a :: r => some (comb s a b :: r)
  | .sign _, _ => none
def runI (tb : Str → Int) (seen : List Int) : List Ins → List Int → Option (List Int)
  | [], R => some R
  | i :: r, R => (step tb seen i R).bind (runI tb seen r)
theorem run_app (tb : Str → Int) (seen : List Int) : ∀ (a b : List Ins) (R : List Int), runI tb seen (a ++ b) R = (runI tb seen a R).bind (runI tb seen b)
  | [], b, R => rfl
  | i :: a, b, R => by
    show (step tb seen i R).bind (runI tb seen (a ++ b)) = ((step tb seen i R).bind (runI tb seen a)).bind _
    cases step tb seen i R with
    | none => rfl
    | some R' => exact run_app tb seen a b R'
theorem run_code {tb : Str → Int} {on : Str → Bool} {seen : List Int} (hs : seen.length ≤ 65535) : ∀ (e : Ex) (R : List Int), runI tb seen (code on e) R = some (val tb on seen e :: R)
  | .num _, R => rfl
  | .var _, R => rfl
  | .long, R => by
    show some ((seen.length : Int) :: R) = some ((if (65535 : Int) < seen.length then 65535 else (seen.length : Int)) :: R)
    rw [if_neg (by omega)]
  | .view e, R => by
    show runI tb seen (code on e ++ [.view]) R = _
    rw [run_app, run_code hs e R]; rfl
  | .pick x l r, R => by
    show runI tb seen (if on x = true then code on l else code on r) R = some ((if on x = true then val tb on seen l else val tb on seen r) :: R)
    split
    · exact run_code hs l R
    · exact run_code hs r R
  | .op s l r, R => by
    show runI tb seen (code on l ++ code on r ++ [.sign s]) R = _
    rw [run_app, run_app, run_code hs l R]
    show ((runI tb seen (code on r) (val tb on seen l :: R)).bind _) = _
    rw [run_code hs r _]; rfl
def InR (R : List Int) : Prop := ∀ x ∈ R, 0 ≤ x ∧ x < 65536
theorem step_range {ns : List Str} {tb : Str → Int} {seen : List Int} (ht : TbOk ns tb) (hs : SeenOk seen) (hl : seen.length ≤ 65535) {i : Ins} (hi : i.Ok ns) {R R' : List Int} (hR : InR R) (h : step tb seen i R = some R') : InR R' := by
  have tl : ∀ {a : Int} {r : List Int}, InR (a :: r) → InR r := fun h x hx => h x (List.mem_cons_of_mem _ hx)
  have cn : ∀ {a : Int} {r : List Int}, (0 ≤ a ∧ a < 65536) → InR r → InR (a :: r) := fun h h2 x hx => by
    rcases List.mem_cons.mp hx with q | q
    · rw [q]; exact h
    · exact h2 x q
  cases i with
  | push n => cases h; exact cn hi hR
  | load x => cases h; exact cn (ht x hi) hR
  | long => cases h; exact cn (by omega) hR
  | view =>
    cases R with
    | nil => cases h
    | cons a r =>
      cases h
      refine cn ?_ (tl hR)
      have ha := hR a (List.mem_cons_self ..)
      unfold vw
      split
      · have : a.toNat < seen.length := by omega
        rw [List.getD_eq_getElem?_getD, List.getElem?_eq_getElem this]
        exact hs _ (List.getElem_mem this)
      · omega
  | sign s =>
    match R, h with
    | b :: a :: r, h =>
      cases h
      have hb := hR b (List.mem_cons_self ..)
      have ha := tl hR a (List.mem_cons_self ..)
      exact cn (comb_range hi ha.1 ha.2 hb.1 hb.2) (tl (tl hR))
theorem run_take {tb : Str → Int} {seen : List Int} {c : List Ins} {R : List Int} (h : runI tb seen c [] = some R) {i : Nat} {x : Ins} (hx : c[i]? = some x) {Ri : List Int} (hi : runI tb seen (c.take i) [] = some Ri) : ∃ R', step tb seen x Ri = some R' ∧ runI tb seen (c.take (i + 1)) [] = some R' := by
  obtain ⟨hlt, he⟩ := List.getElem?_eq_some_iff.mp hx
  have e : c = c.take (i + 1) ++ c.drop (i + 1) := (List.take_append_drop _ _).symm
  have e2 : c.take (i + 1) = c.take i ++ [x] := by rw [List.take_succ_eq_append_getElem hlt, he]
  rw [e, e2, run_app, run_app, hi] at h
  cases q : step tb seen x Ri with
  | none =>
    have : (Option.some Ri).bind (runI tb seen [x]) = none := by
      show (step tb seen x Ri).bind _ = none
      rw [q]; rfl
    rw [this] at h; cases h
  | some R' =>
    refine ⟨R', rfl, ?_⟩
    rw [e2, run_app, hi]
    show (step tb seen x Ri).bind _ = _
    rw [q]; rfl
/-- a tuple that was made at work -/
def Ad (K : PySem.W.Frag) (H : Hp) (a : Addr) (xs : List V) : Prop := H a = some (.tup xs) ∨ False
theorem Ad.get {K : PySem.W.Frag} {H : Hp} {a : Addr} {xs : List V} (h : Ad K H a xs) : H a = some (.tup xs) := h.elim id False.elim
theorem Ad.at {K : PySem.W.Frag} {H : Hp} {a : Addr} {xs : List V} (h : Ad K H a xs) : At K H a xs := .inl h.get
theorem Ad.sq {K : PySem.W.Frag} {H : Hp} {a : Addr} {xs : List V} (h : Ad K H a xs) : SqT K H a xs := SqT.of h.get
theorem Ad.tk {K : PySem.W.Frag} {H H' : Hp} {a : Addr} {xs : List V} (k : TK H H') (h : Ad K H a xs) : Ad K H' a xs := .inl (k _ _ h.get)
inductive CL (K : PySem.W.Frag) (H : Hp) (ns : List Str) : List V → List Ins → Prop
  | nil : CL K H ns [] []
  | cons {t : Addr} {i : Ins} {vs : List V} {c : List Ins} : Ad K H t [.str (tagI i), .int (numI ns i)] → CL K H ns vs c → CL K H ns (.ref t :: vs) (i :: c)
section
variable {K : PySem.W.Frag} {ns : List Str}
theorem CL.tk {H H' : Hp} (k : TK H H') {vs : List V} {c : List Ins} (h : CL K H ns vs c) : CL K H' ns vs c := by
  induction h with
  | nil => exact .nil
  | cons h _ ih => exact .cons (h.tk k) ih
theorem CL.app {H : Hp} {vs ws : List V} {c d : List Ins} (h : CL K H ns vs c) (g : CL K H ns ws d) : CL K H ns (vs ++ ws) (c ++ d) := by
  induction h with
  | nil => exact g
  | cons h _ ih => exact .cons h ih
theorem CL.len {H : Hp} {vs : List V} {c : List Ins} (h : CL K H ns vs c) : vs.length = c.length := by
  induction h with
  | nil => rfl
  | cons h _ ih => rw [List.length_cons, List.length_cons, ih]
theorem CL.get {H : Hp} {vs : List V} {c : List Ins} (h : CL K H ns vs c) : ∀ {i : Nat} {v : V}, vs[i]? = some v → ∃ t x, v = .ref t ∧ c[i]? = some x ∧ Ad K H t [.str (tagI x), .int (numI ns x)] := by
  induction h with
  | nil => intro i v h; simp at h
  | cons h _ ih =>
    intro i v hv
    cases i with
    | zero => simp at hv; subst hv; exact ⟨_, _, rfl, rfl, h⟩
    | succ i => simpa using ih (by simpa using hv)
theorem CL.same {H : Hp} {n : Nat} {vs : List V} {c : List Ins} (h : CL K H ns vs c) : ∀ {ws : List V}, CL K H ns ws c → Paired (SameV K (n + 2) H) vs ws := by
  induction h with
  | nil => intro ws g; cases g; exact .nil
  | cons h _ ih =>
    intro ws g
    cases g with
    | cons g g2 => exact .cons (sameT h.at g.at (.cons (.inl ⟨rfl, .inl ⟨_, rfl⟩⟩) (.cons (.inl ⟨rfl, .inr (.inl ⟨_, rfl⟩)⟩) .nil)) (by simp)) (ih g2)
end
/-! codes of statements -/
inductive MI where
  | e (i : Ins)
  | skip (n : Nat)
  | jump (n : Nat)
  | back (n : Nat)
  | unit
  | lot
  | store (x : Str)
  | fin
def tagM : MI → Str
  | .e i => tagI i
  | .skip _ => "skip"
  | .jump _ => "jump"
  | .back _ => "back"
  | .unit => "unit"
  | .lot => "lot"
  | .store _ => "store"
  | .fin => "end"
def numM (ns : List Str) : MI → Int
  | .e i => numI ns i
  | .skip n => (n : Int)
  | .jump n => (n : Int)
  | .back n => (n : Int)
  | .unit => 0
  | .lot => 0
  | .store x => (idx ns x : Nat)
  | .fin => 0
def ec (e : Ex) : List MI := (code offs e).map MI.e
def brn (t a b : List MI) : List MI := if b = [] then t ++ (.skip a.length :: a) else t ++ (.skip (a.length + 1) :: (a ++ (.jump b.length :: b)))
mutual
def cT : Th → List MI
  | .set x e => .unit :: (ec e ++ [.store x])
  | .lot x e => .unit :: (ec e ++ [.lot, .store x])
  | .iff t a b => .unit :: brn (ec t) (cB a) (cB b)
  | .whl t b => .unit :: (ec t ++ (.skip ((cB b).length + 1) :: (cB b ++ [.back ((ec t).length + (cB b).length + 2)])))
def cB : Bl → List MI
  | .nil => []
  | .cons t b => cT t ++ cB b
end
def cM (b : Bl) (e : Ex) : List MI := cB b ++ (ec e ++ [.fin])
inductive ML (K : PySem.W.Frag) (H : Hp) (ns : List Str) : List V → List MI → Prop
  | nil : ML K H ns [] []
  | cons {t : Addr} {i : MI} {vs : List V} {c : List MI} : Ad K H t [.str (tagM i), .int (numM ns i)] → ML K H ns vs c → ML K H ns (.ref t :: vs) (i :: c)
section
variable {K : PySem.W.Frag} {ns : List Str}
theorem ML.tk {H H' : Hp} (k : TK H H') {vs : List V} {c : List MI} (h : ML K H ns vs c) : ML K H' ns vs c := by
  induction h with
  | nil => exact .nil
  | cons h _ ih => exact .cons (h.tk k) ih
theorem ML.app {H : Hp} {vs ws : List V} {c d : List MI} (h : ML K H ns vs c) (g : ML K H ns ws d) : ML K H ns (vs ++ ws) (c ++ d) := by
  induction h with
  | nil => exact g
  | cons h _ ih => exact .cons h ih
theorem ML.len {H : Hp} {vs : List V} {c : List MI} (h : ML K H ns vs c) : vs.length = c.length := by
  induction h with
  | nil => rfl
  | cons h _ ih => rw [List.length_cons, List.length_cons, ih]
theorem ML.get {H : Hp} {vs : List V} {c : List MI} (h : ML K H ns vs c) : ∀ {i : Nat} {x : MI}, c[i]? = some x → ∃ t, vs[i]? = some (.ref t) ∧ Ad K H t [.str (tagM x), .int (numM ns x)] := by
  induction h with
  | nil => intro i v h; simp at h
  | cons h _ ih =>
    intro i x hx
    cases i with
    | zero => simp at hx; subst hx; exact ⟨_, rfl, h⟩
    | succ i => simpa using ih (by simpa using hx)
theorem CL.ml {H : Hp} {vs : List V} {c : List Ins} (h : CL K H ns vs c) : ML K H ns vs (c.map MI.e) := by
  induction h with
  | nil => exact .nil
  | cons h _ ih => exact .cons h ih
end
theorem brn_len (t a b : List MI) : t.length + a.length + b.length + 1 ≤ (brn t a b).length := by
  unfold brn
  split
  · rename_i h
    subst h
    simp; omega
  · simp; omega
theorem ec_len {e : Ex} (h : e.dep ≤ 12) : (ec e).length ≤ 8192 := by
  unfold ec
  rw [List.length_map]
  exact code_small offs (by omega)
theorem off0 {H : Hp} {a : Addr} (h : H a = some (.dK [])) : DcB H a [] offs := ⟨[], h, fun x hx => by cases hx⟩
/-- a code that is being put together -/
def CdL (K : PySem.W.Frag) (H : Hp) (ns : List Str) (L : Addr) (c : List MI) : Prop := ∃ ws, H L = some (.lst ws) ∧ ML K H ns ws c
theorem CdL.keep {K : PySem.W.Frag} {H H' : Hp} {ns : List Str} {L : Addr} {c : List MI} (h : CdL K H ns L c) (k : Keep [] H H') : CdL K H' ns L c := by
  obtain ⟨ws, h1, h2⟩ := h
  exact ⟨ws, k _ _ h1 (by simp), h2.tk k.tk⟩
theorem CdL.push {K : PySem.W.Frag} {H0 H : Hp} {ns : List Str} {L u : Addr} {c : List MI} (h : CdL K H ns L c) (i : MI) (nL : H0 L = none) (k0 : Keep [] H0 H) (nu : H u = none) : ∃ ws, upd H u (.tup [.str (tagM i), .int (numM ns i)]) L = some (.lst ws) ∧ ws.length = c.length ∧
    CdL K (upd (upd H u (.tup [.str (tagM i), .int (numM ns i)])) L (.lst (ws ++ [.ref u]))) ns L (c ++ [i]) ∧ Keep [] H0 (upd (upd H u (.tup [.str (tagM i), .int (numM ns i)])) L (.lst (ws ++ [.ref u]))) ∧ TK H (upd (upd H u (.tup [.str (tagM i), .int (numM ns i)])) L (.lst (ws ++ [.ref u]))) := by
  obtain ⟨ws, h1, h2⟩ := h
  have k1 : Keep [] H (upd H u (.tup [.str (tagM i), .int (numM ns i)])) := Keep.new nu
  have h1' := k1 _ _ h1 (by simp)
  have t : TK H (upd (upd H u (.tup [.str (tagM i), .int (numM ns i)])) L (.lst (ws ++ [.ref u]))) := k1.tk.trans (TK.lst h1')
  have ne : u ≠ L := (ne_of_none h1 nu).symm
  exact ⟨ws, h1', h2.len, ⟨_, upd_same, (h2.tk t).app (.cons (.inl (by rw [upd_ne ne]; exact upd_same)) .nil)⟩, (k0.trans k1).then_own nL, t⟩
theorem CdL.cat {K : PySem.W.Frag} {H0 H : Hp} {ns : List Str} {L b : Addr} {c d : List MI} {zs : List V} (h : CdL K H ns L c) (nL : H0 L = none) (k0 : Keep [] H0 H) (hb : H b = some (.lst zs)) (m : ML K H ns zs d) : ∃ ws, H L = some (.lst ws) ∧ ws.length = c.length ∧
    CdL K (upd H L (.lst (ws ++ zs))) ns L (c ++ d) ∧ Keep [] H0 (upd H L (.lst (ws ++ zs))) ∧ TK H (upd H L (.lst (ws ++ zs))) := by
  obtain ⟨ws, h1, h2⟩ := h
  have t : TK H (upd H L (.lst (ws ++ zs))) := TK.lst h1
  exact ⟨ws, h1, h2.len, ⟨_, upd_same, (h2.tk t).app (m.tk t)⟩, k0.then_own nL, t⟩

def MdA (K : PySem.W.Frag) (C : Addr) (H : Hp) (M : Addr) (u : Int) (ca cd : Addr) (ks : List Int) (ns : List Str) (c : List MI) : Prop :=
  (∃ dx, H M = some (.ins C dx [("units", .int u), ("cells", .ref ca), ("code", .ref cd)])) ∧ H ca = some (.tup (ks.map V.int)) ∧ ∃ ws, H cd = some (.tup ws) ∧ ML K H ns ws c
theorem MdA.keep {K : PySem.W.Frag} {C : Addr} {H H' : Hp} {M ca cd : Addr} {u : Int} {ks : List Int} {ns : List Str} {c : List MI} (h : MdA K C H M u ca cd ks ns c) (k : Keep [] H H') : MdA K C H' M u ca cd ks ns c := by
  obtain ⟨⟨dx, h1⟩, h2, ws, h3, h4⟩ := h
  exact ⟨⟨dx, k _ _ h1 (by simp)⟩, k _ _ h2 (by simp), ws, k _ _ h3 (by simp), h4.tk k.tk⟩
def sp_minit (K : PySem.W.Frag) (C : Addr) : Sp := fun vs H Q _ => ∃ (x dx ct cl : Addr) (u : Int) (xs ys : List V), vs = [.ref x, .int u, .ref ct, .ref cl] ∧ H x = some (.ins C dx []) ∧ H ct = some (.tup xs) ∧ H cl = some (.lst ys) ∧
  ∀ cd H', H cd = none → H' x = some (.ins C dx [("units", .int u), ("cells", .ref ct), ("code", .ref cd)]) → H' cd = some (.tup ys) → Keep [x] H H' → Q .non H'
section
variable {P : Program} {w : World} {K : PySem.W.Frag} {mg : Str → Option Value} {base : Heap} {C_Tape : Addr} {C_Thinker : Addr} {C_Brain : Addr} {C_Mind : Addr} {C_Frame : Addr} {C_Thinking : Addr} {C_Checker : Addr} {C_GameError : Addr} {C_BadCode : Addr} {f_BadCode___init : Addr} {T_EVENTS : Addr} {T_SIGNS : Addr} {T_ROUND_NAMES : Addr} {T_BRAIN_NAMES : Addr} {T_EFFECTS : Addr}
theorem ok_minit {f : Addr} {fd : FuncData} (M : Mk K C_Mind f) (F : C8.Fun K "__init__" "Mind.__init__" s_Mind___init f fd) (b : Binds K fd ["self", "units", "cells", "code"] []) (T : Txt K mg C_Tape C_Thinker C_Brain C_Mind C_Frame C_Thinking C_Checker C_GameError C_BadCode T_EVENTS T_SIGNS T_ROUND_NAMES T_BRAIN_NAMES T_EFFECTS) : C8.Mak P w K mg base 1 "Mind" C_Mind (sp_minit K C_Mind) [] := by
  refine mak0 M T.m_Mind F b .nil sc_Mind___init (fun vs H Q E h => ?_) (fun cdv A outer s H vs Q E hr h => ?_)
  · obtain ⟨x, dx, ct, cl, u, xs, ys, rfl, _⟩ := h
    rfl
  · obtain ⟨x, dx, ct, cl, u, xs, ys, rfl, hx, hct, hcl, k⟩ := h
    refine ⟨_, (pss_cons (ps_fld (pv 0) (pv 1) rfl)
(pss_cons (ps_fld (pv 0) (pe_callTy call_tuple_of (by rfl) T.n_tuple bo_tuple (pa_cons (pv 2) pa_nil)) rfl)
(pss_one (ps_fld (pv 0) (pe_callTy call_tuple_of (by rfl) T.n_tuple bo_tuple (pa_cons (pv 3) pa_nil)) rfl)))), ?_⟩
    have mx : x ∈ [x] := List.mem_singleton.mpr rfl
    have tku : ∀ {H1 : Hp} {fs gs : List (Str × V)}, H1 x = some (.ins C_Mind dx fs) → TK H1 (upd H1 x (.ins C_Mind dx gs)) := fun h b zs q => by rw [upd_ne (ne_of q h (by intro z; cases z))]; exact q
    have ncx : cl ≠ x := ne_of hcl hx (by intro z; cases z)
    refine ⟨_, rfl, _, rfl, x, C_Mind, dx, [], rfl, hx, T.cl_Mind, T.a_Mind_units, by show 0 < 1000; decide, ?_⟩
    have t1 := tku (gs := [("units", V.int u)]) hx
    refine ⟨_, rfl, _, _, rfl, .inr ⟨(SqT.of (t1 _ _ hct)), _, rfl, x, C_Mind, dx, _, rfl, upd_same, T.cl_Mind, T.a_Mind_cells, by show 1 < 1000; decide, ?_⟩⟩
    refine ⟨_, rfl, _, _, rfl, .inl ⟨SqL.of (by rw [upd_ne ncx, upd_ne ncx]; exact hcl), fun cd ncd => ?_⟩⟩
    have nxc : x ≠ cd := ne_of_none (H := upd (upd H x _) x _) upd_same ncd
    refine ⟨_, rfl, x, C_Mind, dx, _, rfl, by rw [upd_ne nxc]; exact upd_same, T.cl_Mind, T.a_Mind_code, by show 2 < 1000; decide, ?_⟩
    have ncd0 : H cd = none := by rw [upd_ne nxc.symm, upd_ne nxc.symm] at ncd; exact ncd
    exact k cd _ ncd0 upd_same (by rw [upd_ne nxc.symm]; exact upd_same) ((((Keep.at_ mx).then_at mx).then_own ncd0).then_at mx)
end

/-! the machine -/
structure MC where
  at_ : Nat
  st : List Int
  cells : List Int
  left : Int
  silent : Bool
  done : Bool
  tk : List (Int × Int)
def exec (ns : List Str) (seen rs : List Int) : MI → MC → Option MC
  | .e (.push n), m => some { m with st := n :: m.st }
  | .e (.load x), m => if x ∈ ns ∧ m.cells.length = ns.length then some { m with st := m.cells.getD (idx ns x) 0 :: m.st } else none
  | .e .long, m => some { m with st := (if (65535 : Int) < (seen.length : Int) then 65535 else (seen.length : Int)) :: m.st }
  | .e .view, m => match m.st with
    | a :: r => if 0 ≤ a then some { m with st := vw seen a :: r } else none
    | [] => none
  | .e (.sign s), m => match m.st with
    | b :: a :: r => if s ∈ sgL ∧ 0 ≤ a ∧ a < 65536 ∧ 0 ≤ b ∧ b < 65536 then some { m with st := comb s a b :: r } else none
    | _ => none
  | .skip n, m => match m.st with
    | v :: r => some { m with st := r, at_ := if v = 0 then m.at_ + n else m.at_ }
    | [] => none
  | .jump n, m => some { m with at_ := m.at_ + n }
  | .back n, m => if n + 1 ≤ m.at_ then some { m with at_ := m.at_ - 1 - n } else none
  | .unit, m => some { m with silent := decide (V.int m.left = V.int 0), done := decide (V.int m.left = V.int 0), left := m.left - 1 }
  | .lot, m => match m.st with
    | c :: r => if c < 65536 ∧ m.tk.length ≤ 800000 then some (if c > 0 then { m with st := nextR rs m.tk c :: r, tk := m.tk ++ [(nextR rs m.tk c, c)] } else { m with st := 0 :: r }) else none
    | [] => none
  | .store x, m => match m.st with
    | v :: r => if x ∈ ns ∧ m.cells.length = ns.length then some { m with st := r, cells := m.cells.set (idx ns x) v } else none
    | [] => none
  | .fin, m => some { m with done := true }
def stepM (ns : List Str) (seen rs : List Int) (c : List MI) (m : MC) : Option MC :=
  if m.st.length ≤ 100000 then (c[m.at_]?).bind fun i => exec ns seen rs i { m with at_ := m.at_ + 1 } else none
inductive Pth (ns : List Str) (seen rs : List Int) (c : List MI) : Nat → MC → MC → Prop
  | refl (m : MC) : Pth ns seen rs c 0 m m
  | step {n : Nat} {m m' r : MC} : m.done = false → stepM ns seen rs c m = some m' → Pth ns seen rs c n m' r → Pth ns seen rs c (n + 1) m r
/-! the object -/
def thkF (cd tb tp sk sn : Addr) (at_ steps : Int) (left : Int) (silent done : Bool) : List (Str × V) := [("code", .ref cd), ("table", .ref tb), ("tape", .ref tp), ("at", .int at_), ("stack", .ref sk), ("steps", .int steps), ("left", .int left), ("seen", .ref sn), ("silent", .bl silent), ("done", .bl done)]
structure KAt (K : PySem.W.Frag) (C CT : Addr) (H : Hp) (x cd tb tp rx tx sk sn : Addr) (ns : List Str) (seen rs : List Int) (c : List MI) (m : MC) (n : Nat) : Prop where
  o : ∃ dx, H x = some (.ins C dx (thkF cd tb tp sk sn m.at_ n m.left m.silent m.done))
  hcd : ∃ ws, H cd = some (.tup ws) ∧ ML K H ns ws c
  htb : H tb = some (.lst (m.cells.map V.int))
  hsk : H sk = some (.lst (m.st.reverse.map V.int))
  hsn : H sn = some (.tup (seen.map V.int))
  hta : TapeAt CT H tp rx tx rs m.tk
  n1 : tb ≠ sk
  n2 : tb ≠ rx
  n3 : tb ≠ tx
  n4 : sk ≠ rx
  n5 : sk ≠ tx
  n6 : x ≠ tp
theorem ixN_n {n j : Nat} (hj : j < n) : ixN n (j : Int) = some j := by
  unfold ixN
  rw [if_pos (by omega), if_pos (by omega)]
  rfl
section
variable {K : PySem.W.Frag} {C CT : Addr} {H H' : Hp} {x cd tb tp rx tx sk sn : Addr} {ns : List Str} {seen rs : List Int} {c : List MI} {m : MC} {n : Nat}
theorem KAt.keep0 (h : KAt K C CT H x cd tb tp rx tx sk sn ns seen rs c m n) (k : Keep [] H H') : KAt K C CT H' x cd tb tp rx tx sk sn ns seen rs c m n := by
  obtain ⟨dx, o⟩ := h.o
  obtain ⟨ws, h1, h2⟩ := h.hcd
  exact ⟨⟨dx, k _ _ o (by simp)⟩, ⟨ws, k _ _ h1 (by simp), h2.tk k.tk⟩, k _ _ h.htb (by simp), k _ _ h.hsk (by simp), k _ _ h.hsn (by simp), h.hta.keep k k.tk (by simp) (by simp) (by simp), h.n1, h.n2, h.n3, h.n4, h.n5, h.n6⟩
/-- its own object changes -/
theorem KAt.setO (h : KAt K C CT H x cd tb tp rx tx sk sn ns seen rs c m n) {dx : Addr} {fs : List (Str × V)} (hx : H x = some (.ins C dx fs)) (m' : MC) (n' : Nat) (e1 : m'.st = m.st) (e2 : m'.cells = m.cells) (e3 : m'.tk = m.tk) :
    KAt K C CT (upd H x (.ins C dx (thkF cd tb tp sk sn m'.at_ n' m'.left m'.silent m'.done))) x cd tb tp rx tx sk sn ns seen rs c m' n' ∧ Keep [x] H (upd H x (.ins C dx (thkF cd tb tp sk sn m'.at_ n' m'.left m'.silent m'.done))) ∧ TK H (upd H x (.ins C dx (thkF cd tb tp sk sn m'.at_ n' m'.left m'.silent m'.done))) := by
  have ne : ∀ {a : Addr} {o : HO}, H a = some o → (∀ d gs, o ≠ .ins C d gs) → a ≠ x := fun h1 h2 z => by rw [z, hx] at h1; exact h2 _ _ (Option.some.inj h1).symm
  have k : Keep [x] H (upd H x (.ins C dx (thkF cd tb tp sk sn m'.at_ n' m'.left m'.silent m'.done))) := Keep.at_ (List.mem_singleton.mpr rfl)
  have t : TK H (upd H x (.ins C dx (thkF cd tb tp sk sn m'.at_ n' m'.left m'.silent m'.done))) := fun b xs q => by rw [upd_ne (ne q (by intro _ _ z; cases z))]; exact q
  obtain ⟨ws, h1, h2⟩ := h.hcd
  obtain ⟨ys, t1, t2⟩ := h.hta.t
  refine ⟨⟨⟨dx, upd_same⟩, ⟨ws, t _ _ h1, h2.tk t⟩, ?_, ?_, t _ _ h.hsn, ?_, h.n1, h.n2, h.n3, h.n4, h.n5, h.n6⟩, k, t⟩
  · rw [e2]; exact k _ _ h.htb (by have := ne h.htb (by intro _ _ z; cases z); simpa using this)
  · rw [e1]; exact k _ _ h.hsk (by have := ne h.hsk (by intro _ _ z; cases z); simpa using this)
  · rw [e3]
    exact h.hta.keep k t (by simpa using h.n6.symm) (by have := ne h.hta.r (by intro _ _ z; cases z); simpa using this) (by have := ne t1 (by intro _ _ z; cases z); simpa using this)
/-- the stack changes -/
theorem KAt.setS (h : KAt K C CT H x cd tb tp rx tx sk sn ns seen rs c m n) (st : List Int) : KAt K C CT (upd H sk (.lst (st.reverse.map V.int))) x cd tb tp rx tx sk sn ns seen rs c { m with st := st } n ∧ Keep [sk] H (upd H sk (.lst (st.reverse.map V.int))) ∧ TK H (upd H sk (.lst (st.reverse.map V.int))) := by
  have k : Keep [sk] H (upd H sk (.lst (st.reverse.map V.int))) := Keep.at_ (List.mem_singleton.mpr rfl)
  have t : TK H (upd H sk (.lst (st.reverse.map V.int))) := TK.lst h.hsk
  obtain ⟨dx, o⟩ := h.o
  obtain ⟨ws, h1, h2⟩ := h.hcd
  obtain ⟨dt, ot⟩ := h.hta.o
  have nx : x ≠ sk := ne_of o h.hsk (by intro z; cases z)
  have nt : tp ≠ sk := ne_of ot h.hsk (by intro z; cases z)
  exact ⟨⟨⟨dx, k _ _ o (by simpa using nx)⟩, ⟨ws, t _ _ h1, h2.tk t⟩, k _ _ h.htb (by simpa using h.n1), upd_same, t _ _ h.hsn, h.hta.keep k t (by simpa using nt) (by simpa using h.n4.symm) (by simpa using h.n5.symm), h.n1, h.n2, h.n3, h.n4, h.n5, h.n6⟩, k, t⟩
/-- the table changes -/
theorem KAt.setT (h : KAt K C CT H x cd tb tp rx tx sk sn ns seen rs c m n) (cs : List Int) : KAt K C CT (upd H tb (.lst (cs.map V.int))) x cd tb tp rx tx sk sn ns seen rs c { m with cells := cs } n ∧ Keep [tb] H (upd H tb (.lst (cs.map V.int))) ∧ TK H (upd H tb (.lst (cs.map V.int))) := by
  have k : Keep [tb] H (upd H tb (.lst (cs.map V.int))) := Keep.at_ (List.mem_singleton.mpr rfl)
  have t : TK H (upd H tb (.lst (cs.map V.int))) := TK.lst h.htb
  obtain ⟨dx, o⟩ := h.o
  obtain ⟨ws, h1, h2⟩ := h.hcd
  obtain ⟨dt, ot⟩ := h.hta.o
  have nx : x ≠ tb := ne_of o h.htb (by intro z; cases z)
  have nt : tp ≠ tb := ne_of ot h.htb (by intro z; cases z)
  exact ⟨⟨⟨dx, k _ _ o (by simpa using nx)⟩, ⟨ws, t _ _ h1, h2.tk t⟩, upd_same, k _ _ h.hsk (by simpa using h.n1.symm), t _ _ h.hsn, h.hta.keep k t (by simpa using nt) (by simpa using h.n2.symm) (by simpa using h.n3.symm), h.n1, h.n2, h.n3, h.n4, h.n5, h.n6⟩, k, t⟩
/-- the tape goes on -/
theorem KAt.setK (h : KAt K C CT H x cd tb tp rx tx sk sn ns seen rs c m n) (k : Keep [tx] H H') {tk : List (Int × Int)} (ta : TapeAt CT H' tp rx tx rs tk) : KAt K C CT H' x cd tb tp rx tx sk sn ns seen rs c { m with tk := tk } n ∧ TK H H' := by
  obtain ⟨dx, o⟩ := h.o
  obtain ⟨ws, h1, h2⟩ := h.hcd
  obtain ⟨ys, t1, t2⟩ := h.hta.t
  have t : TK H H' := k.tk1 t1
  have nx : x ≠ tx := ne_of o t1 (by intro z; cases z)
  exact ⟨⟨⟨dx, k _ _ o (by simpa using nx)⟩, ⟨ws, t _ _ h1, h2.tk t⟩, k _ _ h.htb (by simpa using h.n3), k _ _ h.hsk (by simpa using h.n5), t _ _ h.hsn, ta, h.n1, h.n2, h.n3, h.n4, h.n5, h.n6⟩, t⟩
theorem KAt.push (h : KAt K C CT H x cd tb tp rx tx sk sn ns seen rs c m n) (v : Int) : KAt K C CT (upd H sk (.lst (m.st.reverse.map V.int ++ [.int v]))) x cd tb tp rx tx sk sn ns seen rs c { m with st := v :: m.st } n ∧ Keep [sk] H (upd H sk (.lst (m.st.reverse.map V.int ++ [.int v]))) := by
  have q := h.setS (v :: m.st)
  have e : (v :: m.st).reverse.map V.int = m.st.reverse.map V.int ++ [.int v] := by rw [List.reverse_cons, List.map_append]; rfl
  rw [e] at q
  exact ⟨q.1, q.2.1⟩
theorem KAt.pop (h : KAt K C CT H x cd tb tp rx tx sk sn ns seen rs c m n) {v : Int} {r : List Int} (e : m.st = v :: r) : (m.st.reverse.map V.int)[(m.st.reverse.map V.int).length - 1]? = some (.int v) ∧ KAt K C CT (upd H sk (.lst (m.st.reverse.map V.int).dropLast)) x cd tb tp rx tx sk sn ns seen rs c { m with st := r } n ∧ Keep [sk] H (upd H sk (.lst (m.st.reverse.map V.int).dropLast)) := by
  have q := h.setS r
  have e2 : m.st.reverse.map V.int = r.reverse.map V.int ++ [.int v] := by rw [e, List.reverse_cons, List.map_append]; rfl
  have e3 : (m.st.reverse.map V.int).dropLast = r.reverse.map V.int := by rw [e2, List.dropLast_concat]
  rw [← e3] at q
  exact ⟨by rw [e2]; simp, q.1, q.2.1⟩
end
/-- what special runs -/
def IsSp : MI → Prop
  | .back _ => True
  | .unit => True
  | .lot => True
  | .store _ => True
  | .fin => True
  | .e .view => True
  | .e .long => True
  | _ => False
def sp_frinit (C : Addr) : Sp := fun vs H Q _ => ∃ (x dx cd tb tp : Addr), vs = [.ref x, .ref cd, .ref tb, .ref tp] ∧ H x = some (.ins C dx []) ∧
  ∀ sk H', H sk = none → H' sk = some (.lst []) → H' x = some (.ins C dx [("code", .ref cd), ("table", .ref tb), ("tape", .ref tp), ("at", .int 0), ("stack", .ref sk), ("steps", .int 0)]) → Keep [x] H H' → Q .non H'
def sp_special (K : PySem.W.Frag) (C CT : Addr) : Sp := fun vs H Q _ => ∃ (x cd tb tp rx tx sk sn : Addr) (ns : List Str) (seen rs : List Int) (c : List MI) (m m' : MC) (n : Nat) (i : MI), vs = [.ref x, .str (tagM i), .int (numM ns i)] ∧ KAt K C CT H x cd tb tp rx tx sk sn ns seen rs c m n ∧ m.st.length ≤ 100000 ∧
  IsSp i ∧ exec ns seen rs i m = some m' ∧ ∀ H', KAt K C CT H' x cd tb tp rx tx sk sn ns seen rs c m' n → Keep [x, tb, sk, tx] H H' → Q .non H'
def sp_adv (K : PySem.W.Frag) (C CT : Addr) : Sp := fun vs H Q _ => ∃ (x cd tb tp rx tx sk sn : Addr) (ns : List Str) (seen rs : List Int) (c : List MI) (m m' : MC) (n : Nat), vs = [.ref x] ∧ KAt K C CT H x cd tb tp rx tx sk sn ns seen rs c m n ∧ stepM ns seen rs c m = some m' ∧
  ∀ H', KAt K C CT H' x cd tb tp rx tx sk sn ns seen rs c m' (n + 1) → Keep [x, tb, sk, tx] H H' → Q .non H'
section
variable {P : Program} {w : World} {K : PySem.W.Frag} {mg : Str → Option Value} {base : Heap} {C_Tape : Addr} {C_Thinker : Addr} {C_Brain : Addr} {C_Mind : Addr} {C_Frame : Addr} {C_Thinking : Addr} {C_Checker : Addr} {C_GameError : Addr} {C_BadCode : Addr} {f_BadCode___init : Addr} {T_EVENTS : Addr} {T_SIGNS : Addr} {T_ROUND_NAMES : Addr} {T_BRAIN_NAMES : Addr} {T_EFFECTS : Addr}
theorem ok_special {f : Addr} {fd : FuncData} (me : Meth K C_Thinking "special" f) (F : C8.Fun K "special" "Thinking.special" s_Thinking_special f fd) (b : Binds K fd ["self", "name", "argument"] []) (T : Txt K mg C_Tape C_Thinker C_Brain C_Mind C_Frame C_Thinking C_Checker C_GameError C_BadCode T_EVENTS T_SIGNS T_ROUND_NAMES T_BRAIN_NAMES T_EFFECTS) (c_Tape_take : C8.Met P w K mg base 1 C_Tape "take" (sp_take C_Tape) []) : C8.Met P w K mg base 2 C_Thinking "special" (sp_special K C_Thinking C_Tape) [] := by
  refine met0 T.cl_Thinking me F b sc_Thinking_special (fun vs H Q E h => ?_) (fun cdv A outer s H vs Q E hr h => ?_)
  · obtain ⟨x, cd, tb, tp, rx, tx, sk, sn, ns, seen, rs, c, m, m', n, i, rfl, _⟩ := h
    rfl
  · obtain ⟨x, cd, tb, tp, rx, tx, sk, sn, ns, seen, rs, c, m, m', n, i, rfl, hA, hsz, hi, he, k⟩ := h
    refine ⟨_, (pss_one (ps_if (pt_cmpR op_eq (pv 1) pe_str (nomark _))
  (pss_cons (ps_fld (pv 0) (pe_cmpR op_eq (pe_fld (pv 0) rfl) pe_int (nomark _)) rfl)
  (pss_cons (ps_fld (pv 0) (pe_fld (pv 0) rfl) rfl)
  (pss_one (ps_fldaug (pv 0) pe_int in_sub))))
  (pss_one (ps_if (pt_cmpR op_eq (pv 1) pe_str (nomark _))
    (pss_one (ps_fld (pv 0) (pe_op op_sub (pe_op op_sub (pe_fld (pv 0) rfl) pe_int) (pv 2)) rfl))
    (pss_one (ps_if (pt_cmpR op_eq (pv 1) pe_str (nomark _))
      (pss_one (ps_asg (pe_bm0 PySem.F.plainAttrs_list PySem.F.slot_list_pop PySem.F.type_list_pop mt_pop (pe_fld (pv 0) rfl)) (pg_sub (pe_fld (pv 0) rfl) (pv 2) set_list)))
      (pss_one (ps_if (pt_cmpR op_eq (pv 1) pe_str (nomark _))
        (pss_cons (ps_set (i := 3) sc_Thinking_special.nd rfl (by first | exact Or.inl rfl | exact Or.inr rfl) (pe_bm0 PySem.F.plainAttrs_list PySem.F.slot_list_pop PySem.F.type_list_pop mt_pop (pe_fld (pv 0) rfl)))
        (pss_one (ps_expr (pe_bm PySem.F.plainAttrs_list PySem.F.slot_list_append PySem.F.type_list_append mt_append (pe_fld (pv 0) rfl) (pa_cons (pe_ifExp (pt_cmpR op_gt (pv 3) pe_int (nomark _)) (pe_mt c_Tape_take hr (by first | exact Nat.le_refl _ | decide | omega) (pe_fld (pv 0) rfl) (pa_cons (pv 3) pa_nil)) pe_int) pa_nil)))))
        (pss_one (ps_if (pt_cmpR op_eq (pv 1) pe_str (nomark _))
          (pss_cons (ps_set (i := 4) sc_Thinking_special.nd rfl (by first | exact Or.inl rfl | exact Or.inr rfl) (pe_bm0 PySem.F.plainAttrs_list PySem.F.slot_list_pop PySem.F.type_list_pop mt_pop (pe_fld (pv 0) rfl)))
          (pss_one (ps_expr (pe_bm PySem.F.plainAttrs_list PySem.F.slot_list_append PySem.F.type_list_append mt_append (pe_fld (pv 0) rfl) (pa_cons (pe_ifExp (pt_cmpR op_lt (pv 4) (pe_callB call_len_seq (by rfl) T.n_len bo_len (pa_cons (pe_fld (pv 0) rfl) pa_nil)) (nomark _)) (pe_ix ix_tup (pe_fld (pv 0) rfl) (pv 4) (fun _ _ => rfl)) pe_int) pa_nil)))))
          (pss_one (ps_if (pt_cmpR op_eq (pv 1) pe_str (nomark _))
            (pss_one (ps_expr (pe_bm PySem.F.plainAttrs_list PySem.F.slot_list_append PySem.F.type_list_append mt_append (pe_fld (pv 0) rfl) (pa_cons (pe_callB (call_min2 rfl) (by rfl) T.n_min bo_min (pa_cons (pe_callB call_len_seq (by rfl) T.n_len bo_len (pa_cons (pe_fld (pv 0) rfl) pa_nil)) (pa_cons pe_int pa_nil))) pa_nil))))
            (pss_one (ps_fld (pv 0) pe_bl rfl)))))))))))))), ?_⟩
    obtain ⟨dx, ho⟩ := hA.o
    cases i with
    | unit =>
      cases he
      refine ⟨_, rfl, rfl, _, rfl, iteDT rfl ?_⟩
      refine ⟨_, rfl, x, C_Thinking, dx, _, _, rfl, ho, T.cl_Thinking, T.a_Thinking_left, rfl, rfl, _, rfl, x, C_Thinking, dx, _, rfl, ho, T.cl_Thinking, T.a_Thinking_silent, by show 10 < 1000; decide, ?_⟩
      refine ⟨_, rfl, x, C_Thinking, dx, _, _, rfl, upd_same, T.cl_Thinking, T.a_Thinking_silent, rfl, _, rfl, x, C_Thinking, dx, _, rfl, upd_same, T.cl_Thinking, T.a_Thinking_done, by show 10 < 1000; decide, ?_⟩
      refine ⟨_, rfl, x, C_Thinking, dx, _, _, rfl, upd_same, T.cl_Thinking, T.a_Thinking_left, rfl, _, _, rfl, rfl, dx, _, upd_same, by show 10 < 1000; decide, ?_⟩
      rw [upd_upd, upd_upd]
      have q := hA.setO ho { m with silent := decide (V.int m.left = V.int 0), done := decide (V.int m.left = V.int 0), left := m.left - 1 } n rfl rfl rfl
      exact k _ q.1 (q.2.1.mono (by simp))
    | back a =>
      have he' : (if a + 1 ≤ m.at_ then some { m with at_ := m.at_ - 1 - a } else none) = some m' := he
      split at he'
      case isFalse => cases he'
      cases he'
      rename_i hle
      refine ⟨_, rfl, rfl, _, rfl, iteDF (nes (show ("back" : Str) ≠ "unit" by decide +kernel)) ?_⟩
      refine ⟨_, rfl, rfl, _, rfl, iteDT rfl ?_⟩
      refine ⟨_, rfl, x, C_Thinking, dx, _, _, rfl, ho, T.cl_Thinking, T.a_Thinking_at, rfl, _, _, rfl, rfl, _, rfl, _, _, rfl, rfl, _, rfl, x, C_Thinking, dx, _, rfl, ho, T.cl_Thinking, T.a_Thinking_at, by show 10 < 1000; decide, ?_⟩
      have q := hA.setO ho { m with at_ := m.at_ - 1 - a } n rfl rfl rfl
      have e : ((m.at_ - 1 - a : Nat) : Int) = (m.at_ : Int) - 1 - (a : Int) := by omega
      have q1 := q.1
      have q2 := q.2.1
      change KAt K C_Thinking C_Tape (upd H x (.ins C_Thinking dx (thkF cd tb tp sk sn ((m.at_ - 1 - a : Nat) : Int) n m.left m.silent m.done))) x cd tb tp rx tx sk sn ns seen rs c _ n at q1
      change Keep [x] H (upd H x (.ins C_Thinking dx (thkF cd tb tp sk sn ((m.at_ - 1 - a : Nat) : Int) n m.left m.silent m.done))) at q2
      rw [e] at q1 q2
      exact k _ q1 (q2.mono (by simp))
    | fin =>
      cases he
      refine ⟨_, rfl, rfl, _, rfl, iteDF (nes (by decide +kernel)) ?_⟩
      refine ⟨_, rfl, rfl, _, rfl, iteDF (nes (by decide +kernel)) ?_⟩
      refine ⟨_, rfl, rfl, _, rfl, iteDF (nes (by decide +kernel)) ?_⟩
      refine ⟨_, rfl, rfl, _, rfl, iteDF (nes (by decide +kernel)) ?_⟩
      refine ⟨_, rfl, rfl, _, rfl, iteDF (nes (by decide +kernel)) ?_⟩
      refine ⟨_, rfl, rfl, _, rfl, iteDF (nes (by decide +kernel)) ?_⟩
      refine ⟨_, rfl, x, C_Thinking, dx, _, rfl, ho, T.cl_Thinking, T.a_Thinking_done, by show 10 < 1000; decide, ?_⟩
      have q := hA.setO ho { m with done := true } n rfl rfl rfl
      exact k _ q.1 (q.2.1.mono (by simp))
    | store y =>
      cases hst : m.st with
      | nil => have he' : (match m.st with | v :: r => if y ∈ ns ∧ m.cells.length = ns.length then some { m with st := r, cells := m.cells.set (idx ns y) v } else none | [] => none) = some m' := he
               rw [hst] at he'; cases he'
      | cons v r =>
        have he' : (match m.st with | v :: r => if y ∈ ns ∧ m.cells.length = ns.length then some { m with st := r, cells := m.cells.set (idx ns y) v } else none | [] => none) = some m' := he
        rw [hst] at he'
        dsimp only at he'
        split at he'
        case isFalse => cases he'
        cases he'
        rename_i hy
        have hp := hA.pop hst
        have q := hp.2.1.setT (m.cells.set (idx ns y) v)
        have q2 := hp.2.2
        obtain ⟨dx', ho2⟩ := hp.2.1.o
        refine ⟨_, rfl, rfl, _, rfl, iteDF (nes (show ("store" : Str) ≠ "unit" by decide +kernel)) ?_⟩
        refine ⟨_, rfl, rfl, _, rfl, iteDF (nes (show ("store" : Str) ≠ "back" by decide +kernel)) ?_⟩
        refine ⟨_, rfl, rfl, _, rfl, iteDT rfl ?_⟩
        refine ⟨_, rfl, x, C_Thinking, dx, _, _, rfl, ho, T.cl_Thinking, T.a_Thinking_stack, rfl, .inl ⟨rfl, _, SqL.of hA.hsk⟩, sk, _, _, rfl, rfl, hA.hsk, hp.1, ?_⟩
        refine ⟨_, rfl, x, C_Thinking, dx', _, _, rfl, ho2, T.cl_Thinking, T.a_Thinking_table, rfl, _, rfl, tb, _, _, _, rfl, rfl, hp.2.1.htb, ixN_n (by rw [List.length_map, hy.2]; exact idx_lt hy.1), ?_⟩
        have e : ((m.cells.set (idx ns y) v).map V.int) = (m.cells.map V.int).set (idx ns y) (.int v) := by rw [List.map_set]
        rw [e] at q
        exact k _ q.1 ((q2.mono (by simp)).trans (q.2.1.mono (by simp)))
    | lot =>
      cases hst : m.st with
      | nil => have he' : (match m.st with | c :: r => if c < 65536 ∧ m.tk.length ≤ 800000 then some (if c > 0 then { m with st := nextR rs m.tk c :: r, tk := m.tk ++ [(nextR rs m.tk c, c)] } else { m with st := 0 :: r }) else none | [] => none) = some m' := he
               rw [hst] at he'; cases he'
      | cons cc r =>
        have he' : (match m.st with | c :: r => if c < 65536 ∧ m.tk.length ≤ 800000 then some (if c > 0 then { m with st := nextR rs m.tk c :: r, tk := m.tk ++ [(nextR rs m.tk c, c)] } else { m with st := 0 :: r }) else none | [] => none) = some m' := he
        rw [hst] at he'
        dsimp only at he'
        split at he'
        case isFalse => cases he'
        have he2 := Option.some.inj he'
        rename_i hc
        have hp := hA.pop hst
        have q2 := hp.2.2
        have hB := hp.2.1
        obtain ⟨dx', ho2⟩ := hB.o
        refine ⟨_, rfl, rfl, _, rfl, iteDF (nes (by decide +kernel)) ?_⟩
        refine ⟨_, rfl, rfl, _, rfl, iteDF (nes (by decide +kernel)) ?_⟩
        refine ⟨_, rfl, rfl, _, rfl, iteDF (nes (by decide +kernel)) ?_⟩
        refine ⟨_, rfl, rfl, _, rfl, iteDT rfl ?_⟩
        refine ⟨_, rfl, x, C_Thinking, dx, _, _, rfl, ho, T.cl_Thinking, T.a_Thinking_stack, rfl, .inl ⟨rfl, _, SqL.of hA.hsk⟩, sk, _, _, rfl, rfl, hA.hsk, hp.1, ?_⟩
        generalize upd H sk (.lst (m.st.reverse.map V.int).dropLast) = H1 at *
        have hsz' : r.length ≤ 100000 := by rw [hst, List.length_cons] at hsz; omega
        refine ⟨_, rfl, x, C_Thinking, dx', _, _, rfl, ho2, T.cl_Thinking, T.a_Thinking_stack, rfl, .inl ⟨rfl, _, SqL.of hB.hsk⟩, _, rfl, _, _, rfl, rfl, _, rfl, iteD (fun h => ?_) (fun h => ?_)⟩
        · have h' : cc > 0 := h
          rw [if_pos h'] at he2
          obtain ⟨dt, ot⟩ := hB.hta.o
          refine ⟨_, rfl, x, C_Thinking, dx', _, _, rfl, ho2, T.cl_Thinking, T.a_Thinking_tape, rfl, tp, dt, _, rfl, ot, rfl, _, rfl, tp, rx, tx, rs, m.tk, cc, rfl, h', by omega, by omega, hB.hta, fun H2 K2 TA2 => ?_⟩
          have hC := (hB.setK K2 TA2).1
          have q := hC.push (nextR rs m.tk cc)
          refine ⟨sk, _, _, rfl, rfl, hC.hsk, smallL (by rw [List.length_map, List.length_reverse]; show r.length ≤ 1000000; omega), ?_⟩
          rw [he2] at q
          exact k _ q.1 (((q2.mono (by simp)).trans (K2.mono (by simp))).trans (q.2.mono (by simp)))
        · have h' : ¬ cc > 0 := h
          rw [if_neg h'] at he2
          have q := hB.push 0
          refine ⟨sk, _, _, rfl, rfl, hB.hsk, smallL (by rw [List.length_map, List.length_reverse]; show r.length ≤ 1000000; omega), ?_⟩
          rw [he2] at q
          exact k _ q.1 ((q2.mono (by simp)).trans (q.2.mono (by simp)))
    | e i =>
      cases i with
      | view =>
        cases hst : m.st with
        | nil => have he' : (match m.st with | a :: r => if 0 ≤ a then some { m with st := vw seen a :: r } else none | [] => none) = some m' := he
                 rw [hst] at he'; cases he'
        | cons a r =>
          have he' : (match m.st with | a :: r => if 0 ≤ a then some { m with st := vw seen a :: r } else none | [] => none) = some m' := he
          rw [hst] at he'
          dsimp only at he'
          split at he'
          case isFalse => cases he'
          have he2 := Option.some.inj he'
          rename_i ha0
          have hp := hA.pop hst
          have q2 := hp.2.2
          have hB := hp.2.1
          obtain ⟨dx', ho2⟩ := hB.o
          refine ⟨_, rfl, rfl, _, rfl, iteDF (nes (by decide +kernel)) ?_⟩
          refine ⟨_, rfl, rfl, _, rfl, iteDF (nes (by decide +kernel)) ?_⟩
          refine ⟨_, rfl, rfl, _, rfl, iteDF (nes (by decide +kernel)) ?_⟩
          refine ⟨_, rfl, rfl, _, rfl, iteDF (nes (by decide +kernel)) ?_⟩
          refine ⟨_, rfl, rfl, _, rfl, iteDT rfl ?_⟩
          refine ⟨_, rfl, x, C_Thinking, dx, _, _, rfl, ho, T.cl_Thinking, T.a_Thinking_stack, rfl, .inl ⟨rfl, _, SqL.of hA.hsk⟩, sk, _, _, rfl, rfl, hA.hsk, hp.1, ?_⟩
          generalize upd H sk (.lst (m.st.reverse.map V.int).dropLast) = H1 at *
          have hsz' : r.length ≤ 100000 := by rw [hst, List.length_cons] at hsz; omega
          have q := hB.push (vw seen a)
          rw [he2] at q
          refine ⟨_, rfl, x, C_Thinking, dx', _, _, rfl, ho2, T.cl_Thinking, T.a_Thinking_stack, rfl, .inl ⟨rfl, _, SqL.of hB.hsk⟩, _, rfl, _, rfl, x, C_Thinking, dx', _, _, rfl, ho2, T.cl_Thinking, T.a_Thinking_seen, rfl, _, _, rfl, .inr (SqT.of hB.hsn), _, _, rfl, rfl, _, rfl, iteD (fun h => ?_) (fun h => ?_)⟩
          · rw [List.length_map] at h
            have ev : vw seen a = seen.getD a.toNat 0 := by unfold vw; rw [if_pos h]
            refine ⟨_, rfl, x, C_Thinking, dx', _, _, rfl, ho2, T.cl_Thinking, T.a_Thinking_seen, rfl, _, rfl, _, _, _, _, rfl, rfl, SqT.of hB.hsn, seen_at ha0 h, sk, _, _, rfl, rfl, hB.hsk, smallL (by rw [List.length_map, List.length_reverse]; show r.length ≤ 1000000; omega), ?_⟩
            rw [ev] at q
            exact k _ q.1 ((q2.mono (by simp)).trans (q.2.mono (by simp)))
          · rw [List.length_map] at h
            have ev : vw seen a = 0 := by unfold vw; rw [if_neg h]
            refine ⟨sk, _, _, rfl, rfl, hB.hsk, smallL (by rw [List.length_map, List.length_reverse]; show r.length ≤ 1000000; omega), ?_⟩
            rw [ev] at q
            exact k _ q.1 ((q2.mono (by simp)).trans (q.2.mono (by simp)))
      | long =>
        cases he
        refine ⟨_, rfl, rfl, _, rfl, iteDF (nes (by decide +kernel)) ?_⟩
        refine ⟨_, rfl, rfl, _, rfl, iteDF (nes (by decide +kernel)) ?_⟩
        refine ⟨_, rfl, rfl, _, rfl, iteDF (nes (by decide +kernel)) ?_⟩
        refine ⟨_, rfl, rfl, _, rfl, iteDF (nes (by decide +kernel)) ?_⟩
        refine ⟨_, rfl, rfl, _, rfl, iteDF (nes (by decide +kernel)) ?_⟩
        refine ⟨_, rfl, rfl, _, rfl, iteDT rfl ?_⟩
        refine ⟨_, rfl, x, C_Thinking, dx, _, _, rfl, ho, T.cl_Thinking, T.a_Thinking_stack, rfl, .inl ⟨rfl, _, SqL.of hA.hsk⟩, ?_⟩
        refine ⟨_, rfl, x, C_Thinking, dx, _, _, rfl, ho, T.cl_Thinking, T.a_Thinking_seen, rfl, _, _, rfl, .inr (SqT.of hA.hsn), _, _, rfl, sk, _, _, rfl, rfl, hA.hsk, smallL (by rw [List.length_map, List.length_reverse]; omega), ?_⟩
        rw [List.length_map]
        have q := hA.push (if (65535 : Int) < (seen.length : Int) then 65535 else (seen.length : Int))
        exact k _ q.1 (q.2.mono (by simp))
      | push a => exact hi.elim
      | load y => exact hi.elim
      | sign z => exact hi.elim
    | skip a => exact hi.elim
    | jump a => exact hi.elim
end

theorem strs_at {ys : List Str} {i : Nat} {z : Str} (h : ys[i]? = some z) : (ys.map V.str)[i]? = some (.str z) := by rw [List.getElem?_map, h]; rfl
section
variable {P : Program} {w : World} {K : PySem.W.Frag} {mg : Str → Option Value} {base : Heap} {C_Tape : Addr} {C_Thinker : Addr} {C_Brain : Addr} {C_Mind : Addr} {C_Frame : Addr} {C_Thinking : Addr} {C_Checker : Addr} {C_GameError : Addr} {C_BadCode : Addr} {f_BadCode___init : Addr} {T_EVENTS : Addr} {T_SIGNS : Addr} {T_ROUND_NAMES : Addr} {T_BRAIN_NAMES : Addr} {T_EFFECTS : Addr}
theorem ok_adv {f : Addr} {fd : FuncData} (me : Meth K C_Thinking "advance" f) (F : C8.Fun K "advance" "Frame.advance" s_Frame_advance f fd) (b : Binds K fd ["self"] []) (T : Txt K mg C_Tape C_Thinker C_Brain C_Mind C_Frame C_Thinking C_Checker C_GameError C_BadCode T_EVENTS T_SIGNS T_ROUND_NAMES T_BRAIN_NAMES T_EFFECTS) (c_Thinking_special : C8.Met P w K mg base 2 C_Thinking "special" (sp_special K C_Thinking C_Tape) []) (c_combine : C8.Cal P w K mg base 1 "combine" sp_combine []) : C8.Met P w K mg base 3 C_Thinking "advance" (sp_adv K C_Thinking C_Tape) [] := by
  refine met0 T.cl_Thinking me F b sc_Frame_advance (fun vs H Q E h => ?_) (fun cdv A outer s H vs Q E hr h => ?_)
  · obtain ⟨x, cd, tb, tp, rx, tx, sk, sn, ns, seen, rs, c, m, m', n, rfl, _⟩ := h
    rfl
  · obtain ⟨x, cd, tb, tp, rx, tx, sk, sn, ns, seen, rs, c, m, m', n, rfl, hA, hs, k⟩ := h
    refine ⟨_, (pss_cons (ps_asg (pe_ix ix_tup (pe_fld (pv 0) rfl) (pe_fld (pv 0) rfl) (fun _ _ => rfl)) (pg_tup (by rfl) (pgs_cons (pg_name (i := 1) sc_Frame_advance.nd rfl (by first | exact Or.inl rfl | exact Or.inr rfl)) (pgs_cons (pg_name (i := 2) sc_Frame_advance.nd rfl (by first | exact Or.inl rfl | exact Or.inr rfl)) pgs_nil))))
(pss_cons (ps_fldaug (pv 0) pe_int in_add)
(pss_cons (ps_fldaug (pv 0) pe_int in_add)
(pss_one (ps_if (pt_cmpR op_eq (pv 1) pe_str (nomark _))
  (pss_one (ps_expr (pe_bm PySem.F.plainAttrs_list PySem.F.slot_list_append PySem.F.type_list_append mt_append (pe_fld (pv 0) rfl) (pa_cons (pv 2) pa_nil))))
  (pss_one (ps_if (pt_cmpR op_eq (pv 1) pe_str (nomark _))
    (pss_one (ps_expr (pe_bm PySem.F.plainAttrs_list PySem.F.slot_list_append PySem.F.type_list_append mt_append (pe_fld (pv 0) rfl) (pa_cons (pe_ix ix_list (pe_fld (pv 0) rfl) (pv 2) (fun _ _ => rfl)) pa_nil))))
    (pss_one (ps_if (pt_cmpR op_eq (pv 1) pe_str (nomark _))
      (pss_cons (ps_set (i := 3) sc_Frame_advance.nd rfl (by first | exact Or.inl rfl | exact Or.inr rfl) (pe_bm0 PySem.F.plainAttrs_list PySem.F.slot_list_pop PySem.F.type_list_pop mt_pop (pe_fld (pv 0) rfl)))
      (pss_cons (ps_set (i := 4) sc_Frame_advance.nd rfl (by first | exact Or.inl rfl | exact Or.inr rfl) (pe_bm0 PySem.F.plainAttrs_list PySem.F.slot_list_pop PySem.F.type_list_pop mt_pop (pe_fld (pv 0) rfl)))
      (pss_one (ps_expr (pe_bm PySem.F.plainAttrs_list PySem.F.slot_list_append PySem.F.type_list_append mt_append (pe_fld (pv 0) rfl) (pa_cons (pe_c c_combine hr (by first | exact Nat.le_refl _ | decide | omega) rfl (pa_cons (pe_ix ix_tup (pe_gc rfl T.v_SIGNS) (pv 2) (fun _ _ => rfl)) (pa_cons (pv 4) (pa_cons (pv 3) pa_nil)))) pa_nil))))))
      (pss_one (ps_if (pt_cmpR op_eq (pv 1) pe_str (nomark _))
        (pss_one (ps_fldaug (pv 0) (pv 2) in_add))
        (pss_one (ps_if (pt_cmpR op_eq (pv 1) pe_str (nomark _))
          (pss_one (ps_if (pt_cmpR op_eq (pe_bm0 PySem.F.plainAttrs_list PySem.F.slot_list_pop PySem.F.type_list_pop mt_pop (pe_fld (pv 0) rfl)) pe_int (nomark _))
            (pss_one (ps_fldaug (pv 0) (pv 2) in_add))
            pss_nil))
          (pss_one (ps_expr (pe_mt c_Thinking_special hr (by first | exact Nat.le_refl _ | decide | omega) (pv 0) (pa_cons (pv 1) (pa_cons (pv 2) pa_nil)))))))))))))))))), ?_⟩
    obtain ⟨dx, ho⟩ := hA.o
    obtain ⟨ws, hcd, hml⟩ := hA.hcd
    unfold stepM at hs
    split at hs
    case isFalse => cases hs
    rename_i hsz
    cases hi : c[m.at_]? with
    | none => rw [hi] at hs; cases hs
    | some i =>
      rw [hi] at hs
      replace hs : exec ns seen rs i { m with at_ := m.at_ + 1 } = some m' := hs
      obtain ⟨t, hv, hat⟩ := hml.get hi
      refine ⟨_, rfl, x, C_Thinking, dx, _, _, rfl, ho, T.cl_Thinking, T.a_Thinking_code, rfl, _, rfl, x, C_Thinking, dx, _, _, rfl, ho, T.cl_Thinking, T.a_Thinking_at, rfl, _, _, _, _, rfl, rfl, SqT.of hcd, atI_nat hv, t, _, rfl, hat.sq, rfl, _, _, rfl, _, _, rfl, rfl, ?_⟩
      refine ⟨_, rfl, x, C_Thinking, dx, _, _, rfl, ho, T.cl_Thinking, T.a_Thinking_at, rfl, _, _, rfl, rfl, dx, _, ho, by show 10 < 1000; decide, ?_⟩
      refine ⟨_, rfl, x, C_Thinking, dx, _, _, rfl, upd_same, T.cl_Thinking, T.a_Thinking_steps, rfl, _, _, rfl, rfl, dx, _, upd_same, by show 10 < 1000; decide, ?_⟩
      rw [upd_upd]
      have q := hA.setO ho { m with at_ := m.at_ + 1 } (n + 1) rfl rfl rfl
      generalize hG : upd H x _ = H1
      have A1 : KAt K C_Thinking C_Tape H1 x cd tb tp rx tx sk sn ns seen rs c { m with at_ := m.at_ + 1 } (n + 1) := by rw [← hG]; exact q.1
      have K1 : Keep [x] H H1 := by rw [← hG]; exact q.2.1
      obtain ⟨dx1, ho1⟩ := A1.o
      clear q hG
      have hsz1 : ({ m with at_ := m.at_ + 1 } : MC).st.length ≤ 100000 := hsz
      generalize hm1 : ({ m with at_ := m.at_ + 1 } : MC) = m1 at *
      have lz : (m1.st.reverse.map V.int).length < sizeLine := smallL (by rw [List.length_map, List.length_reverse]; omega)
      have fin : ∀ H', KAt K C_Thinking C_Tape H' x cd tb tp rx tx sk sn ns seen rs c m' (n + 1) → Keep [x, tb, sk, tx] H1 H' → Q .non H' := fun H' a kk => k H' a ((K1.mono (by simp)).trans kk)
      have spec : IsSp i → sp_special K C_Thinking C_Tape [.ref x, .str (tagM i), .int (numM ns i)] H1 (fun _ H' => Q .non H') C8.E0 := fun hi => ⟨x, cd, tb, tp, rx, tx, sk, sn, ns, seen, rs, c, m1, m', n + 1, i, rfl, A1, hsz1, hi, hs, fun H2 A2 K2 => fin H2 A2 K2⟩
      cases i with
      | e i =>
        cases i with
        | push a =>
          cases hs
          refine ⟨_, rfl, rfl, _, rfl, iteDT rfl ?_⟩
          have q := A1.push a
          exact ⟨_, rfl, x, C_Thinking, dx1, _, _, rfl, ho1, T.cl_Thinking, T.a_Thinking_stack, rfl, .inl ⟨rfl, _, SqL.of A1.hsk⟩, _, rfl, sk, _, _, rfl, rfl, A1.hsk, lz, fin _ q.1 (q.2.mono (by simp))⟩
        | load y =>
          have hs' : (if y ∈ ns ∧ m1.cells.length = ns.length then some { m1 with st := m1.cells.getD (idx ns y) 0 :: m1.st } else none) = some m' := hs
          split at hs'
          case isFalse => cases hs'
          rename_i hy
          cases hs'
          refine ⟨_, rfl, rfl, _, rfl, iteDF (nes (show ("load" : Str) ≠ "push" by decide +kernel)) ?_⟩
          refine ⟨_, rfl, rfl, _, rfl, iteDT rfl ?_⟩
          have hl : idx ns y < m1.cells.length := by rw [hy.2]; exact idx_lt hy.1
          have hg : (m1.cells.map V.int)[idx ns y]? = some (.int (m1.cells.getD (idx ns y) 0)) := by rw [List.getElem?_map, List.getD_eq_getElem?_getD, List.getElem?_eq_getElem hl]; rfl
          have q := A1.push (m1.cells.getD (idx ns y) 0)
          exact ⟨_, rfl, x, C_Thinking, dx1, _, _, rfl, ho1, T.cl_Thinking, T.a_Thinking_stack, rfl, .inl ⟨rfl, _, SqL.of A1.hsk⟩, _, rfl, x, C_Thinking, dx1, _, _, rfl, ho1, T.cl_Thinking, T.a_Thinking_table, rfl, _, rfl, _, _, _, _, rfl, rfl, SqL.of A1.htb, atI_nat hg, sk, _, _, rfl, rfl, A1.hsk, lz, fin _ q.1 (q.2.mono (by simp))⟩
        | sign z =>
          cases hst : m1.st with
          | nil => have hs' : (match m1.st with | b :: a :: r => if z ∈ sgL ∧ 0 ≤ a ∧ a < 65536 ∧ 0 ≤ b ∧ b < 65536 then some { m1 with st := comb z a b :: r } else none | _ => none) = some m' := hs
                   rw [hst] at hs'; cases hs'
          | cons b2 r0 =>
            cases r0 with
            | nil => have hs' : (match m1.st with | b :: a :: r => if z ∈ sgL ∧ 0 ≤ a ∧ a < 65536 ∧ 0 ≤ b ∧ b < 65536 then some { m1 with st := comb z a b :: r } else none | _ => none) = some m' := hs
                     rw [hst] at hs'; cases hs'
            | cons a2 r =>
              have hs' : (match m1.st with | b :: a :: r => if z ∈ sgL ∧ 0 ≤ a ∧ a < 65536 ∧ 0 ≤ b ∧ b < 65536 then some { m1 with st := comb z a b :: r } else none | _ => none) = some m' := hs
              rw [hst] at hs'
              dsimp only at hs'
              split at hs'
              case isFalse => cases hs'
              rename_i hg
              cases hs'
              obtain ⟨g1, g2, g3, g4, g5⟩ := hg
              refine ⟨_, rfl, rfl, _, rfl, iteDF (nes (show ("sign" : Str) ≠ "push" by decide +kernel)) ?_⟩
              refine ⟨_, rfl, rfl, _, rfl, iteDF (nes (show ("sign" : Str) ≠ "load" by decide +kernel)) ?_⟩
              refine ⟨_, rfl, rfl, _, rfl, iteDT rfl ?_⟩
              have p1 := A1.pop hst
              have p2 := p1.2.1.pop rfl
              have q := p2.2.1.push (comb z a2 b2)
              obtain ⟨dx2, ho2⟩ := p1.2.1.o
              obtain ⟨dx3, ho3⟩ := p2.2.1.o
              refine ⟨_, rfl, x, C_Thinking, dx1, _, _, rfl, ho1, T.cl_Thinking, T.a_Thinking_stack, rfl, .inl ⟨rfl, _, SqL.of A1.hsk⟩, sk, _, _, rfl, rfl, A1.hsk, p1.1, ?_⟩
              refine ⟨_, rfl, x, C_Thinking, dx2, _, _, rfl, ho2, T.cl_Thinking, T.a_Thinking_stack, rfl, .inl ⟨rfl, _, SqL.of p1.2.1.hsk⟩, sk, _, _, rfl, rfl, p1.2.1.hsk, p2.1, ?_⟩
              refine ⟨_, rfl, x, C_Thinking, dx3, _, _, rfl, ho3, T.cl_Thinking, T.a_Thinking_stack, rfl, .inl ⟨rfl, _, SqL.of p2.2.1.hsk⟩, _, rfl, _, _, _, _, rfl, rfl, T.q_SIGNS _, atI_nat (strs_at (idx_get g1).1), _, rfl, _, rfl, z, a2, b2, rfl, g1, g2, g3, g4, g5, ?_⟩
              refine ⟨sk, _, _, rfl, rfl, p2.2.1.hsk, smallL (by rw [List.length_map, List.length_reverse]; show r.length ≤ 1000000; rw [hst, List.length_cons, List.length_cons] at hsz1; omega), fin _ q.1 ?_⟩
              exact ((p1.2.2.mono (by simp)).trans (p2.2.2.mono (by simp))).trans (q.2.mono (by simp))
        | view =>
          refine ⟨_, rfl, rfl, _, rfl, iteDF (nes (show ("view" : Str) ≠ "push" by decide +kernel)) ?_⟩
          refine ⟨_, rfl, rfl, _, rfl, iteDF (nes (show ("view" : Str) ≠ "load" by decide +kernel)) ?_⟩
          refine ⟨_, rfl, rfl, _, rfl, iteDF (nes (show ("view" : Str) ≠ "sign" by decide +kernel)) ?_⟩
          refine ⟨_, rfl, rfl, _, rfl, iteDF (nes (show ("view" : Str) ≠ "jump" by decide +kernel)) ?_⟩
          refine ⟨_, rfl, rfl, _, rfl, iteDF (nes (show ("view" : Str) ≠ "skip" by decide +kernel)) ?_⟩
          exact ⟨_, rfl, x, dx1, _, rfl, ho1, rfl, _, rfl, _, rfl, spec trivial⟩
        | long =>
          refine ⟨_, rfl, rfl, _, rfl, iteDF (nes (show ("long" : Str) ≠ "push" by decide +kernel)) ?_⟩
          refine ⟨_, rfl, rfl, _, rfl, iteDF (nes (show ("long" : Str) ≠ "load" by decide +kernel)) ?_⟩
          refine ⟨_, rfl, rfl, _, rfl, iteDF (nes (show ("long" : Str) ≠ "sign" by decide +kernel)) ?_⟩
          refine ⟨_, rfl, rfl, _, rfl, iteDF (nes (show ("long" : Str) ≠ "jump" by decide +kernel)) ?_⟩
          refine ⟨_, rfl, rfl, _, rfl, iteDF (nes (show ("long" : Str) ≠ "skip" by decide +kernel)) ?_⟩
          exact ⟨_, rfl, x, dx1, _, rfl, ho1, rfl, _, rfl, _, rfl, spec trivial⟩
      | skip a =>
        refine ⟨_, rfl, rfl, _, rfl, iteDF (nes (show ("skip" : Str) ≠ "push" by decide +kernel)) ?_⟩
        refine ⟨_, rfl, rfl, _, rfl, iteDF (nes (show ("skip" : Str) ≠ "load" by decide +kernel)) ?_⟩
        refine ⟨_, rfl, rfl, _, rfl, iteDF (nes (show ("skip" : Str) ≠ "sign" by decide +kernel)) ?_⟩
        refine ⟨_, rfl, rfl, _, rfl, iteDF (nes (show ("skip" : Str) ≠ "jump" by decide +kernel)) ?_⟩
        refine ⟨_, rfl, rfl, _, rfl, iteDT rfl ?_⟩
        cases hst : m1.st with
        | nil => have hs' : (match m1.st with | v :: r => some { m1 with st := r, at_ := if v = 0 then m1.at_ + a else m1.at_ } | [] => none) = some m' := hs
                 rw [hst] at hs'; cases hs'
        | cons v r =>
          have hs' : (match m1.st with | v :: r => some { m1 with st := r, at_ := if v = 0 then m1.at_ + a else m1.at_ } | [] => none) = some m' := hs
          rw [hst] at hs'
          have hs2 := Option.some.inj hs'
          have p1 := A1.pop hst
          obtain ⟨dx2, ho2⟩ := p1.2.1.o
          refine ⟨_, rfl, x, C_Thinking, dx1, _, _, rfl, ho1, T.cl_Thinking, T.a_Thinking_stack, rfl, .inl ⟨rfl, _, SqL.of A1.hsk⟩, sk, _, _, rfl, rfl, A1.hsk, p1.1, rfl, _, rfl, iteD (fun h => ?_) (fun h => ?_)⟩
          · rw [if_pos (V.int.inj h)] at hs2
            refine ⟨_, rfl, x, C_Thinking, dx2, _, _, rfl, ho2, T.cl_Thinking, T.a_Thinking_at, rfl, _, rfl, _, _, rfl, rfl, dx2, _, ho2, by show 10 < 1000; decide, ?_⟩
            have q := p1.2.1.setO ho2 { m1 with st := r, at_ := m1.at_ + a } (n + 1) rfl rfl rfl
            rw [hs2] at q
            rw [← hs2] at q
            refine fin _ (hs2 ▸ q.1) ((p1.2.2.mono (by simp)).trans (q.2.1.mono (by simp)))
          · rw [if_neg (fun z => h (congrArg V.int z))] at hs2
            exact fin _ (hs2 ▸ p1.2.1) (p1.2.2.mono (by simp))
      | jump a =>
        refine ⟨_, rfl, rfl, _, rfl, iteDF (nes (show ("jump" : Str) ≠ "push" by decide +kernel)) ?_⟩
        refine ⟨_, rfl, rfl, _, rfl, iteDF (nes (show ("jump" : Str) ≠ "load" by decide +kernel)) ?_⟩
        refine ⟨_, rfl, rfl, _, rfl, iteDF (nes (show ("jump" : Str) ≠ "sign" by decide +kernel)) ?_⟩
        refine ⟨_, rfl, rfl, _, rfl, iteDT rfl ?_⟩
        cases hs
        refine ⟨_, rfl, x, C_Thinking, dx1, _, _, rfl, ho1, T.cl_Thinking, T.a_Thinking_at, rfl, _, rfl, _, _, rfl, rfl, dx1, _, ho1, by show 10 < 1000; decide, ?_⟩
        have q := A1.setO ho1 { m1 with at_ := m1.at_ + a } (n + 1) rfl rfl rfl
        exact fin _ q.1 (q.2.1.mono (by simp))
      | back a =>
        refine ⟨_, rfl, rfl, _, rfl, iteDF (nes (show ("back" : Str) ≠ "push" by decide +kernel)) ?_⟩
        refine ⟨_, rfl, rfl, _, rfl, iteDF (nes (show ("back" : Str) ≠ "load" by decide +kernel)) ?_⟩
        refine ⟨_, rfl, rfl, _, rfl, iteDF (nes (show ("back" : Str) ≠ "sign" by decide +kernel)) ?_⟩
        refine ⟨_, rfl, rfl, _, rfl, iteDF (nes (show ("back" : Str) ≠ "jump" by decide +kernel)) ?_⟩
        refine ⟨_, rfl, rfl, _, rfl, iteDF (nes (show ("back" : Str) ≠ "skip" by decide +kernel)) ?_⟩
        exact ⟨_, rfl, x, dx1, _, rfl, ho1, rfl, _, rfl, _, rfl, spec trivial⟩
      | unit =>
        refine ⟨_, rfl, rfl, _, rfl, iteDF (nes (show ("unit" : Str) ≠ "push" by decide +kernel)) ?_⟩
        refine ⟨_, rfl, rfl, _, rfl, iteDF (nes (show ("unit" : Str) ≠ "load" by decide +kernel)) ?_⟩
        refine ⟨_, rfl, rfl, _, rfl, iteDF (nes (show ("unit" : Str) ≠ "sign" by decide +kernel)) ?_⟩
        refine ⟨_, rfl, rfl, _, rfl, iteDF (nes (show ("unit" : Str) ≠ "jump" by decide +kernel)) ?_⟩
        refine ⟨_, rfl, rfl, _, rfl, iteDF (nes (show ("unit" : Str) ≠ "skip" by decide +kernel)) ?_⟩
        exact ⟨_, rfl, x, dx1, _, rfl, ho1, rfl, _, rfl, _, rfl, spec trivial⟩
      | lot =>
        refine ⟨_, rfl, rfl, _, rfl, iteDF (nes (show ("lot" : Str) ≠ "push" by decide +kernel)) ?_⟩
        refine ⟨_, rfl, rfl, _, rfl, iteDF (nes (show ("lot" : Str) ≠ "load" by decide +kernel)) ?_⟩
        refine ⟨_, rfl, rfl, _, rfl, iteDF (nes (show ("lot" : Str) ≠ "sign" by decide +kernel)) ?_⟩
        refine ⟨_, rfl, rfl, _, rfl, iteDF (nes (show ("lot" : Str) ≠ "jump" by decide +kernel)) ?_⟩
        refine ⟨_, rfl, rfl, _, rfl, iteDF (nes (show ("lot" : Str) ≠ "skip" by decide +kernel)) ?_⟩
        exact ⟨_, rfl, x, dx1, _, rfl, ho1, rfl, _, rfl, _, rfl, spec trivial⟩
      | store y =>
        refine ⟨_, rfl, rfl, _, rfl, iteDF (nes (show ("store" : Str) ≠ "push" by decide +kernel)) ?_⟩
        refine ⟨_, rfl, rfl, _, rfl, iteDF (nes (show ("store" : Str) ≠ "load" by decide +kernel)) ?_⟩
        refine ⟨_, rfl, rfl, _, rfl, iteDF (nes (show ("store" : Str) ≠ "sign" by decide +kernel)) ?_⟩
        refine ⟨_, rfl, rfl, _, rfl, iteDF (nes (show ("store" : Str) ≠ "jump" by decide +kernel)) ?_⟩
        refine ⟨_, rfl, rfl, _, rfl, iteDF (nes (show ("store" : Str) ≠ "skip" by decide +kernel)) ?_⟩
        exact ⟨_, rfl, x, dx1, _, rfl, ho1, rfl, _, rfl, _, rfl, spec trivial⟩
      | fin =>
        refine ⟨_, rfl, rfl, _, rfl, iteDF (nes (show ("end" : Str) ≠ "push" by decide +kernel)) ?_⟩
        refine ⟨_, rfl, rfl, _, rfl, iteDF (nes (show ("end" : Str) ≠ "load" by decide +kernel)) ?_⟩
        refine ⟨_, rfl, rfl, _, rfl, iteDF (nes (show ("end" : Str) ≠ "sign" by decide +kernel)) ?_⟩
        refine ⟨_, rfl, rfl, _, rfl, iteDF (nes (show ("end" : Str) ≠ "jump" by decide +kernel)) ?_⟩
        refine ⟨_, rfl, rfl, _, rfl, iteDF (nes (show ("end" : Str) ≠ "skip" by decide +kernel)) ?_⟩
        exact ⟨_, rfl, x, dx1, _, rfl, ho1, rfl, _, rfl, _, rfl, spec trivial⟩
end

def mc0 (cs : List Int) (u : Int) (tk : List (Int × Int)) : MC := ⟨0, [], cs, u, false, false, tk⟩
/-- what the machine is told -/
structure MIn (K : PySem.W.Frag) (CM CT : Addr) (H : Hp) (M ca vw tp rx tx cd : Addr) (u : Int) (ns : List Str) (c : List MI) (cs : List Int) (es : List Ev) (rs : List Int) (tk : List (Int × Int)) : Prop where
  m : ∃ ca0 ks, MdA K CM H M u ca0 cd ks ns c
  ca : H ca = some (.tup (cs.map V.int))
  vw : ∃ xs, H vw = some (.tup xs) ∧ Evs H xs es
  eo : EvsOk es
  el : es.length ≤ 30000
  ta : TapeAt CT H tp rx tx rs tk
def sp_tkinit (K : PySem.W.Frag) (C CM CT : Addr) : Sp := fun vs H Q _ => ∃ (x dx M ca vw tp rx tx cd : Addr) (u : Int) (ns : List Str) (c : List MI) (cs : List Int) (es : List Ev) (rs : List Int) (tk : List (Int × Int)), vs = [.ref x, .ref M, .ref ca, .ref vw, .ref tp] ∧ H x = some (.ins C dx []) ∧ MIn K CM CT H M ca vw tp rx tx cd u ns c cs es rs tk ∧ x ≠ tp ∧ M ≠ x ∧
  ∀ tb sk sn H', H tb = none → H sk = none → KAt K C CT H' x cd tb tp rx tx sk sn ns (nums es) rs c (mc0 cs u tk) 0 → Keep [x] H H' → Q .non H'
def sp_tbc (K : PySem.W.Frag) (CM CT : Addr) : Sp := fun vs H Q _ => ∃ (M ca vw tp rx tx cd : Addr) (u : Int) (ns : List Str) (c : List MI) (cs : List Int) (es : List Ev) (rs : List Int) (tk : List (Int × Int)) (count : Int) (N : Nat) (mF : MC), vs = [.ref M, .ref ca, .ref vw, .int count, .ref tp] ∧ MIn K CM CT H M ca vw tp rx tx cd u ns c cs es rs tk ∧
  Pth ns (nums es) rs c N (mc0 cs u tk) mF ∧ mF.done = true ∧ (mF.silent = false → mF.st ≠ []) ∧
  ∀ t ct H', H t = none → H' t = some (.tup [.int (if mF.silent = true then 0 else if mF.st.headD 0 ≥ count then 0 else mF.st.headD 0), .ref ct, .int (N : Nat)]) → H' ct = some (.tup ((if mF.silent = true then cs else mF.cells).map V.int)) → TapeAt CT H' tp rx tx rs mF.tk → Keep [tx] H H' → Q (.ref t) H'
section
variable {P : Program} {w : World} {K : PySem.W.Frag} {mg : Str → Option Value} {base : Heap} {C_Tape : Addr} {C_Thinker : Addr} {C_Brain : Addr} {C_Mind : Addr} {C_Frame : Addr} {C_Thinking : Addr} {C_Checker : Addr} {C_GameError : Addr} {C_BadCode : Addr} {f_BadCode___init : Addr} {T_EVENTS : Addr} {T_SIGNS : Addr} {T_ROUND_NAMES : Addr} {T_BRAIN_NAMES : Addr} {T_EFFECTS : Addr}
theorem ok_frinit {f : Addr} {fd : FuncData} (F : C8.Fun K "__init__" "Frame.__init__" s_Frame___init f fd) (T : Txt K mg C_Tape C_Thinker C_Brain C_Mind C_Frame C_Thinking C_Checker C_GameError C_BadCode T_EVENTS T_SIGNS T_ROUND_NAMES T_BRAIN_NAMES T_EFFECTS) : FnOk P w K mg base C8.CX0 1 f fd ["self", "code", "table", "tape"] (sp_frinit C_Thinking) := by
  refine C8.fn0 F sc_Frame___init (fun vs H Q E h => ?_) (fun cdv A outer s H vs Q E hr h => ?_)
  · obtain ⟨x, dx, cd, tb, tp, rfl, _⟩ := h
    rfl
  · obtain ⟨x, dx, cd, tb, tp, rfl, hx, k⟩ := h
    refine ⟨_, (pss_cons (ps_fld (pv 0) (pv 1) rfl)
(pss_cons (ps_fld (pv 0) (pv 2) rfl)
(pss_cons (ps_fld (pv 0) (pv 3) rfl)
(pss_cons (ps_fld (pv 0) pe_int rfl)
(pss_cons (ps_fld (pv 0) (pe_lst pa_nil) rfl)
(pss_one (ps_fld (pv 0) pe_int rfl))))))), ?_⟩
    have mx : x ∈ [x] := List.mem_singleton.mpr rfl
    refine ⟨_, rfl, _, rfl, x, C_Thinking, dx, [], rfl, hx, T.cl_Thinking, T.a_Thinking_code, by show 0 < 1000; decide, ?_⟩
    refine ⟨_, rfl, _, rfl, x, C_Thinking, dx, _, rfl, upd_same, T.cl_Thinking, T.a_Thinking_table, by show 1 < 1000; decide, ?_⟩
    refine ⟨_, rfl, _, rfl, x, C_Thinking, dx, _, rfl, upd_same, T.cl_Thinking, T.a_Thinking_tape, by show 2 < 1000; decide, ?_⟩
    refine ⟨_, rfl, x, C_Thinking, dx, _, rfl, upd_same, T.cl_Thinking, T.a_Thinking_at, by show 3 < 1000; decide, ?_⟩
    rw [upd_upd, upd_upd, upd_upd]
    refine And.intro (by show 0 ≤ sizeLine; decide) <| fun sk nsk => ?_
    have nx : x ≠ sk := ne_of_none (H := upd H x _) upd_same nsk
    refine ⟨_, rfl, x, C_Thinking, dx, _, rfl, by rw [upd_ne nx]; exact upd_same, T.cl_Thinking, T.a_Thinking_stack, by show 4 < 1000; decide, ?_⟩
    refine ⟨_, rfl, x, C_Thinking, dx, _, rfl, upd_same, T.cl_Thinking, T.a_Thinking_steps, by show 5 < 1000; decide, ?_⟩
    rw [upd_upd]
    have nsk0 : H sk = none := by rw [upd_ne nx.symm] at nsk; exact nsk
    exact k sk _ nsk0 (by rw [upd_ne nx.symm]; exact upd_same) upd_same (((Keep.at_ mx).then_own nsk0).then_at mx)
theorem ok_tkinit {f f0 : Addr} {fd fd0 : FuncData} (M : Mk K C_Thinking f) (F : FunS P K "Thinking.__init__" s_Thinking___init f fd C_Thinking) (b : Binds K fd ["self", "mind", "cells", "view", "tape"] []) (U : SupOk P K mg C_Thinking f0) (F0 : FnOk P w K mg base C8.CX0 1 f0 fd0 ["self", "code", "table", "tape"] (sp_frinit C_Thinking)) (b0 : Binds K fd0 ["self", "code", "table", "tape"] []) (T : Txt K mg C_Tape C_Thinker C_Brain C_Mind C_Frame C_Thinking C_Checker C_GameError C_BadCode T_EVENTS T_SIGNS T_ROUND_NAMES T_BRAIN_NAMES T_EFFECTS)
    (c_view_numbers : C8.Cal P w K mg base 1 "view_numbers" sp_views []) : C8.Mak P w K mg base 2 "Thinking" C_Thinking (sp_tkinit K C_Thinking C_Mind C_Tape) [] := by
  refine ⟨f, fd, ["self", "mind", "cells", "view", "tape"], [], M, ?_, T.m_Thinking, b, .nil⟩
  refine fn_super (k := 1) F sc_Thinking___init (fun vs H Q E h => ?_) U F0 b0 .nil (Nat.le_refl 1) rfl rfl rfl (by decide +kernel) (by decide +kernel) (fun _ => rfl) (fun _ => rfl) (fun _ => rfl) (fun cdv cc A outer s H vs Q E hr h => ?_)
  · obtain ⟨x, dx, M, ca, vw, tp, rx, tx, cd, u, ns, c, cs, es, rs, tk, rfl, _⟩ := h
    rfl
  · obtain ⟨x, dx, M, ca, vw, tp, rx, tx, cd, u, ns, c, cs, es, rs, tk, rfl, hx, hI, nxt, nMx, k⟩ := h
    refine ⟨_, _, x, dx, [], _, rfl, hx, (pa_cons (pe_fld (pv 1) rfl) (pa_cons (pe_callTy call_list_of (by rfl) T.n_list bo_list (pa_cons (pv 2) pa_nil)) (pa_cons (pv 4) pa_nil))), (pss_cons (ps_fld (pv 0) (pe_fld (pv 1) rfl) rfl)
(pss_cons (ps_fld (pv 0) (pe_c c_view_numbers hr (by first | exact Nat.le_refl _ | decide | omega) rfl (pa_cons (pv 3) pa_nil)) rfl)
(pss_cons (ps_fld (pv 0) pe_bl rfl)
(pss_one (ps_fld (pv 0) pe_bl rfl))))), fun q nq => ?_⟩
    obtain ⟨ca0, ks, ⟨dM, oM⟩, hca0, ws, hcd, hml⟩ := id hI.m
    obtain ⟨xs, hvw, hE⟩ := hI.vw
    have kq : Keep [] H (upd H q (.met f0 x)) := Keep.new nq
    refine ⟨_, rfl, M, C_Mind, dM, _, _, rfl, kq _ _ oM (by simp), T.cl_Mind, T.a_Mind_code, rfl, _, rfl, _, _, rfl, .inr (SqT.of (kq _ _ hI.ca (by simp))), fun tb ntb => ⟨_, rfl, ?_⟩⟩
    have k1 : Keep [] H (upd (upd H q (.met f0 x)) tb (.lst (cs.map V.int))) := kq.then_new ntb
    have hq1 : upd (upd H q (.met f0 x)) tb (.lst (cs.map V.int)) q = some (.met f0 x) := Keep.new (W := []) ntb _ _ upd_same (by simp)
    refine ⟨hq1, x, dx, cd, tb, tp, rfl, k1 _ _ hx (by simp), fun sk H2 nsk hsk hx2 K2 => ?_⟩
    have ntb0 : H tb = none := kq.free ntb
    have nsk0 : H sk = none := k1.free nsk
    have htb2 : H2 tb = some (.lst (cs.map V.int)) := K2 _ _ upd_same (by have := ne_of_none hx ntb0; simpa using this.symm)
    have ntk : tb ≠ sk := ne_of_none (H := upd (upd H q (.met f0 x)) tb (.lst (cs.map V.int))) upd_same nsk
    have K02 : Keep [x] H H2 := (k1.mono (by simp)).trans K2
    have tk02 : TK H H2 := fun b zs e => K02 _ _ e (by have := ne_of e hx (by intro z; cases z); simpa using this)
    have mx : x ∈ [x] := List.mem_singleton.mpr rfl
    have oM2 := K02 _ _ oM (by simpa using nMx)
    refine ⟨_, rfl, M, C_Mind, dM, _, _, rfl, oM2, T.cl_Mind, T.a_Mind_units, rfl, _, rfl, x, C_Thinking, dx, _, rfl, hx2, T.cl_Thinking, T.a_Thinking_left, by show 6 < 1000; decide, ?_⟩
    generalize hH3 : upd H2 x _ = H3
    have hx3 : H3 x = some (.ins C_Thinking dx [("code", .ref cd), ("table", .ref tb), ("tape", .ref tp), ("at", .int 0), ("stack", .ref sk), ("steps", .int 0), ("left", .int u)]) := by rw [← hH3]; exact upd_same
    have K23 : Keep [x] H2 H3 := by rw [← hH3]; exact Keep.at_ mx
    have K03 := K02.trans K23
    have tk03 : TK H H3 := fun b zs e => K03 _ _ e (by have := ne_of e hx (by intro z; cases z); simpa using this)
    refine ⟨_, rfl, vw, xs, es, rfl, tk03 _ _ hvw, hE.tk tk03, hI.eo, hI.el, fun sn H4 nsn hsn K4 => ⟨_, rfl, x, C_Thinking, dx, _, rfl, K4 _ _ hx3 (by simp), T.cl_Thinking, T.a_Thinking_seen, by show 7 < 1000; decide, ?_⟩⟩
    refine ⟨_, rfl, x, C_Thinking, dx, _, rfl, upd_same, T.cl_Thinking, T.a_Thinking_silent, by show 8 < 1000; decide, ?_⟩
    refine ⟨_, rfl, x, C_Thinking, dx, _, rfl, upd_same, T.cl_Thinking, T.a_Thinking_done, by show 9 < 1000; decide, ?_⟩
    rw [upd_upd, upd_upd]
    have K04 := K03.trans (K4.mono (by simp))
    have ex : ∀ {a : Addr} {o : HO}, H4 a = some o → (∀ d gs, o ≠ .ins C_Thinking d gs) → ∀ u, upd H4 x u a = some o := fun h1 h2 u => by
      rw [upd_ne (fun z => by rw [z, K4 _ _ hx3 (by simp)] at h1; exact h2 _ _ (Option.some.inj h1).symm)]; exact h1
    have htb4 := K4 _ _ (K23 _ _ htb2 (by have := ne_of_none hx ntb0; simpa using this.symm)) (by simp)
    have hsk4 := K4 _ _ (K23 _ _ hsk (by have := ne_of_none hx nsk0; simpa using this.symm)) (by simp)
    generalize hH5 : upd H4 x _ = H5
    have K45 : Keep [x] H4 H5 := by rw [← hH5]; exact Keep.at_ mx
    have K05 := K04.trans K45
    have tk05 : TK H H5 := fun b zs e => K05 _ _ e (by have := ne_of e hx (by intro z; cases z); simpa using this)
    have tk45 : TK H4 H5 := fun b zs e => by rw [← hH5]; exact ex e (by intro _ _ z; cases z) _
    obtain ⟨ys, ty, _⟩ := hI.ta.t
    obtain ⟨dt, ot⟩ := hI.ta.o
    refine k tb sk sn _ ntb0 nsk0 ⟨⟨dx, by rw [← hH5]; exact upd_same⟩, ⟨ws, tk05 _ _ hcd, hml.tk tk05⟩, ?_, ?_, tk45 _ _ hsn, ?_, ntk, ?_, ?_, ?_, ?_, nxt⟩ K05
    · rw [← hH5]; exact ex htb4 (by intro _ _ z; cases z) _
    · rw [← hH5]; exact ex hsk4 (by intro _ _ z; cases z) _
    · refine hI.ta.keep K05 tk05 (by simpa using nxt.symm) ?_ ?_
      · have := ne_of hI.ta.r hx (by intro z; cases z); simpa using this
      · have := ne_of ty hx (by intro z; cases z); simpa using this
    · exact (ne_of_none hI.ta.r ntb0).symm
    · exact (ne_of_none ty ntb0).symm
    · exact (ne_of_none hI.ta.r nsk0).symm
    · exact (ne_of_none ty nsk0).symm
theorem ok_tbc {f : Addr} {fd : FuncData} (D : C8.Def K mg "think_by_code" s_think_by_code f fd) (b : Binds K fd ["mind", "cells", "view", "count", "tape"] []) (T : Txt K mg C_Tape C_Thinker C_Brain C_Mind C_Frame C_Thinking C_Checker C_GameError C_BadCode T_EVENTS T_SIGNS T_ROUND_NAMES T_BRAIN_NAMES T_EFFECTS) (c_Thinking : C8.Mak P w K mg base 2 "Thinking" C_Thinking (sp_tkinit K C_Thinking C_Mind C_Tape) []) (c_Thinking_advance : C8.Met P w K mg base 3 C_Thinking "advance" (sp_adv K C_Thinking C_Tape) []) : C8.Cal P w K mg base 4 "think_by_code" (sp_tbc K C_Mind C_Tape) [] := by
  refine cal0 D b .nil sc_think_by_code (fun vs H Q E h => ?_) (fun cdv A outer s H vs Q E hr h => ?_)
  · obtain ⟨M, ca, vw, tp, rx, tx, cd, u, ns, c, cs, es, rs, tk, count, N, mF, rfl, _⟩ := h
    rfl
  · obtain ⟨M, ca, vw, tp, rx, tx, cd, u, ns, c, cs, es, rs, tk, count, N, mF, rfl, hI, hP, hdone, hne, k⟩ := h
    refine ⟨_, (pss_cons (ps_set (i := 5) sc_think_by_code.nd rfl (by first | exact Or.inl rfl | exact Or.inr rfl) (pe_mk c_Thinking hr (by first | exact Nat.le_refl _ | decide | omega) rfl (pa_cons (pv 0) (pa_cons (pv 1) (pa_cons (pv 2) (pa_cons (pv 4) pa_nil))))))
(pss_cons (ps_while PassesOwn.never (pt_not (pt_truth (pe_fld (pv 5) rfl) (by intro _; rfl)))
  (pss_one (ps_expr (pe_mt0 c_Thinking_advance hr (by first | exact Nat.le_refl _ | decide | omega) (pv 5)))))
(pss_cons (ps_if (pt_truth (pe_fld (pv 5) rfl) (by intro _; rfl))
  (pss_one (ps_ret (pe_tup (pa_cons pe_int (pa_cons (pe_callTy call_tuple_of (by rfl) T.n_tuple bo_tuple (pa_cons (pv 1) pa_nil)) (pa_cons (pe_fld (pv 5) rfl) pa_nil))))))
  pss_nil)
(pss_cons (ps_set (i := 6) sc_think_by_code.nd rfl (by first | exact Or.inl rfl | exact Or.inr rfl) (pe_bm0 PySem.F.plainAttrs_list PySem.F.slot_list_pop PySem.F.type_list_pop mt_pop (pe_fld (pv 5) rfl)))
(pss_cons (ps_if (pt_cmpR op_ge (pv 6) (pv 3) (nomark _))
  (pss_one (ps_set (i := 6) sc_think_by_code.nd rfl (by first | exact Or.inl rfl | exact Or.inr rfl) pe_int))
  pss_nil)
(pss_one (ps_ret (pe_tup (pa_cons (pv 6) (pa_cons (pe_callTy call_tuple_of (by rfl) T.n_tuple bo_tuple (pa_cons (pe_fld (pv 5) rfl) pa_nil)) (pa_cons (pe_fld (pv 5) rfl) pa_nil))))))))))), ?_⟩
    obtain ⟨ca0, ks, ⟨dM, oM⟩, hca0, ws, hcd, hml⟩ := id hI.m
    obtain ⟨xs, hvw, hE⟩ := id hI.vw
    obtain ⟨dt, ot⟩ := hI.ta.o
    obtain ⟨ys, ty, _⟩ := id hI.ta.t
    refine ⟨_, rfl, _, rfl, _, rfl, _, rfl, fun x dx nx nd ne => ?_⟩
    have km : Keep [] H (upd (upd H dx (.own x)) x (.ins C_Thinking dx [])) := Keep.made nx nd
    refine ⟨x, dx, M, ca, vw, tp, rx, tx, cd, u, ns, c, cs, es, rs, tk, rfl, upd_same, ⟨⟨ca0, ks, ⟨dM, km _ _ oM (by simp)⟩, km _ _ hca0 (by simp), ws, km _ _ hcd (by simp), hml.tk km.tk⟩, km _ _ hI.ca (by simp), ⟨xs, km _ _ hvw (by simp), hE.tk km.tk⟩, hI.eo, hI.el, hI.ta.keep km km.tk (by simp) (by simp) (by simp)⟩, (ne_of_none ot nx).symm, ne_of_none oM nx, fun tb sk sn H1 ntb nsk A1 K1 => ⟨rfl, ?_⟩⟩
    have k01 : Keep [] H H1 := keep_made nx nd K1
    have ntb0 := km.free ntb
    have nsk0 := km.free nsk
    have lose : ∀ {H2 : Hp}, Keep [x, tb, sk, tx] H1 H2 → Keep [tx] H H2 := fun K2 a o h w => K2 _ _ (k01 _ _ h (by simp)) (by
      have h1 := ne_of_none h nx
      have h2 := ne_of_none h ntb0
      have h3 := ne_of_none h nsk0
      have h4 : a ≠ tx := by simpa using w
      simp [h1, h2, h3, h4])
    refine ⟨fun n σ H' => ∃ (m : MC) (j : Nat), σ = [some (.ref M), some (.ref ca), some (.ref vw), some (.int count), some (.ref tp), some (.ref x), none] ∧ KAt K C_Thinking C_Tape H' x cd tb tp rx tx sk sn ns (nums es) rs c m j ∧ Pth ns (nums es) rs c n m mF ∧ j + n = N ∧ Keep [x, tb, sk, tx] H1 H', ⟨N, _, 0, rfl, A1, hP, by omega, Keep.refl _ _⟩, ?_⟩
    rintro n σ H2 ⟨m, j, rfl, A2, P2, hj, K2⟩
    obtain ⟨dx2, ho2⟩ := A2.o
    cases P2 with
    | step hd hs P3 =>
      refine ⟨_, rfl, x, C_Thinking, dx2, _, _, rfl, ho2, T.cl_Thinking, T.a_Thinking_done, rfl, false, hd.symm, iteT ⟨_, fun _ _ z => z, ?_⟩⟩
      exact ⟨_, rfl, x, dx2, _, rfl, ho2, rfl, x, cd, tb, tp, rx, tx, sk, sn, ns, nums es, rs, c, m, _, j, rfl, A2, hs, fun H3 A3 K3 => ⟨_, Nat.lt_succ_self _, _, j + 1, rfl, A3, P3, by omega, K2.trans K3⟩⟩
    | refl _ =>
      refine ⟨_, rfl, x, C_Thinking, dx2, _, _, rfl, ho2, T.cl_Thinking, T.a_Thinking_done, rfl, true, hdone.symm, iteF ?_⟩
      have ej : j = N := hj
      subst ej
      have kx := lose K2
      have hca2 := kx _ _ hI.ca (by have := ne_of hI.ca ty (by intro z; cases z); simpa using this)
      cases hsi : mF.silent with
      | true =>
        refine ⟨_, rfl, x, C_Thinking, dx2, _, _, rfl, ho2, T.cl_Thinking, T.a_Thinking_silent, rfl, true, hsi.symm, iteT ?_⟩
        refine ⟨_, rfl, _, _, rfl, .inr ⟨SqT.of hca2, _, rfl, x, C_Thinking, dx2, _, _, rfl, ho2, T.cl_Thinking, T.a_Thinking_steps, rfl, by show 3 ≤ sizeLine; decide, fun t nt => ?_⟩⟩
        have kt : Keep [] H2 (upd H2 t (.tup [.int 0, .ref ca, .int (j : Nat)])) := Keep.new nt
        rw [hsi] at k
        obtain ⟨ws2, w1, _⟩ := id A2.hta.t
        exact k t ca _ (kx.free1 w1 nt) upd_same (kt _ _ hca2 (by simp)) (A2.hta.keep kt kt.tk (by simp) (by simp) (by simp)) (kx.trans (kt.mono (by simp)))
      | false =>
        rw [hsi] at k
        refine ⟨_, rfl, x, C_Thinking, dx2, _, _, rfl, ho2, T.cl_Thinking, T.a_Thinking_silent, rfl, false, hsi.symm, iteF ?_⟩
        obtain ⟨v, r, hst⟩ : ∃ v r, mF.st = v :: r := by
          cases e : mF.st with
          | nil => exact absurd e (hne hsi)
          | cons v r => exact ⟨v, r, rfl⟩
        have p1 := A2.pop hst
        rw [hst] at k
        refine ⟨_, rfl, x, C_Thinking, dx2, _, _, rfl, ho2, T.cl_Thinking, T.a_Thinking_stack, rfl, .inl ⟨rfl, _, SqL.of A2.hsk⟩, sk, _, _, rfl, rfl, A2.hsk, p1.1, ?_⟩
        have K3 : Keep [x, tb, sk, tx] H1 (upd H2 sk (.lst (mF.st.reverse.map V.int).dropLast)) := K2.trans (p1.2.2.mono (by simp))
        have A3 := p1.2.1
        generalize upd H2 sk (.lst (mF.st.reverse.map V.int).dropLast) = H3 at *
        have kx3 := lose K3
        obtain ⟨dx3, ho3⟩ := A3.o
        obtain ⟨ws2, w1, _⟩ := id A3.hta.t
        have fin : ∀ (z : Int), z = (if v ≥ count then 0 else v) → ∀ l, H3 l = none → ∀ t, upd H3 l (.tup (mF.cells.map V.int)) t = none → Q (.ref t) (upd (upd H3 l (.tup (mF.cells.map V.int))) t (.tup [.int z, .ref l, .int (j : Nat)])) := by
          intro z hz l nl t nt
          have k6 : Keep [] H3 (upd H3 l (.tup (mF.cells.map V.int))) := Keep.new nl
          have k7 := k6.then_new (o := .tup [.int z, .ref l, .int (j : Nat)]) nt
          subst hz
          exact k t l _ (kx3.free1 w1 (k6.free nt)) upd_same (Keep.new (W := []) nt _ _ upd_same (by simp)) (A3.hta.keep k7 k7.tk (by simp) (by simp) (by simp)) (kx3.trans (k7.mono (by simp)))
        refine ⟨_, rfl, _, rfl, _, _, rfl, rfl, _, rfl, iteD (fun h => ?_) (fun h => ?_)⟩
        · have h' : v ≥ count := h
          refine ⟨_, rfl, _, rfl, x, C_Thinking, dx3, _, _, rfl, ho3, T.cl_Thinking, T.a_Thinking_table, rfl, _, _, rfl, .inl ⟨SqL.of A3.htb, fun l nl => ?_⟩⟩
          refine ⟨_, rfl, x, C_Thinking, dx3, _, _, rfl, Keep.new (W := []) nl _ _ ho3 (by simp), T.cl_Thinking, T.a_Thinking_steps, rfl, by show 3 ≤ sizeLine; decide, fun t nt => ?_⟩
          exact fin 0 (by rw [if_pos h']) l nl t nt
        · have h' : ¬ v ≥ count := h
          refine ⟨_, rfl, _, rfl, x, C_Thinking, dx3, _, _, rfl, ho3, T.cl_Thinking, T.a_Thinking_table, rfl, _, _, rfl, .inl ⟨SqL.of A3.htb, fun l nl => ?_⟩⟩
          refine ⟨_, rfl, x, C_Thinking, dx3, _, _, rfl, Keep.new (W := []) nl _ _ ho3 (by simp), T.cl_Thinking, T.a_Thinking_steps, rfl, by show 3 ≤ sizeLine; decide, fun t nt => ?_⟩
          exact fin v (by rw [if_neg h']) l nl t nt
end

end Th
namespace Th
def sp_lseen : Sp := fun vs H Q _ => ∃ q xs es, vs = [.ref q] ∧ H q = some (.tup xs) ∧ Evs H xs es ∧ EvsOk es ∧ es.length ≤ 30000 ∧ ∀ t H', H t = none → H' t = some (.lst ((nums es).map V.int)) → Keep [] H H' → Q (.ref t) H'
def sp_lfall : Sp := fun vs H Q _ => ∃ (rl tl : Addr) (rs : List Int) (tk : List (Int × Int)) (xs : List V) (c : Int), vs = [.ref rl, .ref tl, .int c] ∧ 0 < c ∧ c < 1073741824 ∧ H rl = some (.lst (rs.map V.int)) ∧ H tl = some (.lst xs) ∧ PL H xs tk ∧ tk.length ≤ 900000 ∧ tl ≠ rl ∧
  ∀ H', Keep [tl] H H' → (∃ ys, H' tl = some (.lst ys) ∧ PL H' ys (tk ++ [(nextR rs tk c, c)])) → Q (.int (nextR rs tk c)) H'
def sp_lcomb : Sp := fun vs H Q _ => ∃ s a b, vs = [.int ((idx sgL s : Nat) : Int), .int a, .int b] ∧ s ∈ sgL ∧ 0 ≤ a ∧ a < 65536 ∧ 0 ≤ b ∧ b < 65536 ∧ Q (.int (comb s a b)) H
theorem sg_cases2 {s : Str} (h : s ∈ sgL) : (s = "+" ∧ idx sgL s = 0) ∨ (s = "-" ∧ idx sgL s = 1) ∨ (s = "*" ∧ idx sgL s = 2) ∨ (s = "/" ∧ idx sgL s = 3) ∨ (s = "mod" ∧ idx sgL s = 4) ∨ (s = "<" ∧ idx sgL s = 5) ∨ (s = "=" ∧ idx sgL s = 6) := by
  rcases sg_cases h with rfl | rfl | rfl | rfl | rfl | rfl | rfl
  · exact .inl (by decide +kernel)
  · exact .inr (.inl (by decide +kernel))
  · exact .inr (.inr (.inl (by decide +kernel)))
  · exact .inr (.inr (.inr (.inl (by decide +kernel))))
  · exact .inr (.inr (.inr (.inr (.inl (by decide +kernel)))))
  · exact .inr (.inr (.inr (.inr (.inr (.inl (by decide +kernel))))))
  · exact .inr (.inr (.inr (.inr (.inr (.inr (by decide +kernel))))))
theorem nei {a b : Int} (h : a ≠ b) : ¬ V.int a = V.int b := fun z => h (V.int.inj z)
section
variable {P : Program} {w : World} {K : PySem.W.Frag} {mg : Str → Option Value} {base : Heap} {C_Tape : Addr} {C_Thinker : Addr} {C_Brain : Addr} {C_Mind : Addr} {C_Frame : Addr} {C_Thinking : Addr} {C_Checker : Addr} {C_GameError : Addr} {C_BadCode : Addr} {f_BadCode___init : Addr} {T_EVENTS : Addr} {T_SIGNS : Addr} {T_ROUND_NAMES : Addr} {T_BRAIN_NAMES : Addr} {T_EFFECTS : Addr}
theorem ok_lseen {f : Addr} {fd : FuncData} (D : C8.Def K mg "_law_seen" s_law_seen f fd) (b : Binds K fd ["view"] []) (T : Txt K mg C_Tape C_Thinker C_Brain C_Mind C_Frame C_Thinking C_Checker C_GameError C_BadCode T_EVENTS T_SIGNS T_ROUND_NAMES T_BRAIN_NAMES T_EFFECTS) : C8.Cal P w K mg base 1 "_law_seen" sp_lseen [] := by
  refine cal0 D b .nil sc_law_seen (fun vs H Q E h => ?_) (fun cdv A outer s H vs Q E hr h => ?_)
  · obtain ⟨q, xs, es, rfl, _⟩ := h
    rfl
  · obtain ⟨q, xs, es, rfl, hq, hE, hok, hlen, k⟩ := h
    refine ⟨_, (pss_cons (ps_set (i := 1) sc_law_seen.nd rfl (by first | exact Or.inl rfl | exact Or.inr rfl) (pe_lst pa_nil))
(pss_cons (ps_for PassesOwn.never rfl (pi_tup (pv 0)) (pg_name (i := 2) sc_law_seen.nd rfl (by first | exact Or.inl rfl | exact Or.inr rfl))
  (pss_cons (ps_set (i := 3) sc_law_seen.nd rfl (by first | exact Or.inl rfl | exact Or.inr rfl) (pe_op op_cat (pe_callTy call_list_of (by rfl) T.n_list bo_list (pa_cons (pe_slice sl_tup (pv 2) (po_some pe_int) po_none) pa_nil)) (pe_lst (pa_cons pe_int pa_nil))))
  (pss_one (ps_set (i := 1) sc_law_seen.nd rfl (by first | exact Or.inl rfl | exact Or.inr rfl) (pe_op op_cat (pv 1) (pe_lst (pa_cons (pe_op op_add (pe_bmZ PySem.F.plainAttrs_tuple PySem.F.slot_tuple_index PySem.F.type_tuple_index mt_tup_index (pe_tupZ (pa_cons pe_str (pa_cons pe_str (pa_cons pe_str (pa_cons pe_str pa_nil))))) (pa_cons (pe_ix ix_tup (pv 2) pe_int (fun _ _ => rfl)) pa_nil)) pe_int) (pa_cons (pe_ix ix_list (pv 3) pe_int (fun _ _ => rfl)) (pa_cons (pe_ix ix_list (pv 3) pe_int (fun _ _ => rfl)) pa_nil)))))))))
(pss_one (ps_ret (pv 1))))), ?_⟩
    refine ⟨Nat.zero_le _, fun l nl => ?_⟩
    have hl := hE.len
    refine ⟨_, rfl, q, rfl, ⟨_, SqT.of (Keep.new (W := []) nl _ _ hq (by simp))⟩, for_tup (K := K) (a := q) (xs := xs) (fun i σ H' => ∃ (l : Addr) (o o2 : Option V), σ = [some (.ref q), some (.ref l), o, o2] ∧ H l = none ∧ H' l = some (.lst ((nums (es.take i)).map V.int)) ∧ Keep [] H H')
      ⟨l, none, none, rfl, nl, upd_same, Keep.new nl⟩ (fun i σ H' _ ⟨_, _, _, _, _, _, K'⟩ => SqT.of (K' _ _ hq (by simp))) ?_ ?_⟩
    · rintro i v σ H1 hv ⟨l, o, o2, rfl, nl, h1, K1⟩
      obtain ⟨p, e, rfl, hg, he⟩ := hE.get hv
      obtain ⟨hlt, hget⟩ := List.getElem?_eq_some_iff.mp hg
      have hee := hok e (hget ▸ List.getElem_mem hlt)
      have hi := evI_at _ hee.w
      have ll := nums_len (es.take i)
      rw [List.length_take] at ll
      have he1 := K1 _ _ he (by simp)
      obtain ⟨w0, a0, b0⟩ := e
      have hs0 : (evD ⟨w0, a0, b0⟩)[0]? = some (.str w0) := by cases b0 <;> rfl
      have hdl : 2 ≤ (evD ⟨w0, a0, b0⟩).length ∧ (evD ⟨w0, a0, b0⟩).length ≤ 3 := by cases b0 with
        | none => exact ⟨by show 2 ≤ 2; decide, by show 2 ≤ 3; decide⟩
        | some b => exact ⟨by show 2 ≤ 3; decide, by show 3 ≤ 3; decide⟩
      refine ⟨_, rfl, _, rfl, p, _, rfl, SqT.of he1, ?_, fun sl nsl => ?_⟩
      · rintro ⟨h, _⟩
        rw [show (1 : Int) = ((1 : Nat) : Int) from rfl, HT.sIx_nat] at h
        omega
      rw [show (1 : Int) = ((1 : Nat) : Int) from rfl, cutFrom (by omega)]
      have k1 : Keep [] H1 (upd H1 sl (.tup ((evD ⟨w0, a0, b0⟩).drop 1))) := Keep.new nsl
      refine ⟨_, _, rfl, .inr (SqT.of upd_same), fun l1 n1 => And.intro (by show 1 ≤ sizeLine; decide) <| fun l2 n2 => ?_⟩
      have k2 := k1.then_new (o := .lst ((evD ⟨w0, a0, b0⟩).drop 1)) n1
      have k3 := k2.then_new (o := .lst [.int 0]) n2
      refine ⟨l1, l2, _, _, rfl, rfl, Keep.new (W := []) n2 _ _ upd_same (by simp), upd_same, smallM (by rw [List.length_drop]; simp; omega), fun l3 n3 => ?_⟩
      have k4 := k3.then_new (o := .lst ((evD ⟨w0, a0, b0⟩).drop 1 ++ [.int 0])) n3
      have e0 : ((evD ⟨w0, a0, b0⟩).drop 1 ++ [V.int 0])[0]? = some (.int a0) := by cases b0 <;> rfl
      have e1 : ((evD ⟨w0, a0, b0⟩).drop 1 ++ [V.int 0])[1]? = some (.int (b0.getD 0)) := by cases b0 <;> rfl
      refine ⟨_, rfl, And.intro (by show 4 ≤ sizeLine; decide) <| fun z oz nz cz dz => ?_⟩
      have k5 := k4.then_new (o := .frz oz (.tup (evL.map V.str))) nz
      refine ⟨_, _, rfl, ⟨oz, upd_same, cz, dz⟩, _, rfl, _, _, _, _, rfl, rfl, SqT.of (k5 _ _ he1 (by simp)), atI_nat (j := 0) hs0, _, evL, _, _, rfl, rfl, TupD.sq ⟨oz, upd_same, cz, dz⟩, hi.1, hi.2.1, _, _, rfl, rfl, ?_⟩
      have h3 := Keep.new (W := []) nz (o := .frz oz (.tup (evL.map V.str))) _ _ (upd_same (H := upd (upd (upd H1 sl (.tup ((evD ⟨w0, a0, b0⟩).drop 1))) l1 (.lst ((evD ⟨w0, a0, b0⟩).drop 1))) l2 (.lst [.int 0])) (a := l3) (o := .lst ((evD ⟨w0, a0, b0⟩).drop 1 ++ [.int 0]))) (by simp)
      refine ⟨_, rfl, _, _, _, _, rfl, rfl, SqL.of h3, atI_nat (j := 0) e0, _, rfl, _, _, _, _, rfl, rfl, SqL.of h3, atI_nat (j := 1) e1, And.intro (by show 3 ≤ sizeLine; decide) <| fun l4 n4 => ?_⟩
      have k6 := k5.then_new (o := .lst [.int ((evI w0 : Int) + 1), .int a0, .int (b0.getD 0)]) n4
      refine ⟨l, l4, _, _, rfl, rfl, k6 _ _ h1 (by simp), upd_same, smallM (by rw [List.length_map]; simp; omega), fun r nr => ?_⟩
      have k7 := (K1.trans k6).then_new (o := .lst ((nums (es.take i)).map V.int ++ [.int ((evI w0 : Int) + 1), .int a0, .int (b0.getD 0)])) nr
      refine ⟨r, _, _, rfl, (K1.trans k6).free nr, ?_, k7⟩
      rw [upd_same, List.take_succ_eq_append_getElem hlt, hget, nums_snoc, List.map_append]
      rfl
    · rintro σ H1 ⟨l, o, o2, rfl, nl, h1, K1⟩
      rw [hl, List.take_length] at h1
      exact ⟨_, rfl, k l _ nl h1 K1⟩
theorem ok_lfall {f : Addr} {fd : FuncData} (D : C8.Def K mg "_law_fall" s_law_fall f fd) (b : Binds K fd ["results", "taken", "count"] []) (T : Txt K mg C_Tape C_Thinker C_Brain C_Mind C_Frame C_Thinking C_Checker C_GameError C_BadCode T_EVENTS T_SIGNS T_ROUND_NAMES T_BRAIN_NAMES T_EFFECTS) : C8.Cal P w K mg base 1 "_law_fall" sp_lfall [] := by
  refine cal0 D b .nil sc_law_fall (fun vs H Q E h => ?_) (fun cdv A outer s H vs Q E hr h => ?_)
  · obtain ⟨rl, tl, rs, tk, xs, c, rfl, _⟩ := h
    rfl
  · obtain ⟨rl, tl, rs, tk, xs, c, rfl, c0, c1, hr1, ht, pl, hl, hne, k⟩ := h
    refine ⟨_, (pss_cons (ps_set (i := 3) sc_law_fall.nd rfl (by first | exact Or.inl rfl | exact Or.inr rfl) pe_int)
(pss_cons (ps_if (pt_cmpR op_lt (pe_callB call_len_seq (by rfl) T.n_len bo_len (pa_cons (pv 1) pa_nil)) (pe_callB call_len_seq (by rfl) T.n_len bo_len (pa_cons (pv 0) pa_nil)) (nomark _))
  (pss_one (ps_set (i := 3) sc_law_fall.nd rfl (by first | exact Or.inl rfl | exact Or.inr rfl) (pe_op op_mod (pe_callTy call_int1 (by rfl) T.n_int bo_int (pa_cons (pe_ix ix_list (pv 0) (pe_callB call_len_seq (by rfl) T.n_len bo_len (pa_cons (pv 1) pa_nil)) (fun _ _ => rfl)) pa_nil)) (pv 2))))
  pss_nil)
(pss_cons (ps_expr (pe_bm PySem.F.plainAttrs_list PySem.F.slot_list_append PySem.F.type_list_append mt_append (pv 1) (pa_cons (pe_tup (pa_cons (pv 3) (pa_cons (pv 2) pa_nil))) pa_nil)))
(pss_one (ps_ret (pv 3)))))), ?_⟩
    have hlen := pl.len
    have fin : ∀ {r : Int}, r = nextR rs tk c → 2 ≤ sizeLine ∧ ∀ u, H u = none → ∃ l ys y, V.ref tl = .ref l ∧ [V.ref u] = [y] ∧ upd H u (.tup [.int r, .int c]) l = some (.lst ys) ∧ ys.length < sizeLine ∧ Q (.int r) (upd (upd H u (.tup [.int r, .int c])) l (.lst (ys ++ [y]))) := fun {r} e =>
      ⟨by decide, fun u nu => by
        subst e
        have ku : Keep [] H (upd H u (.tup [.int (nextR rs tk c), .int c])) := Keep.new nu
        have ht' := ku _ _ ht (by simp)
        have eut : u ≠ tl := (ne_of_none ht nu).symm
        have kk : Keep [tl] H (upd (upd H u (.tup [.int (nextR rs tk c), .int c])) tl (.lst (xs ++ [.ref u]))) := (ku.mono (by simp)).then_at (List.mem_singleton.mpr rfl)
        have kt : TK H (upd (upd H u (.tup [.int (nextR rs tk c), .int c])) tl (.lst (xs ++ [.ref u]))) := (TK.new nu).trans (TK.lst ht')
        exact ⟨_, _, _, rfl, rfl, ht', by rw [hlen]; exact smallL (by omega), k _ kk ⟨_, upd_same, (pl.tk kt).snoc (by rw [upd_ne eut]; exact upd_same)⟩⟩⟩
    refine ⟨_, rfl, _, _, rfl, .inl (SqL.of ht), _, rfl, _, _, rfl, .inl (SqL.of hr1), _, _, rfl, rfl, _, rfl, iteD (fun h => ?_) (fun h => ?_)⟩
    · rw [List.length_map, hlen] at h
      have h' : tk.length < rs.length := by omega
      have hget : (rs.map V.int)[xs.length]? = some (.int (rs.getD tk.length 0)) := by
        rw [hlen, List.getElem?_map, List.getD_eq_getElem?_getD, List.getElem?_eq_getElem h']; rfl
      have en : nextR rs tk c = (rs.getD tk.length 0) % c := by unfold nextR; rw [if_pos h']
      refine ⟨_, rfl, _, rfl, _, _, rfl, .inl (SqL.of ht), _, _, _, _, rfl, rfl, SqL.of hr1, atI_nat hget, .inl ⟨_, rfl, _, rfl, _, _, rfl, rfl, c0, ?_⟩⟩
      obtain ⟨a1, a2⟩ := fin (r := (rs.getD tk.length 0) % c) en.symm
      refine ⟨_, rfl, .inl ⟨rfl, _, SqL.of ht⟩, _, rfl, _, rfl, a1, fun u nu => ?_⟩
      obtain ⟨l, ys, y, z1, z2, z3, z4, z5⟩ := a2 u nu
      exact ⟨l, ys, y, z1, z2, z3, z4, _, rfl, z5⟩
    · rw [List.length_map, hlen] at h
      have en : nextR rs tk c = 0 := by unfold nextR; rw [if_neg (by omega)]
      obtain ⟨a1, a2⟩ := fin (r := 0) en.symm
      refine ⟨_, rfl, .inl ⟨rfl, _, SqL.of ht⟩, _, rfl, _, rfl, a1, fun u nu => ?_⟩
      obtain ⟨l, ys, y, z1, z2, z3, z4, z5⟩ := a2 u nu
      exact ⟨l, ys, y, z1, z2, z3, z4, _, rfl, z5⟩
theorem ok_law_combine {f : Addr} {fd : FuncData} (D : C8.Def K mg "_law_combine" s_law_combine f fd) (b : Binds K fd ["sign", "a", "b"] []) (T : Txt K mg C_Tape C_Thinker C_Brain C_Mind C_Frame C_Thinking C_Checker C_GameError C_BadCode T_EVENTS T_SIGNS T_ROUND_NAMES T_BRAIN_NAMES T_EFFECTS) {k : Nat} : C8.Cal P w K mg base (k + 1) "_law_combine" sp_lcomb [] := by
  refine cal0 D b .nil sc_law_combine (fun vs H Q E h => ?_) (fun cdv A outer s H vs Q E hr h => ?_)
  · obtain ⟨s, a, b, rfl, _⟩ := h
    rfl
  · obtain ⟨s, x, y, rfl, hs, x0, x1, y0, y1, k⟩ := h
    refine ⟨_, (pss_cons (ps_if (pt_cmpR op_eq (pv 0) pe_int (nomark _))
  (pss_one (ps_ret (pe_op op_sub (pe_op op_add (pv 1) (pv 2)) (pe_op op_mul pe_int (pe_callTy call_int1 (by rfl) T.n_int bo_int (pa_cons (pe_cmpR op_gt (pe_op op_add (pv 1) (pv 2)) pe_int (nomark _)) pa_nil))))))
  pss_nil)
(pss_cons (ps_if (pt_cmpR op_eq (pv 0) pe_int (nomark _))
  (pss_one (ps_ret (pe_op op_mul (pe_op op_sub (pv 1) (pv 2)) (pe_callTy call_int1 (by rfl) T.n_int bo_int (pa_cons (pe_cmpR op_gt (pv 1) (pv 2) (nomark _)) pa_nil)))))
  pss_nil)
(pss_cons (ps_if (pt_cmpR op_eq (pv 0) pe_int (nomark _))
  (pss_one (ps_ret (pe_op op_sub (pe_op op_mul (pv 1) (pv 2)) (pe_op op_mul (pe_op op_fdiv (pe_op op_mul (pv 1) (pv 2)) pe_int) pe_int))))
  pss_nil)
(pss_cons (ps_if (pt_cmpR op_eq (pv 0) pe_int (nomark _))
  (pss_one (ps_ret (pe_callTy call_int1 (by rfl) T.n_int bo_int (pa_cons (pe_cmpR op_lt (pv 1) (pv 2) (nomark _)) pa_nil))))
  pss_nil)
(pss_cons (ps_if (pt_cmpR op_eq (pv 0) pe_int (nomark _))
  (pss_one (ps_ret (pe_callTy call_int1 (by rfl) T.n_int bo_int (pa_cons (pe_cmpR op_eq (pv 1) (pv 2) (nomark _)) pa_nil))))
  pss_nil)
(pss_cons (ps_if (pt_cmpR op_eq (pv 2) pe_int (nomark _))
  (pss_one (ps_ret pe_int))
  pss_nil)
(pss_cons (ps_set (i := 3) sc_law_combine.nd rfl (by first | exact Or.inl rfl | exact Or.inr rfl) (pe_op op_fdiv (pv 1) (pv 2)))
(pss_cons (ps_if (pt_cmpR op_eq (pv 0) pe_int (nomark _))
  (pss_one (ps_ret (pv 3)))
  pss_nil)
(pss_one (ps_ret (pe_op op_sub (pv 1) (pe_op op_mul (pv 3) (pv 2))))))))))))), ?_⟩
    have div : (s = "/" ∧ idx sgL s = 3) ∨ (s = "mod" ∧ idx sgL s = 4) → True := fun _ => trivial
    rcases sg_cases2 hs with ⟨rfl, hi⟩ | ⟨rfl, hi⟩ | ⟨rfl, hi⟩ | ⟨rfl, hi⟩ | ⟨rfl, hi⟩ | ⟨rfl, hi⟩ | ⟨rfl, hi⟩
    all_goals rw [hi]
    · rw [comb_add] at k
      refine ⟨_, rfl, rfl, _, rfl, iteDT rfl ?_⟩
      refine ⟨_, rfl, _, rfl, _, _, rfl, rfl, _, rfl, _, rfl, _, _, rfl, rfl, _, _, rfl, rfl, .inr ⟨_, rfl, _, _, rfl, rfl, .inl ⟨by decide, by decide⟩, _, _, rfl, rfl, ?_⟩⟩
      have e2 : x + y - 65536 * (if decide (65535 < x + y) = true then 1 else 0) = (x + y) % 65536 := by
        by_cases h : 65535 < x + y
        · rw [decide_eq_true h]; simp only [if_true]; omega
        · rw [decide_eq_false h]; simp only [Bool.false_eq_true, if_false]; omega
      have k' : Q (.int (x + y - 65536 * (if decide (65535 < x + y) = true then 1 else 0))) H := by rw [e2]; exact k
      exact k'
    · rw [comb_sub] at k
      refine ⟨_, rfl, rfl, _, rfl, iteDF (nei (by decide)) ⟨_, rfl, rfl, _, rfl, iteDT rfl ?_⟩⟩
      refine ⟨_, rfl, _, rfl, _, _, rfl, rfl, _, rfl, _, rfl, _, _, rfl, rfl, .inr ⟨_, rfl, _, _, rfl, rfl, .inl ⟨by omega, by omega⟩, ?_⟩⟩
      have e2 : (x - y) * (if decide (y < x) = true then 1 else 0) = if x - y > 0 then x - y else 0 := by
        by_cases h : y < x
        · rw [decide_eq_true h, if_pos (by omega : x - y > 0)]; simp only [if_true]; omega
        · rw [decide_eq_false h, if_neg (by omega : ¬ x - y > 0)]; simp only [Bool.false_eq_true, if_false]; omega
      have k' : Q (.int ((x - y) * (if decide (y < x) = true then 1 else 0))) H := by rw [e2]; exact k
      exact k'
    · rw [comb_mul] at k
      refine ⟨_, rfl, rfl, _, rfl, iteDF (nei (by decide)) ⟨_, rfl, rfl, _, rfl, iteDF (nei (by decide)) ⟨_, rfl, rfl, _, rfl, iteDT rfl ?_⟩⟩⟩
      refine ⟨_, rfl, _, rfl, _, _, rfl, rfl, .inl ⟨by omega, by omega⟩, _, rfl, _, rfl, _, _, rfl, rfl, .inl ⟨by omega, by omega⟩, _, _, rfl, rfl, ⟨by decide, by decide⟩, _, _, rfl, rfl, .inr ⟨by decide, by decide⟩, _, _, rfl, rfl, ?_⟩
      have e2 : x * y - x * y / 65536 * 65536 = x * y % 65536 := by omega
      have k' : Q (.int (x * y - x * y / 65536 * 65536)) H := by rw [e2]; exact k
      exact k'
    · refine ⟨_, rfl, rfl, _, rfl, iteDF (nei (by decide)) ⟨_, rfl, rfl, _, rfl, iteDF (nei (by decide)) ⟨_, rfl, rfl, _, rfl, iteDF (nei (by decide)) ⟨_, rfl, rfl, _, rfl, iteDF (nei (by decide)) ⟨_, rfl, rfl, _, rfl, iteDF (nei (by decide)) ?_⟩⟩⟩⟩⟩
      refine ⟨_, rfl, rfl, _, rfl, iteD (fun e => ?_) (fun e6 => ?_)⟩
      · rw [comb_div, V.int.inj e, if_neg (by decide)] at k; exact k
      have hy : 0 < y := by
        have : y ≠ 0 := fun q => e6 (congrArg V.int q)
        omega
      rw [comb_div, if_pos hy] at k
      exact ⟨_, rfl, _, rfl, _, _, rfl, rfl, ⟨hy, by omega⟩, _, rfl, rfl, _, rfl, iteDT rfl ⟨_, rfl, k⟩⟩
    · refine ⟨_, rfl, rfl, _, rfl, iteDF (nei (by decide)) ⟨_, rfl, rfl, _, rfl, iteDF (nei (by decide)) ⟨_, rfl, rfl, _, rfl, iteDF (nei (by decide)) ⟨_, rfl, rfl, _, rfl, iteDF (nei (by decide)) ⟨_, rfl, rfl, _, rfl, iteDF (nei (by decide)) ?_⟩⟩⟩⟩⟩
      refine ⟨_, rfl, rfl, _, rfl, iteD (fun e => ?_) (fun e6 => ?_)⟩
      · rw [comb_mod, V.int.inj e, if_neg (by decide)] at k; exact k
      have hy : 0 < y := by
        have : y ≠ 0 := fun q => e6 (congrArg V.int q)
        omega
      rw [comb_mod, if_pos hy] at k
      refine ⟨_, rfl, _, rfl, _, _, rfl, rfl, ⟨hy, by omega⟩, _, rfl, rfl, _, rfl, iteDF (nei (by decide)) ?_⟩
      refine ⟨_, rfl, _, rfl, _, rfl, _, _, rfl, rfl, .inr ⟨by omega, by omega⟩, _, _, rfl, rfl, ?_⟩
      have e2 : x - x / y * y = x % y := by rw [Int.emod_def, Int.mul_comm]
      have k' : Q (.int (x - x / y * y)) H := by rw [e2]; exact k
      exact k'
    · rw [comb_lt] at k
      refine ⟨_, rfl, rfl, _, rfl, iteDF (nei (by decide)) ⟨_, rfl, rfl, _, rfl, iteDF (nei (by decide)) ⟨_, rfl, rfl, _, rfl, iteDF (nei (by decide)) ⟨_, rfl, rfl, _, rfl, iteDT rfl ?_⟩⟩⟩⟩
      refine ⟨_, rfl, _, rfl, _, _, rfl, rfl, .inr ⟨_, rfl, ?_⟩⟩
      by_cases h : x < y
      · rw [if_pos h] at k; rw [decide_eq_true h]; exact k
      · rw [if_neg h] at k; rw [decide_eq_false h]; exact k
    · rw [comb_eq] at k
      refine ⟨_, rfl, rfl, _, rfl, iteDF (nei (by decide)) ⟨_, rfl, rfl, _, rfl, iteDF (nei (by decide)) ⟨_, rfl, rfl, _, rfl, iteDF (nei (by decide)) ⟨_, rfl, rfl, _, rfl, iteDF (nei (by decide)) ⟨_, rfl, rfl, _, rfl, iteDT rfl ?_⟩⟩⟩⟩⟩
      refine ⟨_, rfl, _, rfl, rfl, .inr ⟨_, rfl, ?_⟩⟩
      by_cases h : x = y
      · rw [if_pos h] at k; rw [decide_eq_true (congrArg V.int h)]; exact k
      · rw [if_neg h] at k; rw [decide_eq_false (fun z => h (V.int.inj z))]; exact k
end

section
variable {X : Cx} {k j n : Nat} {C : Addr} {x m : Str} {sp : Sp} {dvs : List V} {p pos apos : Pos} {e o : Expr} {es : List Expr} {ta : TE} {t tk : TA} {E : XK} {W : WX} {ks : List Str} {gV : List V → List V → List V} {kws : List Keyword}
def tCallKX (sp : Sp) (n : Nat) (ks : List Str) (gV : List V → List V → List V) (E : XK) (t tk : TA) : TE := fun σ H Q => t σ H fun vs H1 => tk σ H1 fun zs H2 => vs.length = n ∧ zs.length = ks.length ∧ sp (gV vs zs) H2 Q E
/-- called with keywords, in a def that lets out what E says -/
theorem pe_cKX (c : CalXK X.prog X.w X.K X.mg X.base k x sp n ks gV) (hr : Room j X.A) (hk : k ≤ j) (hg : Gl X x) (hx : Passes (L2.CX X.prog X.w) X E) (ha : PA X (e :: es) t) (hkw : PK X kws tk)
    (hall : (backToKw pos (keywordEach kws X.env)).all (·.1.isSome) = true := by rfl) (hks : (backToKw pos (keywordEach kws X.env)).filterMap (·.1) = ks := by rfl)
    (hdb : (x == ("__debug__" : Str)) = false := by decide) (he : starEach (e :: es) X.env = (false, eval e X.env) :: starEach es X.env := by rfl)
    (hpl : ((backTo pos (starEach (e :: es) X.env)).any (·.1) || (backToKw pos (keywordEach kws X.env)).any (·.1.isNone)) = false := by rfl) :
    PE X (.Call (.Name x p) (e :: es) kws pos) (tCallKX sp n ks gV E t tk) := by
  obtain ⟨f, fd, ps, g, F, hm, kp, b⟩ := c.ex
  refine ⟨fun pins s σ H Q I h => wpAny_Call_Name_kw (ld_glob I hg hm (PySem.W.callWith_KW (h₀ := X.base) I.ok.mod.kin kp hall (thn (ha.run pos pins s σ H _ I h) fun us s1 ⟨vs, H1, I1, r, q⟩ => ?_) hpl he) hdb)⟩
  refine thn (hkw.run pos pins s1 σ H1 _ I1 q) fun ws s2 ⟨zs, H2, I2, rz, l1, l2, q2⟩ => ⟨I2.kIn, ?_⟩
  rw [hks]
  have r2 := b.rel r rz
  refine wpAny_call (codeAny_mono (F.run X.A X.stack s2 H2 ⟨us, ks.zip ws⟩ (g us ws) (gV vs zs) Q E (hr.mono hk) I2.env0 (b.to s2 us ws I2.kIn (r.length.symm.trans l1) (rz.length.symm.trans l2)) r2 q2) fun r s' hq => ?_)
  cases r with
  | error er => exact hx pins σ H2 s2 er s' I2 hq
  | ok fl =>
    cases fl with
    | ret u => exact I2.after hq
    | next => exact hq.elim
    | brk => exact hq.elim
    | cont => exact hq.elim
end

def sp_cmindX (CM CB : Addr) : Sp := fun vs H Q E => ∃ (M dM ca cd : Addr) (u : V) (xs : List V) (cs : List In2), vs = [.ref M] ∧ H M = some (.ins CM dM [("units", u), ("cells", .ref ca), ("code", .ref cd)]) ∧ H ca = some (.tup xs) ∧ CodeAt H cd cs ∧ NmOk cs ∧ cs.length ≤ 200000 ∧
  (∀ s H', cs ≠ [] → upto cs (xs.length : Nat) 0 true cs.length = some s → Keep [] H H' → Q (.int s.2) H') ∧ (∀ (i : Nat) d H', BadAt cs (xs.length : Nat) 0 true i → H d = none → H' d = some (.xd [(("at" : Str), .int (i : Int))]) → Keep [] H H' → E (.ref CB) (some d) H')
section
variable {P : Program} {w : World} {K : PySem.W.Frag} {mg : Str → Option Value} {base : Heap} {C_Tape : Addr} {C_Thinker : Addr} {C_Brain : Addr} {C_Mind : Addr} {C_Frame : Addr} {C_Thinking : Addr} {C_Checker : Addr} {C_GameError : Addr} {C_BadCode : Addr} {f_BadCode___init : Addr} {T_EVENTS : Addr} {T_SIGNS : Addr} {T_ROUND_NAMES : Addr} {T_BRAIN_NAMES : Addr} {T_EFFECTS : Addr}
theorem ok_cmindX {f : Addr} {fd : FuncData} (D : C8.Def K mg "check_mind" s_check_mind f fd) (T : Txt K mg C_Tape C_Thinker C_Brain C_Mind C_Frame C_Thinking C_Checker C_GameError C_BadCode T_EVENTS T_SIGNS T_ROUND_NAMES T_BRAIN_NAMES T_EFFECTS)
    (c_check_code_thinking : CalXK P w K mg base 3 "check_code" (sp_check C_BadCode) 3 ["thinking"] (fun vs zs => vs ++ zs)) : FnOk P w K mg base (L2.CX P w) 4 f fd ["mind"] (sp_cmindX C_Mind C_BadCode) := by
  refine fnx D.fn sc_check_mind (fun vs H Q E h => ?_) (fun cdv A outer s H vs Q E hr h => ?_)
  · obtain ⟨M, dM, ca, cd, u, xs, cs, rfl, _⟩ := h
    rfl
  · obtain ⟨M, dM, ca, cd, u, xs, cs, rfl, hM, hca, hcd, hnm, hn, kQ, kE⟩ := h
    refine ⟨_, (pss_one (ps_ret (pe_cKX c_check_code_thinking hr (by first | exact Nat.le_refl _ | decide | omega) rfl (passes_call (takes_of rfl rfl rfl rfl) (fun _ _ _ _ h => h)) (pa_cons (pe_fld (pv 0) rfl) (pa_cons (pe_callB call_len_seq (by rfl) T.n_len bo_len (pa_cons (pe_fld (pv 0) rfl) pa_nil)) (pa_cons pe_int pa_nil))) (pk_cons pe_bl pk_nil)))), ?_⟩
    refine ⟨_, rfl, M, C_Mind, dM, _, _, rfl, hM, T.cl_Mind, T.a_Mind_code, rfl, _, rfl, M, C_Mind, dM, _, _, rfl, hM, T.cl_Mind, T.a_Mind_cells, rfl, ca, xs, rfl, .inr (SqT.of hca), rfl, rfl, cd, cs, _, 0, true, rfl, hcd, hnm, hn, kQ, kE⟩
end

end Th
namespace Th
/-! the law's own machine: a dict -/
def stK (tb sz an sn rl tx ch sh sk : Addr) (left hi : Int) : List (Key × V) := [(.inr "table", .ref tb), (.inr "sizes", .ref sz), (.inr "answers", .ref an), (.inr "seen", .ref sn), (.inr "left", .int left), (.inr "results", .ref rl), (.inr "taken", .ref tx), (.inr "choices", .ref ch), (.inr "shown", .ref sh), (.inr "stack", .ref sk), (.inr "paid", .int 0), (.inr "highest", .int hi)]
theorem put_of {H : Hp} {d : Addr} {kvs kvs' : List (Key × V)} {k : Key} {v : V} {Q : Hp → Prop} (hd : H d = some (.dK kvs)) (hl : kvs.length ≤ 100) (e : putK kvs k v = kvs') (q : ∀ H', H' = upd H d (.dK kvs') → Q H') : ∃ a H', V.ref d = .ref a ∧ DPut H a (kV k) v H' ∧ Q H' :=
  ⟨d, _, rfl, DPut.k hd (smallL (by omega)), q _ (by rw [e])⟩
theorem get_of {H : Hp} {d : Addr} {kvs : List (Key × V)} {k : Key} {v : V} {Q : VK} (hd : H d = some (.dK kvs)) (e : valV kvs k = some v) (q : Q v H) : ∃ a v', V.ref d = .ref a ∧ DGet H a (kV k) (some v') ∧ Q v' H :=
  ⟨d, v, rfl, by rw [← e]; exact DGet.k hd, q⟩
theorem dg {H : Hp} {d : Addr} {kvs : List (Key × V)} {k : Key} {v : V} (hd : H d = some (.dK kvs)) (e : valV kvs k = some v) : DGet H d (kV k) (some v) := by rw [← e]; exact DGet.k hd
structure StAt (H : Hp) (d tb sz an sn rl tx ch sh sk : Addr) (n : Nat) (seen rs : List Int) (m : MC) (hi : Int) : Prop where
  hd : H d = some (.dK (stK tb sz an sn rl tx ch sh sk m.left hi))
  htb : H tb = some (.lst (m.cells.map V.int))
  hsz : H sz = some (.lst ((List.replicate n (65536 : Int)).map V.int))
  hsn : H sn = some (.lst (seen.map V.int))
  hrl : H rl = some (.lst (rs.map V.int))
  htx : ∃ xs, H tx = some (.lst xs) ∧ PL H xs m.tk
  hch : ∃ xs, H ch = some (.lst xs) ∧ xs.length ≤ m.tk.length
  hsk : H sk = some (.lst (m.st.reverse.map V.int))
  nd : [sz, sn, rl, tb, sk, tx, ch].Nodup
theorem nd_all {a b c d e f g : Addr} (h : [a, b, c, d, e, f, g].Nodup) : (a ≠ d ∧ a ≠ e ∧ a ≠ f ∧ a ≠ g) ∧ (b ≠ d ∧ b ≠ e ∧ b ≠ f ∧ b ≠ g) ∧ (c ≠ d ∧ c ≠ e ∧ c ≠ f ∧ c ≠ g) ∧ (d ≠ e ∧ d ≠ f ∧ d ≠ g) ∧ (e ≠ f ∧ e ≠ g) ∧ f ≠ g := by
  simp only [List.nodup_cons, List.mem_cons, List.not_mem_nil, or_false, not_or, List.nodup_nil, and_true] at h
  obtain ⟨⟨_, _, h1, h2, h3, h4⟩, ⟨_, h5, h6, h7, h8⟩, ⟨h9, h10, h11, h12⟩, ⟨h13, h14, h15⟩, ⟨h16, h17⟩, h18, _⟩ := h
  exact ⟨⟨h1, h2, h3, h4⟩, ⟨h5, h6, h7, h8⟩, ⟨h9, h10, h11, h12⟩, ⟨h13, h14, h15⟩, ⟨h16, h17⟩, h18⟩
section
variable {H H' : Hp} {d tb sz an sn rl tx ch sh sk : Addr} {n : Nat} {seen rs : List Int} {m : MC} {hi : Int}
theorem StAt.keep0 (h : StAt H d tb sz an sn rl tx ch sh sk n seen rs m hi) (k : Keep [] H H') : StAt H' d tb sz an sn rl tx ch sh sk n seen rs m hi := by
  obtain ⟨xs, h1, h2⟩ := h.htx
  obtain ⟨ys, h3, h4⟩ := h.hch
  exact ⟨k _ _ h.hd (by simp), k _ _ h.htb (by simp), k _ _ h.hsz (by simp), k _ _ h.hsn (by simp), k _ _ h.hrl (by simp), ⟨xs, k _ _ h1 (by simp), h2.tk k.tk⟩, ⟨ys, k _ _ h3 (by simp), h4⟩, k _ _ h.hsk (by simp), h.nd⟩
theorem StAt.setS (h : StAt H d tb sz an sn rl tx ch sh sk n seen rs m hi) (st : List Int) : StAt (upd H sk (.lst (st.reverse.map V.int))) d tb sz an sn rl tx ch sh sk n seen rs { m with st := st } hi := by
  obtain ⟨xs, h1, h2⟩ := h.htx
  obtain ⟨ys, h3, h4⟩ := h.hch
  obtain ⟨a, b, c, e, f, g⟩ := nd_all h.nd
  have t : TK H (upd H sk (.lst (st.reverse.map V.int))) := TK.lst h.hsk
  have u : ∀ {x : Addr} {o : HO}, H x = some o → x ≠ sk → upd H sk (.lst (st.reverse.map V.int)) x = some o := fun q ne => by rw [upd_ne ne]; exact q
  exact ⟨u h.hd (ne_of h.hd h.hsk (by intro z; cases z)), u h.htb e.1, u h.hsz a.2.1, u h.hsn b.2.1, u h.hrl c.2.1, ⟨xs, u h1 f.1.symm, h2.tk t⟩, ⟨ys, u h3 f.2.symm, h4⟩, upd_same, h.nd⟩
theorem StAt.setT (h : StAt H d tb sz an sn rl tx ch sh sk n seen rs m hi) (cs : List Int) : StAt (upd H tb (.lst (cs.map V.int))) d tb sz an sn rl tx ch sh sk n seen rs { m with cells := cs } hi := by
  obtain ⟨xs, h1, h2⟩ := h.htx
  obtain ⟨ys, h3, h4⟩ := h.hch
  obtain ⟨a, b, c, e, f, g⟩ := nd_all h.nd
  have t : TK H (upd H tb (.lst (cs.map V.int))) := TK.lst h.htb
  have u : ∀ {x : Addr} {o : HO}, H x = some o → x ≠ tb → upd H tb (.lst (cs.map V.int)) x = some o := fun q ne => by rw [upd_ne ne]; exact q
  exact ⟨u h.hd (ne_of h.hd h.htb (by intro z; cases z)), upd_same, u h.hsz a.1, u h.hsn b.1, u h.hrl c.1, ⟨xs, u h1 e.2.1.symm, h2.tk t⟩, ⟨ys, u h3 e.2.2.symm, h4⟩, u h.hsk e.1.symm, h.nd⟩
theorem StAt.setD (h : StAt H d tb sz an sn rl tx ch sh sk n seen rs m hi) (left' hi' : Int) (m' : MC) (e1 : m'.left = left') (e2 : m'.cells = m.cells) (e3 : m'.tk = m.tk) (e4 : m'.st = m.st) : StAt (upd H d (.dK (stK tb sz an sn rl tx ch sh sk left' hi'))) d tb sz an sn rl tx ch sh sk n seen rs m' hi' := by
  obtain ⟨xs, h1, h2⟩ := h.htx
  obtain ⟨ys, h3, h4⟩ := h.hch
  have t : TK H (upd H d (.dK (stK tb sz an sn rl tx ch sh sk left' hi'))) := fun b zs q => by rw [upd_ne (ne_of q h.hd (by intro z; cases z))]; exact q
  have u : ∀ {x : Addr} {zs : List V}, H x = some (.lst zs) → upd H d (.dK (stK tb sz an sn rl tx ch sh sk left' hi')) x = some (.lst zs) := fun q => by rw [upd_ne (ne_of q h.hd (by intro z; cases z))]; exact q
  exact ⟨by rw [e1]; exact upd_same, by rw [e2]; exact u h.htb, u h.hsz, u h.hsn, u h.hrl, ⟨xs, u h1, by rw [e3]; exact h2.tk t⟩, ⟨ys, u h3, by rw [e3]; exact h4⟩, by rw [e4]; exact u h.hsk, h.nd⟩
theorem StAt.push (h : StAt H d tb sz an sn rl tx ch sh sk n seen rs m hi) (v : Int) : StAt (upd H sk (.lst (m.st.reverse.map V.int ++ [.int v]))) d tb sz an sn rl tx ch sh sk n seen rs { m with st := v :: m.st } hi := by
  have q := h.setS (v :: m.st)
  have e : (v :: m.st).reverse.map V.int = m.st.reverse.map V.int ++ [.int v] := by rw [List.reverse_cons, List.map_append]; rfl
  rw [e] at q
  exact q
theorem StAt.pop (h : StAt H d tb sz an sn rl tx ch sh sk n seen rs m hi) {v : Int} {r : List Int} (e : m.st = v :: r) : (m.st.reverse.map V.int)[(m.st.reverse.map V.int).length - 1]? = some (.int v) ∧ StAt (upd H sk (.lst (m.st.reverse.map V.int).dropLast)) d tb sz an sn rl tx ch sh sk n seen rs { m with st := r } hi := by
  have q := h.setS r
  have e2 : m.st.reverse.map V.int = r.reverse.map V.int ++ [.int v] := by rw [e, List.reverse_cons, List.map_append]; rfl
  have e3 : (m.st.reverse.map V.int).dropLast = r.reverse.map V.int := by rw [e2, List.dropLast_concat]
  rw [← e3] at q
  exact ⟨by rw [e2]; simp, q⟩
/-- the results of lots go on -/
theorem StAt.setK (h : StAt H d tb sz an sn rl tx ch sh sk n seen rs m hi) (k : Keep [tx] H H') {tk : List (Int × Int)} (ht : ∃ ys, H' tx = some (.lst ys) ∧ PL H' ys tk) (hl : m.tk.length ≤ tk.length) : StAt H' d tb sz an sn rl tx ch sh sk n seen rs { m with tk := tk } hi := by
  obtain ⟨xs, h1, h2⟩ := h.htx
  obtain ⟨ys, h3, h4⟩ := h.hch
  obtain ⟨a, b, c, e, f, g⟩ := nd_all h.nd
  exact ⟨k _ _ h.hd (by have := ne_of h.hd h1 (by intro z; cases z); simpa using this), k _ _ h.htb (by simpa using e.2.1), k _ _ h.hsz (by simpa using a.2.2.1), k _ _ h.hsn (by simpa using b.2.2.1), k _ _ h.hrl (by simpa using c.2.2.1), ht, ⟨ys, k _ _ h3 (by simpa using g.symm), by show _ ≤ tk.length; omega⟩, k _ _ h.hsk (by simpa using f.1), h.nd⟩
/-- a choice more -/
theorem StAt.setC (h : StAt H d tb sz an sn rl tx ch sh sk n seen rs m hi) {zs : List V} (hz : zs.length ≤ m.tk.length) : StAt (upd H ch (.lst zs)) d tb sz an sn rl tx ch sh sk n seen rs m hi := by
  obtain ⟨xs, h1, h2⟩ := h.htx
  obtain ⟨ys, h3, h4⟩ := h.hch
  obtain ⟨a, b, c, e, f, g⟩ := nd_all h.nd
  have t : TK H (upd H ch (.lst zs)) := TK.lst h3
  have u : ∀ {x : Addr} {o : HO}, H x = some o → x ≠ ch → upd H ch (.lst zs) x = some o := fun q ne => by rw [upd_ne ne]; exact q
  exact ⟨u h.hd (ne_of h.hd h3 (by intro z; cases z)), u h.htb e.2.2, u h.hsz a.2.2.2, u h.hsn b.2.2.2, u h.hrl c.2.2.2, ⟨xs, u h1 g, h2.tk t⟩, ⟨zs, upd_same, hz⟩, u h.hsk f.2, h.nd⟩
end
def IsDo : MI → Prop
  | .skip _ => False
  | .jump _ => False
  | .back _ => False
  | .fin => False
  | _ => True
def VOk (l : List Int) : Prop := ∀ x ∈ l, 0 ≤ x ∧ x < 65536
def sp_do : Sp := fun vs H Q _ => ∃ (d tb sz an sn rl tx ch sh sk : Addr) (ns : List Str) (seen rs : List Int) (m m' : MC) (hi : Int) (i : MI), vs = [.ref d, .str (tagM i), .int (numM ns i)] ∧ StAt H d tb sz an sn rl tx ch sh sk ns.length seen rs m hi ∧ IsDo i ∧ exec ns seen rs i m = some m' ∧ VOk m.st ∧ VOk m.cells ∧ m.cells.length = ns.length ∧ m.st.length ≤ 100 ∧ m.tk.length ≤ 700000 ∧ seen.length ≤ 1000 ∧ rs.length ≤ 1000 ∧
  ∀ H', StAt H' d tb sz an sn rl tx ch sh sk ns.length seen rs m' hi → Keep [d, tb, tx, ch, sk] H H' → Q .non H'
def sp_state : Sp := fun vs H Q _ => ∃ (t sz an sn rl : Addr) (xs ys : List V) (cs seen rs : List Int) (u : Int), vs = [.ref t, .ref sz, .ref an, .ref sn, .int u, .ref rl] ∧ H t = some (.tup (cs.map V.int)) ∧ H sz = some (.lst ((List.replicate cs.length (65536 : Int)).map V.int)) ∧ H sn = some (.lst (seen.map V.int)) ∧ H rl = some (.lst (rs.map V.int)) ∧ sz ≠ sn ∧ sz ≠ rl ∧ sn ≠ rl ∧
  ∀ d tb tx ch sh sk H', H d = none → H tb = none → H tx = none → H ch = none → H sk = none → StAt H' d tb sz an sn rl tx ch sh sk cs.length seen rs ⟨0, [], cs, u, false, false, []⟩ 0 → Keep [] H H' → Q (.ref d) H'
theorem ness {a b : Str} (h : a ≠ b) : ¬ V.str a = V.str b := fun z => h (V.str.inj z)
section
variable {P : Program} {w : World} {K : PySem.W.Frag} {mg : Str → Option Value} {base : Heap} {C_Tape : Addr} {C_Thinker : Addr} {C_Brain : Addr} {C_Mind : Addr} {C_Frame : Addr} {C_Thinking : Addr} {C_Checker : Addr} {C_GameError : Addr} {C_BadCode : Addr} {f_BadCode___init : Addr} {T_EVENTS : Addr} {T_SIGNS : Addr} {T_ROUND_NAMES : Addr} {T_BRAIN_NAMES : Addr} {T_EFFECTS : Addr}
theorem ok_state {f : Addr} {fd : FuncData} (D : C8.Def K mg "_law_state" s_law_state f fd) (b : Binds K fd ["table", "sizes", "answers", "seen", "left", "results"] []) (T : Txt K mg C_Tape C_Thinker C_Brain C_Mind C_Frame C_Thinking C_Checker C_GameError C_BadCode T_EVENTS T_SIGNS T_ROUND_NAMES T_BRAIN_NAMES T_EFFECTS) : C8.Cal P w K mg base 1 "_law_state" sp_state [] := by
  refine cal0 D b .nil sc_law_state (fun vs H Q E h => ?_) (fun cdv A outer s H vs Q E hr h => ?_)
  · obtain ⟨t, sz, an, sn, rl, xs, ys, cs, seen, rs, u, rfl, _⟩ := h
    rfl
  · obtain ⟨t, sz, an, sn, rl, xs, ys, cs, seen, rs, u, rfl, ht, hsz, hsn, hrl, n1, n2, n3, k⟩ := h
    have hu := hu_of hr
    refine ⟨_, (pss_cons (ps_set (i := 6) sc_law_state.nd rfl (by first | exact Or.inl rfl | exact Or.inr rfl) (pe_disp (pps_cons pe_str (pe_callTy call_list_of (by rfl) T.n_list bo_list (pa_cons (pv 0) pa_nil)) (pps_cons pe_str (pv 1) (pps_cons pe_str (pv 2) (pps_cons pe_str (pv 3) (pps_cons pe_str (pv 4) pps_nil))))) (by rfl) (by rfl) (fun z => by cases z) (by decide)))
(pss_cons (ps_dput hu (pv 6) pe_str (pv 5) (by rfl))
(pss_cons (ps_dput hu (pv 6) pe_str (pe_lst pa_nil) (by rfl))
(pss_cons (ps_dput hu (pv 6) pe_str (pe_lst pa_nil) (by rfl))
(pss_cons (ps_dput hu (pv 6) pe_str (pe_lst pa_nil) (by rfl))
(pss_cons (ps_dput hu (pv 6) pe_str (pe_lst pa_nil) (by rfl))
(pss_cons (ps_dput hu (pv 6) pe_str pe_int (by rfl))
(pss_cons (ps_dput hu (pv 6) pe_str pe_int (by rfl))
(pss_one (ps_ret (pv 6))))))))))), ?_⟩
    refine fun d nd => ⟨_, rfl, t, _, rfl, .inr (SqT.of (Keep.new (W := []) nd _ _ ht (by simp))), fun tb ntb => ⟨_, rfl, _, rfl, _, rfl, _, rfl, ?_⟩⟩
    have ndb : d ≠ tb := ne_of_none (H := upd H d (.dK [])) upd_same ntb
    refine ⟨by rw [upd_ne ndb]; exact upd_same, [(.inr "table", .ref tb), (.inr "sizes", .ref sz), (.inr "answers", .ref an), (.inr "seen", .ref sn), (.inr "left", .int u)], rfl, by simp, ?_⟩
    have k1 : Keep [] H (upd (upd (upd H d (.dK [])) tb (.lst (cs.map V.int))) d (.dK (mergeK [] [(.inr "table", .ref tb), (.inr "sizes", .ref sz), (.inr "answers", .ref an), (.inr "seen", .ref sn), (.inr "left", .int u)]))) := ((Keep.new nd).then_new ntb).then_own nd
    have htb0 : upd (upd (upd H d (.dK [])) tb (.lst (cs.map V.int))) d (.dK (mergeK [] [(.inr "table", .ref tb), (.inr "sizes", .ref sz), (.inr "answers", .ref an), (.inr "seen", .ref sn), (.inr "left", .int u)])) tb = some (.lst (cs.map V.int)) := by rw [upd_ne ndb.symm]; exact upd_same
    have hd0 : upd (upd (upd H d (.dK [])) tb (.lst (cs.map V.int))) d (.dK (mergeK [] [(.inr "table", .ref tb), (.inr "sizes", .ref sz), (.inr "answers", .ref an), (.inr "seen", .ref sn), (.inr "left", .int u)])) d = some (.dK [(.inr "table", .ref tb), (.inr "sizes", .ref sz), (.inr "answers", .ref an), (.inr "seen", .ref sn), (.inr "left", .int u)]) := upd_same
    have ntbH : H tb = none := by rw [upd_ne ndb.symm] at ntb; exact ntb
    generalize upd (upd (upd H d (.dK [])) tb (.lst (cs.map V.int))) d (.dK (mergeK [] [(.inr "table", .ref tb), (.inr "sizes", .ref sz), (.inr "answers", .ref an), (.inr "seen", .ref sn), (.inr "left", .int u)])) = H1 at *
    -- what stands but the dict
    have stepK : ∀ {Ha Hb : Hp} {kvs : List (Key × V)}, Keep [] H Ha → Hb = upd Ha d (.dK kvs) → Keep [] H Hb := fun k e => by rw [e]; exact k.then_own nd
    have other : ∀ {Ha Hb : Hp} {kvs : List (Key × V)} {x : Addr} {zs : List V} {kvs0 : List (Key × V)}, Ha d = some (.dK kvs0) → Hb = upd Ha d (.dK kvs) → Ha x = some (.lst zs) → Hb x = some (.lst zs) := fun hda e hx => by
      rw [e, upd_ne (ne_of hx hda (by intro z; cases z))]; exact hx
    refine ⟨_, rfl, _, rfl, put_of (kvs' := [((.inr "table" : Key), V.ref tb), (.inr "sizes", .ref sz), (.inr "answers", .ref an), (.inr "seen", .ref sn), (.inr "left", .int u)] ++ [(.inr "results", .ref rl)]) (k := .inr "results") hd0 (by simp) rfl fun H2 e2 => ?_⟩
    have k2 := stepK k1 e2
    have hd2 := (congrFun e2 d).trans upd_same
    have htb2 := other hd0 e2 htb0
    refine ⟨by show 0 ≤ sizeLine; decide, fun tx ntx => ⟨_, rfl, put_of (kvs' := [((.inr "table" : Key), V.ref tb), (.inr "sizes", .ref sz), (.inr "answers", .ref an), (.inr "seen", .ref sn), (.inr "left", .int u)] ++ [(.inr "results", .ref rl)] ++ [(.inr "taken", .ref tx)]) (k := .inr "taken") (Keep.new (W := []) ntx _ _ hd2 (by simp)) (by simp) rfl fun H3 e3 => ?_⟩⟩
    have ntxH := k2.free ntx
    have k3 := stepK (k2.then_new (o := .lst []) ntx) e3
    have hd3 := (congrFun e3 d).trans upd_same
    have hdx := Keep.new (W := []) (o := .lst []) ntx _ _ hd2 (by simp)
    have htb3 := other hdx e3 (Keep.new (W := []) ntx _ _ htb2 (by simp))
    have htx3 : H3 tx = some (.lst []) := other hdx e3 upd_same
    have tbtx : tb ≠ tx := ne_of_none htb2 ntx
    refine ⟨by show 0 ≤ sizeLine; decide, fun ch nch => ⟨_, rfl, put_of (kvs' := [((.inr "table" : Key), V.ref tb), (.inr "sizes", .ref sz), (.inr "answers", .ref an), (.inr "seen", .ref sn), (.inr "left", .int u)] ++ [(.inr "results", .ref rl)] ++ [(.inr "taken", .ref tx)] ++ [(.inr "choices", .ref ch)]) (k := .inr "choices") (Keep.new (W := []) nch _ _ hd3 (by simp)) (by simp) rfl fun H4 e4 => ?_⟩⟩
    have nchH := k3.free nch
    have k4 := stepK (k3.then_new (o := .lst []) nch) e4
    have hd4 := (congrFun e4 d).trans upd_same
    have hdx4 := Keep.new (W := []) (o := .lst []) nch _ _ hd3 (by simp)
    have htb4 := other hdx4 e4 (Keep.new (W := []) nch _ _ htb3 (by simp))
    have htx4 := other hdx4 e4 (Keep.new (W := []) nch _ _ htx3 (by simp))
    have hch4 : H4 ch = some (.lst []) := other hdx4 e4 upd_same
    have tbch : tb ≠ ch := ne_of_none htb3 nch
    have txch : tx ≠ ch := ne_of_none htx3 nch
    refine ⟨by show 0 ≤ sizeLine; decide, fun sh nsh => ⟨_, rfl, put_of (kvs' := [((.inr "table" : Key), V.ref tb), (.inr "sizes", .ref sz), (.inr "answers", .ref an), (.inr "seen", .ref sn), (.inr "left", .int u)] ++ [(.inr "results", .ref rl)] ++ [(.inr "taken", .ref tx)] ++ [(.inr "choices", .ref ch)] ++ [(.inr "shown", .ref sh)]) (k := .inr "shown") (Keep.new (W := []) nsh _ _ hd4 (by simp)) (by simp) rfl fun H5 e5 => ?_⟩⟩
    have k5 := stepK (k4.then_new (o := .lst []) nsh) e5
    have hd5 := (congrFun e5 d).trans upd_same
    have hdx5 := Keep.new (W := []) (o := .lst []) nsh _ _ hd4 (by simp)
    have htb5 := other hdx5 e5 (Keep.new (W := []) nsh _ _ htb4 (by simp))
    have htx5 := other hdx5 e5 (Keep.new (W := []) nsh _ _ htx4 (by simp))
    have hch5 := other hdx5 e5 (Keep.new (W := []) nsh _ _ hch4 (by simp))
    refine ⟨by show 0 ≤ sizeLine; decide, fun sk nsk => ⟨_, rfl, put_of (kvs' := [((.inr "table" : Key), V.ref tb), (.inr "sizes", .ref sz), (.inr "answers", .ref an), (.inr "seen", .ref sn), (.inr "left", .int u)] ++ [(.inr "results", .ref rl)] ++ [(.inr "taken", .ref tx)] ++ [(.inr "choices", .ref ch)] ++ [(.inr "shown", .ref sh)] ++ [(.inr "stack", .ref sk)]) (k := .inr "stack") (Keep.new (W := []) nsk _ _ hd5 (by simp)) (by simp) rfl fun H6 e6 => ?_⟩⟩
    have nskH := k5.free nsk
    have k6 := stepK (k5.then_new (o := .lst []) nsk) e6
    have hd6 := (congrFun e6 d).trans upd_same
    have hdx6 := Keep.new (W := []) (o := .lst []) nsk _ _ hd5 (by simp)
    have htb6 := other hdx6 e6 (Keep.new (W := []) nsk _ _ htb5 (by simp))
    have htx6 := other hdx6 e6 (Keep.new (W := []) nsk _ _ htx5 (by simp))
    have hch6 := other hdx6 e6 (Keep.new (W := []) nsk _ _ hch5 (by simp))
    have hsk6 : H6 sk = some (.lst []) := other hdx6 e6 upd_same
    have tbsk : tb ≠ sk := ne_of_none htb5 nsk
    have txsk : tx ≠ sk := ne_of_none htx5 nsk
    have chsk : ch ≠ sk := ne_of_none hch5 nsk
    refine ⟨_, rfl, put_of (kvs' := [((.inr "table" : Key), V.ref tb), (.inr "sizes", .ref sz), (.inr "answers", .ref an), (.inr "seen", .ref sn), (.inr "left", .int u)] ++ [(.inr "results", .ref rl)] ++ [(.inr "taken", .ref tx)] ++ [(.inr "choices", .ref ch)] ++ [(.inr "shown", .ref sh)] ++ [(.inr "stack", .ref sk)] ++ [(.inr "paid", .int 0)]) (k := .inr "paid") (v := .int 0) hd6 (by simp) rfl fun H7 e7 => ?_⟩
    have k7 := stepK k6 e7
    have hd7 := (congrFun e7 d).trans upd_same
    refine ⟨_, rfl, put_of (kvs' := [((.inr "table" : Key), V.ref tb), (.inr "sizes", .ref sz), (.inr "answers", .ref an), (.inr "seen", .ref sn), (.inr "left", .int u)] ++ [(.inr "results", .ref rl)] ++ [(.inr "taken", .ref tx)] ++ [(.inr "choices", .ref ch)] ++ [(.inr "shown", .ref sh)] ++ [(.inr "stack", .ref sk)] ++ [(.inr "paid", .int 0)] ++ [(.inr "highest", .int 0)]) (k := .inr "highest") (v := .int 0) hd7 (by simp) rfl fun H8 e8 => ?_⟩
    have k8 := stepK k7 e8
    have hd8 : H8 d = some (.dK (stK tb sz an sn rl tx ch sh sk u 0)) := by rw [e8]; exact upd_same
    have o7 : ∀ {x : Addr} {zs : List V}, H6 x = some (.lst zs) → H8 x = some (.lst zs) := fun h => other hd7 e8 (other hd6 e7 h)
    refine ⟨_, rfl, k d tb tx ch sh sk H8 nd ntbH ntxH nchH nskH ⟨hd8, o7 htb6, k8 _ _ hsz (by simp), k8 _ _ hsn (by simp), k8 _ _ hrl (by simp), ⟨[], o7 htx6, .nil⟩, ⟨[], o7 hch6, Nat.le_refl _⟩, o7 hsk6, ?_⟩ k8⟩
    have f : ∀ {x y : Addr} {o : HO}, H x = some o → H y = none → x ≠ y := fun a b => ne_of_none a b
    simp only [List.nodup_cons, List.mem_cons, List.not_mem_nil, or_false, not_or, List.nodup_nil, and_true]
    exact ⟨⟨n1, n2, f hsz ntbH, f hsz nskH, f hsz ntxH, f hsz nchH⟩, ⟨n3, f hsn ntbH, f hsn nskH, f hsn ntxH, f hsn nchH⟩, ⟨f hrl ntbH, f hrl nskH, f hrl ntxH, f hrl nchH⟩, ⟨tbsk, tbtx, tbch⟩, ⟨txsk.symm, chsk.symm⟩, txch, not_false⟩
end

end Th
namespace Th
section
variable {P : Program} {w : World} {K : PySem.W.Frag} {mg : Str → Option Value} {base : Heap} {C_Tape : Addr} {C_Thinker : Addr} {C_Brain : Addr} {C_Mind : Addr} {C_Frame : Addr} {C_Thinking : Addr} {C_Checker : Addr} {C_GameError : Addr} {C_BadCode : Addr} {f_BadCode___init : Addr} {T_EVENTS : Addr} {T_SIGNS : Addr} {T_ROUND_NAMES : Addr} {T_BRAIN_NAMES : Addr} {T_EFFECTS : Addr}
theorem vw_at {seen : List Int} {a : Int} (h0 : 0 ≤ a) : atI (seen.map V.int ++ [V.int 0]) (if (seen.length : Int) < a then (seen.length : Int) else a) = some (.int (vw seen a)) := by
  by_cases h : (seen.length : Int) < a
  · rw [if_pos h]
    refine atI_nat ?_
    rw [List.getElem?_append_right (by rw [List.length_map]; exact Nat.le_refl _), List.length_map, Nat.sub_self]
    unfold vw
    rw [if_neg (by omega)]; rfl
  · rw [if_neg h]
    obtain ⟨j, rfl⟩ : ∃ j : Nat, a = (j : Int) := ⟨a.toNat, by omega⟩
    refine atI_nat ?_
    unfold vw
    by_cases h2 : j < seen.length
    · rw [List.getElem?_append_left (by rw [List.length_map]; exact h2), if_pos (by omega), Int.toNat_natCast, List.getElem?_map, List.getElem?_eq_getElem h2, List.getD_eq_getElem?_getD, List.getElem?_eq_getElem h2]; rfl
    · have e : j = seen.length := by omega
      subst e
      rw [List.getElem?_append_right (by rw [List.length_map]; exact Nat.le_refl _), List.length_map, Nat.sub_self, if_neg (by omega)]; rfl
theorem ok_do {f : Addr} {fd : FuncData} (D : C8.Def K mg "_law_do" s_law_do f fd) (b : Binds K fd ["state", "name", "argument"] []) (T : Txt K mg C_Tape C_Thinker C_Brain C_Mind C_Frame C_Thinking C_Checker C_GameError C_BadCode T_EVENTS T_SIGNS T_ROUND_NAMES T_BRAIN_NAMES T_EFFECTS) (c_law_combine : C8.Cal P w K mg base 1 "_law_combine" sp_lcomb []) (c_law_fall : C8.Cal P w K mg base 1 "_law_fall" sp_lfall []) : C8.Cal P w K mg base 2 "_law_do" sp_do [] := by
  refine cal0 D b .nil sc_law_do (fun vs H Q E h => ?_) (fun cdv A outer s H vs Q E hr h => ?_)
  · obtain ⟨d, tb, sz, an, sn, rl, tx, ch, sh, sk, ns, seen, rs, m, m', hi, i, rfl, _⟩ := h
    rfl
  · obtain ⟨d, tb, sz, an, sn, rl, tx, ch, sh, sk, ns, seen, rs, m, m', hi, i, rfl, hA, hI, he, v1, v2, hcl, hst, htk, hsl, hrl, k⟩ := h
    have hu := hu_of hr
    refine ⟨_, (pss_cons (ps_set (i := 3) sc_law_do.nd rfl (by first | exact Or.inl rfl | exact Or.inr rfl) (pe_dget hu (pv 0) pe_str (fun _ _ => rfl)))
(pss_one (ps_if (pt_cmpR op_eq (pv 1) pe_str (nomark _))
  (pss_one (ps_expr (pe_bm PySem.F.plainAttrs_list PySem.F.slot_list_append PySem.F.type_list_append mt_append (pv 3) (pa_cons (pv 2) pa_nil))))
  (pss_one (ps_if (pt_cmpR op_eq (pv 1) pe_str (nomark _))
    (pss_one (ps_expr (pe_bm PySem.F.plainAttrs_list PySem.F.slot_list_append PySem.F.type_list_append mt_append (pv 3) (pa_cons (pe_ix ix_list (pe_dget hu (pv 0) pe_str (fun _ _ => rfl)) (pv 2) (fun _ _ => rfl)) pa_nil))))
    (pss_one (ps_if (pt_cmpR op_eq (pv 1) pe_str (nomark _))
      (pss_one (ps_expr (pe_bm PySem.F.plainAttrs_list PySem.F.slot_list_append PySem.F.type_list_append mt_append (pv 3) (pa_cons (pe_callB call_len_seq (by rfl) T.n_len bo_len (pa_cons (pe_dget hu (pv 0) pe_str (fun _ _ => rfl)) pa_nil)) pa_nil))))
      (pss_one (ps_if (pt_cmpR op_eq (pv 1) pe_str (nomark _))
        (pss_cons (ps_set (i := 4) sc_law_do.nd rfl (by first | exact Or.inl rfl | exact Or.inr rfl) (pe_bm0 PySem.F.plainAttrs_list PySem.F.slot_list_pop PySem.F.type_list_pop mt_pop (pv 3)))
        (pss_cons (ps_set (i := 5) sc_law_do.nd rfl (by first | exact Or.inl rfl | exact Or.inr rfl) (pe_bm0 PySem.F.plainAttrs_list PySem.F.slot_list_pop PySem.F.type_list_pop mt_pop (pv 3)))
        (pss_one (ps_expr (pe_bm PySem.F.plainAttrs_list PySem.F.slot_list_append PySem.F.type_list_append mt_append (pv 3) (pa_cons (pe_c c_law_combine hr (by first | exact Nat.le_refl _ | decide | omega) rfl (pa_cons (pv 2) (pa_cons (pv 5) (pa_cons (pv 4) pa_nil)))) pa_nil))))))
        (pss_one (ps_if (pt_cmpR op_eq (pv 1) pe_str (nomark _))
          (pss_cons (ps_set (i := 6) sc_law_do.nd rfl (by first | exact Or.inl rfl | exact Or.inr rfl) (pe_bm0 PySem.F.plainAttrs_list PySem.F.slot_list_pop PySem.F.type_list_pop mt_pop (pv 3)))
          (pss_one (ps_expr (pe_bm PySem.F.plainAttrs_list PySem.F.slot_list_append PySem.F.type_list_append mt_append (pv 3) (pa_cons (pe_ix ix_list (pe_op op_cat (pe_callTy call_list_of (by rfl) T.n_list bo_list (pa_cons (pe_dget hu (pv 0) pe_str (fun _ _ => rfl)) pa_nil)) (pe_lst (pa_cons pe_int pa_nil))) (pe_callB (call_min2 rfl) (by rfl) T.n_min bo_min (pa_cons (pv 6) (pa_cons (pe_callB call_len_seq (by rfl) T.n_len bo_len (pa_cons (pe_dget hu (pv 0) pe_str (fun _ _ => rfl)) pa_nil)) pa_nil))) (fun _ _ => rfl)) pa_nil)))))
          (pss_one (ps_if (pt_cmpR op_eq (pv 1) pe_str (nomark _))
            (pss_cons (ps_set (i := 7) sc_law_do.nd rfl (by first | exact Or.inl rfl | exact Or.inr rfl) (pe_bm0 PySem.F.plainAttrs_list PySem.F.slot_list_pop PySem.F.type_list_pop mt_pop (pv 3)))
            (pss_cons (ps_set (i := 8) sc_law_do.nd rfl (by first | exact Or.inl rfl | exact Or.inr rfl) pe_int)
            (pss_cons (ps_if (pt_cmpR op_gt (pv 7) pe_int (nomark _))
              (pss_cons (ps_set (i := 8) sc_law_do.nd rfl (by first | exact Or.inl rfl | exact Or.inr rfl) (pe_c c_law_fall hr (by first | exact Nat.le_refl _ | decide | omega) rfl (pa_cons (pe_dget hu (pv 0) pe_str (fun _ _ => rfl)) (pa_cons (pe_dget hu (pv 0) pe_str (fun _ _ => rfl)) (pa_cons (pv 7) pa_nil)))))
              (pss_cons (ps_set (i := 9) sc_law_do.nd rfl (by first | exact Or.inl rfl | exact Or.inr rfl) (pe_dget hu (pv 0) pe_str (fun _ _ => rfl)))
              (pss_one (ps_expr (pe_bm PySem.F.plainAttrs_list PySem.F.slot_list_append PySem.F.type_list_append mt_append (pv 9) (pa_cons (pv 8) pa_nil))))))
              pss_nil)
            (pss_one (ps_expr (pe_bm PySem.F.plainAttrs_list PySem.F.slot_list_append PySem.F.type_list_append mt_append (pv 3) (pa_cons (pv 8) pa_nil)))))))
            (pss_one (ps_if (pt_cmpR op_eq (pv 1) pe_str (nomark _))
              (pss_cons (ps_set (i := 8) sc_law_do.nd rfl (by first | exact Or.inl rfl | exact Or.inr rfl) (pe_ix ix_list (pe_dget hu (pv 0) pe_str (fun _ _ => rfl)) (pv 2) (fun _ _ => rfl)))
              (pss_cons (ps_set (i := 9) sc_law_do.nd rfl (by first | exact Or.inl rfl | exact Or.inr rfl) (pe_dget hu (pv 0) pe_str (fun _ _ => rfl)))
              (pss_cons (ps_expr (pe_bm PySem.F.plainAttrs_list PySem.F.slot_list_append PySem.F.type_list_append mt_append (pv 9) (pa_cons (pv 8) pa_nil)))
              (pss_one (ps_expr (pe_bm PySem.F.plainAttrs_list PySem.F.slot_list_append PySem.F.type_list_append mt_append (pv 3) (pa_cons (pv 8) pa_nil)))))))
              (pss_one (ps_if (pt_cmpR op_eq (pv 1) pe_str (nomark _))
                (pss_one (ps_dput hu (pv 0) pe_str (pe_op op_sub (pe_dget hu (pv 0) pe_str (fun _ _ => rfl)) pe_int) (by rfl)))
                (pss_one (ps_if (pt_cmpR op_eq (pv 1) pe_str (nomark _))
                  (pss_cons (ps_set (i := 10) sc_law_do.nd rfl (by first | exact Or.inl rfl | exact Or.inr rfl) (pe_dget hu (pv 0) pe_str (fun _ _ => rfl)))
                  (pss_one (ps_asg (pe_op op_mod (pe_callTy call_int1 (by rfl) T.n_int bo_int (pa_cons (pe_bm0 PySem.F.plainAttrs_list PySem.F.slot_list_pop PySem.F.type_list_pop mt_pop (pv 3)) pa_nil)) (pe_ix ix_list (pe_dget hu (pv 0) pe_str (fun _ _ => rfl)) (pv 2) (fun _ _ => rfl))) (pg_sub (pv 10) (pv 2) set_list))))
                  (pss_one (ps_if (pt_cmpR op_eq (pv 1) pe_str (nomark _))
                    (pss_one (ps_dput hu (pv 0) pe_str (pe_op op_add (pe_dget hu (pv 0) pe_str (fun _ _ => rfl)) (pe_bm0 PySem.F.plainAttrs_list PySem.F.slot_list_pop PySem.F.type_list_pop mt_pop (pv 3))) (by rfl)))
                    (pss_one (ps_if (pt_cmpR op_eq (pv 1) pe_str (nomark _))
                      (pss_one (ps_dput hu (pv 0) pe_str (pe_op op_sub (pe_dget hu (pv 0) pe_str (fun _ _ => rfl)) (pe_bm0 PySem.F.plainAttrs_list PySem.F.slot_list_pop PySem.F.type_list_pop mt_pop (pv 3))) (by rfl)))
                      (pss_one (ps_if (pt_cmpR op_eq (pv 1) pe_str (nomark _))
                        (pss_cons (ps_set (i := 11) sc_law_do.nd rfl (by first | exact Or.inl rfl | exact Or.inr rfl) (pe_dget hu (pv 0) pe_str (fun _ _ => rfl)))
                        (pss_one (ps_expr (pe_bm PySem.F.plainAttrs_list PySem.F.slot_list_append PySem.F.type_list_append mt_append (pv 11) (pa_cons (pe_tup (pa_cons (pv 2) (pa_cons (pe_bm0 PySem.F.plainAttrs_list PySem.F.slot_list_pop PySem.F.type_list_pop mt_pop (pv 3)) pa_nil))) pa_nil)))))
                        pss_nil))))))))))))))))))))))))), ?_⟩
    have hlen : (m.st.reverse.map V.int).length = m.st.length := by rw [List.length_map, List.length_reverse]
    refine ⟨_, rfl, d, _, rfl, dg (k := .inr "stack") hA.hd rfl, ?_⟩
    cases i with
    | skip _ => exact hI.elim
    | jump _ => exact hI.elim
    | back _ => exact hI.elim
    | fin => exact hI.elim
    | unit =>
      cases he
      refine ⟨_, rfl, rfl, _, rfl, iteDF (ness (by decide +kernel)) ?_⟩
      refine ⟨_, rfl, rfl, _, rfl, iteDF (ness (by decide +kernel)) ?_⟩
      refine ⟨_, rfl, rfl, _, rfl, iteDF (ness (by decide +kernel)) ?_⟩
      refine ⟨_, rfl, rfl, _, rfl, iteDF (ness (by decide +kernel)) ?_⟩
      refine ⟨_, rfl, rfl, _, rfl, iteDF (ness (by decide +kernel)) ?_⟩
      refine ⟨_, rfl, rfl, _, rfl, iteDF (ness (by decide +kernel)) ?_⟩
      refine ⟨_, rfl, rfl, _, rfl, iteDF (ness (by decide +kernel)) ?_⟩
      refine ⟨_, rfl, rfl, _, rfl, iteDT rfl ?_⟩
      refine ⟨_, rfl, d, _, rfl, dg (k := .inr "left") hA.hd rfl, ?_⟩
      refine ⟨_, _, rfl, rfl, _, rfl, put_of (k := .inr "left") hA.hd (by simp [stK]) (kvs' := stK tb sz an sn rl tx ch sh sk (m.left - 1) hi) rfl fun H' e' => ?_⟩
      subst e'
      exact k _ (hA.setD (m.left - 1) hi { m with silent := decide (V.int m.left = V.int 0), done := decide (V.int m.left = V.int 0), left := m.left - 1 } rfl rfl rfl rfl) (Keep.at_ (by simp))
    | store y =>
      cases hs : m.st with
      | nil =>
        have he' : (match m.st with | v :: r => if y ∈ ns ∧ m.cells.length = ns.length then some { m with st := r, cells := m.cells.set (idx ns y) v } else none | [] => none) = some m' := he
        rw [hs] at he'; cases he'
      | cons v r =>
        have he' : (match m.st with | v :: r => if y ∈ ns ∧ m.cells.length = ns.length then some { m with st := r, cells := m.cells.set (idx ns y) v } else none | [] => none) = some m' := he
        rw [hs] at he'
        dsimp only at he'
        split at he'
        case isFalse => cases he'
        cases he'
        rename_i hy
        have hp := hA.pop hs
        have hv := v1 v (by rw [hs]; exact List.mem_cons_self ..)
        have hix := idx_lt hy.1
        have q := hp.2.setT (m.cells.set (idx ns y) v)
        refine ⟨_, rfl, rfl, _, rfl, iteDF (ness (show ("store" : Str) ≠ "push" by decide +kernel)) ?_⟩
        refine ⟨_, rfl, rfl, _, rfl, iteDF (ness (show ("store" : Str) ≠ "load" by decide +kernel)) ?_⟩
        refine ⟨_, rfl, rfl, _, rfl, iteDF (ness (show ("store" : Str) ≠ "long" by decide +kernel)) ?_⟩
        refine ⟨_, rfl, rfl, _, rfl, iteDF (ness (show ("store" : Str) ≠ "sign" by decide +kernel)) ?_⟩
        refine ⟨_, rfl, rfl, _, rfl, iteDF (ness (show ("store" : Str) ≠ "view" by decide +kernel)) ?_⟩
        refine ⟨_, rfl, rfl, _, rfl, iteDF (ness (show ("store" : Str) ≠ "lot" by decide +kernel)) ?_⟩
        refine ⟨_, rfl, rfl, _, rfl, iteDF (ness (show ("store" : Str) ≠ "ask" by decide +kernel)) ?_⟩
        refine ⟨_, rfl, rfl, _, rfl, iteDF (ness (show ("store" : Str) ≠ "unit" by decide +kernel)) ?_⟩
        refine ⟨_, rfl, rfl, _, rfl, iteDT rfl ?_⟩
        refine ⟨_, rfl, d, _, rfl, dg (k := .inr "table") hA.hd rfl, ?_⟩
        refine ⟨_, rfl, .inl ⟨rfl, _, SqL.of hA.hsk⟩, sk, _, _, rfl, rfl, hA.hsk, hp.1, .inl ⟨_, rfl, ?_⟩⟩
        have k1 : Keep [d, tb, tx, ch, sk] H (upd H sk (.lst (m.st.reverse.map V.int).dropLast)) := Keep.at_ (by simp)
        generalize upd H sk (.lst (m.st.reverse.map V.int).dropLast) = H1 at *
        have hrep : ((List.replicate ns.length (65536 : Int)).map V.int)[idx ns y]? = some (.int 65536) := by rw [List.getElem?_map, List.getElem?_replicate, if_pos hix]; rfl
        refine ⟨_, rfl, d, _, rfl, dg (k := .inr "sizes") hp.2.hd rfl, _, rfl, _, _, _, _, rfl, rfl, SqL.of hp.2.hsz, atI_nat hrep, _, _, rfl, rfl, (by show (0 : Int) < 65536; decide), ?_⟩
        refine ⟨_, rfl, _, rfl, tb, _, _, _, rfl, rfl, hp.2.htb, ixN_n (by rw [List.length_map, hy.2]; exact hix), ?_⟩
        have e : ((m.cells.set (idx ns y) v).map V.int) = (m.cells.map V.int).set (idx ns y) (.int (v % 65536)) := by rw [List.map_set, Int.emod_eq_of_lt hv.1 hv.2]
        rw [e] at q
        exact k _ q (k1.trans (Keep.at_ (by simp)))
    | lot =>
      cases hs : m.st with
      | nil =>
        have he' : (match m.st with | c :: r => if c < 65536 ∧ m.tk.length ≤ 800000 then some (if c > 0 then { m with st := nextR rs m.tk c :: r, tk := m.tk ++ [(nextR rs m.tk c, c)] } else { m with st := 0 :: r }) else none | [] => none) = some m' := he
        rw [hs] at he'; cases he'
      | cons cc r =>
        have he' : (match m.st with | c :: r => if c < 65536 ∧ m.tk.length ≤ 800000 then some (if c > 0 then { m with st := nextR rs m.tk c :: r, tk := m.tk ++ [(nextR rs m.tk c, c)] } else { m with st := 0 :: r }) else none | [] => none) = some m' := he
        rw [hs] at he'
        dsimp only at he'
        split at he'
        case isFalse => cases he'
        have he2 := Option.some.inj he'
        rename_i hc
        have hp := hA.pop hs
        have hB := hp.2
        have hrl2 : r.length ≤ 100 := by rw [hs, List.length_cons] at hst; omega
        refine ⟨_, rfl, rfl, _, rfl, iteDF (ness (by decide +kernel)) ?_⟩
        refine ⟨_, rfl, rfl, _, rfl, iteDF (ness (by decide +kernel)) ?_⟩
        refine ⟨_, rfl, rfl, _, rfl, iteDF (ness (by decide +kernel)) ?_⟩
        refine ⟨_, rfl, rfl, _, rfl, iteDF (ness (by decide +kernel)) ?_⟩
        refine ⟨_, rfl, rfl, _, rfl, iteDF (ness (by decide +kernel)) ?_⟩
        refine ⟨_, rfl, rfl, _, rfl, iteDT rfl ?_⟩
        refine ⟨_, rfl, .inl ⟨rfl, _, SqL.of hA.hsk⟩, sk, _, _, rfl, rfl, hA.hsk, hp.1, ?_⟩
        have k1 : Keep [d, tb, tx, ch, sk] H (upd H sk (.lst (m.st.reverse.map V.int).dropLast)) := Keep.at_ (by simp)
        generalize upd H sk (.lst (m.st.reverse.map V.int).dropLast) = H1 at *
        refine ⟨_, rfl, _, _, rfl, rfl, _, rfl, iteD (fun h => ?_) (fun h => ?_)⟩
        · have h' : cc > 0 := h
          rw [if_pos h'] at he2
          obtain ⟨xs, htx, hpl⟩ := hB.htx
          obtain ⟨_, _, ⟨_, _, c3, _⟩, _, _, g⟩ := nd_all hB.nd
          refine ⟨_, rfl, d, _, rfl, dg (k := .inr "results") hB.hd rfl, ?_⟩
          refine ⟨_, rfl, d, _, rfl, dg (k := .inr "taken") hB.hd rfl, ?_⟩
          refine ⟨_, rfl, rl, tx, rs, m.tk, xs, cc, rfl, h', by omega, hB.hrl, htx, hpl, by show m.tk.length ≤ 900000; omega, c3.symm, fun H2 K2 ht2 => ?_⟩
          have hC := hB.setK K2 ht2 (by simp)
          obtain ⟨ys, hch, hcl'⟩ := hC.hch
          have hyl : ys.length ≤ m.tk.length := by
            obtain ⟨ys0, hc0, hl0⟩ := hB.hch
            have := K2 _ _ hc0 (by simpa using g.symm)
            rw [hch] at this
            cases this
            exact hl0
          refine ⟨_, rfl, d, _, rfl, dg (k := .inr "choices") hC.hd rfl, ?_⟩
          refine ⟨_, rfl, .inl ⟨rfl, _, SqL.of hch⟩, _, rfl, ch, _, _, rfl, rfl, hch, smallL (by omega), ?_⟩
          have hE := hC.setC (zs := ys ++ [.int (nextR rs m.tk cc)]) (by show _ ≤ (m.tk ++ [(nextR rs m.tk cc, cc)]).length; simp; omega)
          have k3 : Keep [d, tb, tx, ch, sk] H2 (upd H2 ch (.lst (ys ++ [.int (nextR rs m.tk cc)]))) := Keep.at_ (by simp)
          generalize upd H2 ch (.lst (ys ++ [.int (nextR rs m.tk cc)])) = H3 at *
          have q := hE.push (nextR rs m.tk cc)
          refine ⟨_, rfl, .inl ⟨rfl, _, SqL.of hE.hsk⟩, _, rfl, sk, _, _, rfl, rfl, hE.hsk, smallL (by rw [List.length_map, List.length_reverse]; show r.length ≤ 1000000; omega), ?_⟩
          rw [he2] at q
          exact k _ q (((k1.trans (K2.mono (by simp))).trans k3).trans (Keep.at_ (by simp)))
        · have h' : ¬ cc > 0 := h
          rw [if_neg h'] at he2
          have q := hB.push 0
          refine ⟨_, rfl, .inl ⟨rfl, _, SqL.of hB.hsk⟩, _, rfl, sk, _, _, rfl, rfl, hB.hsk, smallL (by rw [List.length_map, List.length_reverse]; show r.length ≤ 1000000; omega), ?_⟩
          rw [he2] at q
          exact k _ q (k1.trans (Keep.at_ (by simp)))
    | e i =>
      cases i with
      | push v =>
        cases he
        refine ⟨_, rfl, rfl, _, rfl, iteDT rfl ?_⟩
        refine ⟨_, rfl, .inl ⟨rfl, _, SqL.of hA.hsk⟩, _, rfl, sk, _, _, rfl, rfl, hA.hsk, smallL (by omega), ?_⟩
        exact k _ (hA.push v) (Keep.at_ (by simp))
      | load y =>
        have he' : (if y ∈ ns ∧ m.cells.length = ns.length then some { m with st := m.cells.getD (idx ns y) 0 :: m.st } else none) = some m' := he
        split at he'
        case isFalse => cases he'
        cases he'
        rename_i hy
        have hix := idx_lt hy.1
        have hget : (m.cells.map V.int)[idx ns y]? = some (.int (m.cells.getD (idx ns y) 0)) := by rw [List.getElem?_map, List.getElem?_eq_getElem (by omega), List.getD_eq_getElem?_getD, List.getElem?_eq_getElem (by omega)]; rfl
        refine ⟨_, rfl, rfl, _, rfl, iteDF (ness (show ("load" : Str) ≠ "push" by decide +kernel)) ?_⟩
        refine ⟨_, rfl, rfl, _, rfl, iteDT rfl ?_⟩
        refine ⟨_, rfl, .inl ⟨rfl, _, SqL.of hA.hsk⟩, _, rfl, d, _, rfl, dg (k := .inr "table") hA.hd rfl, ?_⟩
        refine ⟨_, rfl, _, _, _, _, rfl, rfl, SqL.of hA.htb, atI_nat hget, sk, _, _, rfl, rfl, hA.hsk, smallL (by omega), ?_⟩
        exact k _ (hA.push _) (Keep.at_ (by simp))
      | long =>
        cases he
        refine ⟨_, rfl, rfl, _, rfl, iteDF (ness (by decide +kernel)) ?_⟩
        refine ⟨_, rfl, rfl, _, rfl, iteDF (ness (by decide +kernel)) ?_⟩
        refine ⟨_, rfl, rfl, _, rfl, iteDT rfl ?_⟩
        refine ⟨_, rfl, .inl ⟨rfl, _, SqL.of hA.hsk⟩, _, rfl, d, _, rfl, dg (k := .inr "seen") hA.hd rfl, ?_⟩
        refine ⟨sn, _, rfl, .inl (SqL.of hA.hsn), sk, _, _, rfl, rfl, hA.hsk, smallL (by omega), ?_⟩
        have q := hA.push (seen.length : Int)
        rw [List.length_map]
        have e : (if (65535 : Int) < (seen.length : Int) then (65535 : Int) else (seen.length : Int)) = (seen.length : Int) := if_neg (by omega)
        rw [← e] at q
        rw [← e]
        exact k _ q (Keep.at_ (by simp))
      | view =>
        cases hs : m.st with
        | nil =>
          have he' : (match m.st with | a :: r => if 0 ≤ a then some { m with st := vw seen a :: r } else none | [] => none) = some m' := he
          rw [hs] at he'; cases he'
        | cons a r =>
          have he' : (match m.st with | a :: r => if 0 ≤ a then some { m with st := vw seen a :: r } else none | [] => none) = some m' := he
          rw [hs] at he'
          dsimp only at he'
          split at he'
          case isFalse => cases he'
          have he2 := Option.some.inj he'
          rename_i ha0
          have hp := hA.pop hs
          have hB := hp.2
          have hrl2 : r.length ≤ 100 := by rw [hs, List.length_cons] at hst; omega
          refine ⟨_, rfl, rfl, _, rfl, iteDF (ness (by decide +kernel)) ?_⟩
          refine ⟨_, rfl, rfl, _, rfl, iteDF (ness (by decide +kernel)) ?_⟩
          refine ⟨_, rfl, rfl, _, rfl, iteDF (ness (by decide +kernel)) ?_⟩
          refine ⟨_, rfl, rfl, _, rfl, iteDF (ness (by decide +kernel)) ?_⟩
          refine ⟨_, rfl, rfl, _, rfl, iteDT rfl ?_⟩
          refine ⟨_, rfl, .inl ⟨rfl, _, SqL.of hA.hsk⟩, sk, _, _, rfl, rfl, hA.hsk, hp.1, ?_⟩
          have k1 : Keep [d, tb, tx, ch, sk] H (upd H sk (.lst (m.st.reverse.map V.int).dropLast)) := Keep.at_ (by simp)
          generalize upd H sk (.lst (m.st.reverse.map V.int).dropLast) = H1 at *
          refine ⟨_, rfl, .inl ⟨rfl, _, SqL.of hB.hsk⟩, _, rfl, d, _, rfl, dg (k := .inr "seen") hB.hd rfl, ?_⟩
          refine ⟨sn, _, rfl, .inl (SqL.of hB.hsn), fun l1 nl1 => ?_⟩
          have ka := Keep.new (W := []) (o := .lst (seen.map V.int)) nl1
          have hl1 : upd H1 l1 (.lst (seen.map V.int)) l1 = some (.lst (seen.map V.int)) := upd_same
          generalize upd H1 l1 (.lst (seen.map V.int)) = H2 at *
          refine And.intro (by show 1 ≤ sizeLine; decide) <| fun l2 nl2 => ?_
          have kb := Keep.new (W := []) (o := .lst [.int 0]) nl2
          have hl2 : upd H2 l2 (.lst [.int 0]) l2 = some (.lst [.int 0]) := upd_same
          have hl1' := kb _ _ hl1 (by simp)
          generalize upd H2 l2 (.lst [.int 0]) = H3 at *
          refine ⟨l1, l2, _, _, rfl, rfl, hl1', hl2, smallM (by rw [List.length_map]; simp; omega), fun l3 nl3 => ?_⟩
          have kc := Keep.new (W := []) (o := .lst (seen.map V.int ++ [.int 0])) nl3
          have hl3 : upd H3 l3 (.lst (seen.map V.int ++ [.int 0])) l3 = some (.lst (seen.map V.int ++ [.int 0])) := upd_same
          generalize upd H3 l3 (.lst (seen.map V.int ++ [.int 0])) = H4 at *
          have k14 := (ka.trans kb).trans kc
          have hE := hB.keep0 k14
          refine ⟨_, rfl, _, rfl, d, _, rfl, dg (k := .inr "seen") hE.hd rfl, ?_⟩
          refine ⟨sn, _, rfl, .inl (SqL.of hE.hsn), _, _, rfl, l3, _, _, .int (vw seen a), rfl, rfl, SqL.of hl3, (by rw [List.length_map]; exact vw_at ha0), ?_⟩
          refine ⟨sk, _, _, rfl, rfl, hE.hsk, smallL (by rw [List.length_map, List.length_reverse]; show r.length ≤ 1000000; omega), ?_⟩
          have q := hE.push (vw seen a)
          rw [he2] at q
          exact k _ q ((k1.trans (k14.mono (by simp))).trans (Keep.at_ (by simp)))
      | sign z =>
        rcases hs : m.st with _ | ⟨y, _ | ⟨x, r⟩⟩
        · have he' : (match m.st with | b :: a :: r => if z ∈ sgL ∧ 0 ≤ a ∧ a < 65536 ∧ 0 ≤ b ∧ b < 65536 then some { m with st := comb z a b :: r } else none | _ => none) = some m' := he
          rw [hs] at he'; cases he'
        · have he' : (match m.st with | b :: a :: r => if z ∈ sgL ∧ 0 ≤ a ∧ a < 65536 ∧ 0 ≤ b ∧ b < 65536 then some { m with st := comb z a b :: r } else none | _ => none) = some m' := he
          rw [hs] at he'; cases he'
        · have he' : (match m.st with | b :: a :: r => if z ∈ sgL ∧ 0 ≤ a ∧ a < 65536 ∧ 0 ≤ b ∧ b < 65536 then some { m with st := comb z a b :: r } else none | _ => none) = some m' := he
          rw [hs] at he'
          dsimp only at he'
          split at he'
          case isFalse => cases he'
          have he2 := Option.some.inj he'
          rename_i hz
          have hp := hA.pop hs
          have hB := hp.2
          have hrl2 : r.length ≤ 100 := by rw [hs, List.length_cons, List.length_cons] at hst; omega
          refine ⟨_, rfl, rfl, _, rfl, iteDF (ness (show ("sign" : Str) ≠ "push" by decide +kernel)) ?_⟩
          refine ⟨_, rfl, rfl, _, rfl, iteDF (ness (show ("sign" : Str) ≠ "load" by decide +kernel)) ?_⟩
          refine ⟨_, rfl, rfl, _, rfl, iteDF (ness (show ("sign" : Str) ≠ "long" by decide +kernel)) ?_⟩
          refine ⟨_, rfl, rfl, _, rfl, iteDT rfl ?_⟩
          refine ⟨_, rfl, .inl ⟨rfl, _, SqL.of hA.hsk⟩, sk, _, _, rfl, rfl, hA.hsk, hp.1, ?_⟩
          have k1 : Keep [d, tb, tx, ch, sk] H (upd H sk (.lst (m.st.reverse.map V.int).dropLast)) := Keep.at_ (by simp)
          generalize upd H sk (.lst (m.st.reverse.map V.int).dropLast) = H1 at *
          have hp2 := hB.pop (v := x) (r := r) rfl
          have hC := hp2.2
          refine ⟨_, rfl, .inl ⟨rfl, _, SqL.of hB.hsk⟩, sk, _, _, rfl, rfl, hB.hsk, hp2.1, ?_⟩
          have k2 : Keep [d, tb, tx, ch, sk] H1 (upd H1 sk (.lst ((x :: r).reverse.map V.int).dropLast)) := Keep.at_ (by simp)
          change StAt (upd H1 sk (.lst ((x :: r).reverse.map V.int).dropLast)) _ _ _ _ _ _ _ _ _ _ _ _ _ _ _ at hC
          generalize upd H1 sk (.lst ((x :: r).reverse.map V.int).dropLast) = H2 at *
          refine ⟨_, rfl, .inl ⟨rfl, _, SqL.of hC.hsk⟩, _, rfl, _, rfl, _, rfl, z, x, y, rfl, hz.1, hz.2.1, hz.2.2.1, hz.2.2.2.1, hz.2.2.2.2, sk, _, _, rfl, rfl, hC.hsk, smallL (by rw [List.length_map, List.length_reverse]; show r.length ≤ 1000000; omega), ?_⟩
          have q := hC.push (comb z x y)
          rw [he2] at q
          exact k _ q ((k1.trans k2).trans (Keep.at_ (by simp)))
end

end Th
namespace Th
/-! plain law: a code that passes the check never sticks, and how long it runs -/
theorem reach_spec {len : Nat} {v : Int} : ∀ (ts : List Int) {h h' : Hts}, reach len v ts h = some h' → (∀ j x, h j = some x → h' j = some x) ∧ ∀ t ∈ ts, t < (len : Int) ∧ h' t = some v
  | [], h, h', e => by cases e; exact ⟨fun _ _ z => z, fun _ z => nomatch z⟩
  | t :: ts, h, h', e => by
    unfold reach at e
    split at e
    · cases e
    · rename_i hc
      obtain ⟨a, b⟩ := reach_spec ts e
      have c1 : t < (len : Int) := by
        have : ¬ t ≥ (len : Int) := fun z => hc (.inl z)
        omega
      have c2 : (h t).getD v = v := Decidable.byContradiction fun z => hc (.inr z)
      refine ⟨fun j x hj => a j x ?_, fun t' ht' => ?_⟩
      · unfold setH
        split
        · rename_i ej
          subst ej
          rw [hj] at c2
          rw [show x = v from c2]
        · exact hj
      · rcases List.mem_cons.mp ht' with rfl | ht'
        · exact ⟨c1, a _ _ (by unfold setH; rw [if_pos rfl])⟩
        · exact b t' ht'
def Loc (cs : List In2) (sl : Int) (i : Int) (n : Str) (a : Int) (h : Hts) (top : Int) : Prop :=
  ∃ v, h i = some v ∧ n ∈ nmsOf true ∧ fitsA n a sl 0 = true ∧ (eff n).1 ≤ v ∧ v - (eff n).1 + (eff n).2 ≤ 16 ∧ v - (eff n).1 + (eff n).2 ≤ top ∧ (n = "end" → v = 1) ∧
    (n = "back" → 0 ≤ i - a ∧ i - a < i ∧ cs[(i - a).toNat]? = some (("unit" : Str), (0 : Int)) ∧ h (i - a) = some v) ∧ (n ≠ "end" → n ≠ "back" → ∀ t ∈ tgts i n a, t < (cs.length : Int) ∧ h t = some (v - (eff n).1 + (eff n).2))
theorem Loc.ext {cs : List In2} {sl i : Int} {n : Str} {a : Int} {h h' : Hts} {top top' : Int} (l : Loc cs sl i n a h top) (e : ∀ j x, h j = some x → h' j = some x) (ht : top ≤ top') : Loc cs sl i n a h' top' := by
  obtain ⟨v, h1, h2, h3, h4, h5, h6, h7, h8, h9⟩ := l
  exact ⟨v, e _ _ h1, h2, h3, h4, h5, by omega, h7, fun z => by obtain ⟨b1, b2, b3, b4⟩ := h8 z; exact ⟨b1, b2, b3, e _ _ b4⟩, fun z1 z2 t ht => by obtain ⟨b1, b2⟩ := h9 z1 z2 t ht; exact ⟨b1, e _ _ b2⟩⟩
theorem good1_loc {cs : List In2} {sl : Int} {i : Int} {n : Str} {a : Int} {h : Hts} {top : Int} {r : Hts × Int} (e : good1 cs sl 0 true i n a h top = some r) : Loc cs sl i n a r.1 r.2 ∧ (∀ j x, h j = some x → r.1 j = some x) ∧ top ≤ r.2 := by
  unfold good1 at e
  cases hv : h i with
  | none => simp [hv] at e
  | some v =>
    simp only [hv] at e
    split at e
    · cases e
    rename_i c1
    have c1 : n ∈ nmsOf true := Decidable.byContradiction c1
    split at e
    · cases e
    rename_i c2
    have c2 : fitsA n a sl 0 = true := by simpa using c2
    split at e
    · cases e
    rename_i c3
    have c3a : (eff n).1 ≤ v := by
      have : ¬ v < (eff n).1 := fun z => c3 (.inl z)
      omega
    have c3b : v - (eff n).1 + (eff n).2 ≤ 16 := by
      have : ¬ v - (eff n).1 + (eff n).2 > 16 := fun z => c3 (.inr z)
      omega
    have t1 : ∀ w : Int, w ≤ (if w > top then w else top) := fun w => by split <;> omega
    have t2 : ∀ w : Int, top ≤ (if w > top then w else top) := fun w => by split <;> omega
    split at e
    · rename_i ne
      split at e
      · rename_i he
        cases e
        refine ⟨⟨v, hv, c1, c2, c3a, c3b, t1 _, fun _ => he, fun z => ?_, fun z => absurd ne z⟩, fun _ _ z => z, t2 _⟩
        rw [ne] at z
        exact absurd z (by decide +kernel)
      · cases e
    rename_i ne
    split at e
    · rename_i nb
      split at e
      · rename_i hb
        cases e
        unfold backOk at hb
        simp only [Bool.and_eq_true, decide_eq_true_eq] at hb
        exact ⟨⟨v, hv, c1, c2, c3a, c3b, t1 _, fun z => absurd z ne, fun _ => ⟨hb.1.1.1, hb.1.1.2, hb.1.2, by show h (i - a) = some v; rw [hb.2, hv]⟩, fun _ z => absurd nb z⟩, fun _ _ z => z, t2 _⟩
      · cases e
    rename_i nb
    rw [Option.map_eq_some_iff] at e
    obtain ⟨h', e1, rfl⟩ := e
    obtain ⟨a1, a2⟩ := reach_spec _ e1
    exact ⟨⟨v, a1 _ _ hv, c1, c2, c3a, c3b, t1 _, fun z => absurd z ne, fun z => absurd z nb, fun _ _ t ht => a2 t ht⟩, a1, t2 _⟩
theorem upto_loc {cs : List In2} {sl : Int} : ∀ (N : Nat) {s : Hts × Int}, upto cs sl 0 true N = some s → (∀ i, i < N → ∃ n a, cs[i]? = some (n, a) ∧ Loc cs sl (i : Int) n a s.1 s.2) ∧ s.1 0 = some 0 ∧ 0 ≤ s.2
  | 0, s, e => by cases e; exact ⟨fun i h => absurd h (Nat.not_lt_zero _), rfl, Int.le_refl _⟩
  | N + 1, s, e => by
    have e' : (match upto cs sl 0 true N, cs[N]? with | some s, some p => good1 cs sl 0 true (N : Int) p.1 p.2 s.1 s.2 | _, _ => none) = some s := e
    cases h1 : upto cs sl 0 true N with
    | none => rw [h1] at e'; cases e'
    | some s0 =>
      cases h2 : cs[N]? with
      | none => rw [h1, h2] at e'; cases e'
      | some p =>
        rw [h1, h2] at e'
        obtain ⟨a1, a2, a3⟩ := upto_loc N h1
        obtain ⟨b1, b2, b3⟩ := good1_loc e'
        refine ⟨fun i hi => ?_, b2 _ _ a2, by omega⟩
        rcases Nat.lt_or_ge i N with h | h
        · obtain ⟨n, a, c1, c2⟩ := a1 i h
          exact ⟨n, a, c1, c2.ext b2 b3⟩
        · have : i = N := by omega
          subst this
          exact ⟨p.1, p.2, h2, b1⟩
/-! the machine's instructions -/
def nmK (j : Nat) : Str := ⟨#[j]⟩
def nsK (k : Nat) : List Str := (List.range k).map nmK
theorem nsK_len (k : Nat) : (nsK k).length = k := by unfold nsK; rw [List.length_map, List.length_range]
theorem nmK_inj {i j : Nat} (h : nmK i = nmK j) : i = j := by
  have : (#[i] : Array Nat) = #[j] := congrArg Str.cps h
  simpa using this
theorem mem_nsK {k j : Nat} (h : j < k) : nmK j ∈ nsK k := List.mem_map.mpr ⟨j, List.mem_range.mpr h, rfl⟩
theorem idx_nsK {k j : Nat} (h : j < k) : idx (nsK k) (nmK j) = j := by
  obtain ⟨h1, h2⟩ := idx_get (mem_nsK h)
  have hl : idx (nsK k) (nmK j) < k := by have := idx_lt (mem_nsK h); rwa [nsK_len] at this
  have e : ∀ i, i < k → (nsK k)[i]? = some (nmK i) := fun i hi => by
    unfold nsK
    rw [List.getElem?_map, List.getElem?_range hi]
    rfl
  rw [e _ hl] at h1
  exact nmK_inj (Option.some.inj h1)
def conv (p : In2) : MI :=
  if p.1 = "push" then .e (.push p.2) else if p.1 = "load" then .e (.load (nmK p.2.toNat)) else if p.1 = "store" then .store (nmK p.2.toNat) else if p.1 = "sign" then .e (.sign (sgL.getD p.2.toNat "+"))
  else if p.1 = "jump" then .jump p.2.toNat else if p.1 = "skip" then .skip p.2.toNat else if p.1 = "lot" then .lot else if p.1 = "view" then .e .view else if p.1 = "long" then .e .long
  else if p.1 = "unit" then .unit else if p.1 = "back" then .back p.2.toNat else .fin
theorem nms_cases {n : Str} (h : n ∈ nmsOf true) : n = "push" ∨ n = "load" ∨ n = "store" ∨ n = "sign" ∨ n = "jump" ∨ n = "skip" ∨ n = "lot" ∨ n = "end" ∨ n = "view" ∨ n = "long" ∨ n = "unit" ∨ n = "back" := by
  have h' : n ∈ (["push", "load", "store", "sign", "jump", "skip", "lot", "end", "view", "long", "unit", "back"] : List Str) := h
  simpa using h'
theorem conv_push (a : Int) : conv ("push", a) = .e (.push a) := by unfold conv; rw [if_pos rfl]
theorem conv_load (a : Int) : conv ("load", a) = .e (.load (nmK a.toNat)) := by unfold conv; rw [if_neg (show ¬ ("load" : Str) = "push" by decide +kernel), if_pos rfl]
theorem conv_store (a : Int) : conv ("store", a) = .store (nmK a.toNat) := by
  unfold conv
  rw [if_neg (show ¬ ("store" : Str) = "push" by decide +kernel), if_neg (show ¬ ("store" : Str) = "load" by decide +kernel), if_pos rfl]
theorem conv_sign (a : Int) : conv ("sign", a) = .e (.sign (sgL.getD a.toNat "+")) := by
  unfold conv
  rw [if_neg (show ¬ ("sign" : Str) = "push" by decide +kernel), if_neg (show ¬ ("sign" : Str) = "load" by decide +kernel), if_neg (show ¬ ("sign" : Str) = "store" by decide +kernel), if_pos rfl]
theorem conv_jump (a : Int) : conv ("jump", a) = .jump a.toNat := by
  unfold conv
  rw [if_neg (show ¬ ("jump" : Str) = "push" by decide +kernel), if_neg (show ¬ ("jump" : Str) = "load" by decide +kernel), if_neg (show ¬ ("jump" : Str) = "store" by decide +kernel), if_neg (show ¬ ("jump" : Str) = "sign" by decide +kernel), if_pos rfl]
theorem conv_skip (a : Int) : conv ("skip", a) = .skip a.toNat := by
  unfold conv
  rw [if_neg (show ¬ ("skip" : Str) = "push" by decide +kernel), if_neg (show ¬ ("skip" : Str) = "load" by decide +kernel), if_neg (show ¬ ("skip" : Str) = "store" by decide +kernel), if_neg (show ¬ ("skip" : Str) = "sign" by decide +kernel), if_neg (show ¬ ("skip" : Str) = "jump" by decide +kernel), if_pos rfl]
theorem conv_lot (a : Int) : conv ("lot", a) = .lot := by
  unfold conv
  rw [if_neg (show ¬ ("lot" : Str) = "push" by decide +kernel), if_neg (show ¬ ("lot" : Str) = "load" by decide +kernel), if_neg (show ¬ ("lot" : Str) = "store" by decide +kernel), if_neg (show ¬ ("lot" : Str) = "sign" by decide +kernel), if_neg (show ¬ ("lot" : Str) = "jump" by decide +kernel), if_neg (show ¬ ("lot" : Str) = "skip" by decide +kernel), if_pos rfl]
theorem conv_view (a : Int) : conv ("view", a) = .e .view := by
  unfold conv
  rw [if_neg (show ¬ ("view" : Str) = "push" by decide +kernel), if_neg (show ¬ ("view" : Str) = "load" by decide +kernel), if_neg (show ¬ ("view" : Str) = "store" by decide +kernel), if_neg (show ¬ ("view" : Str) = "sign" by decide +kernel), if_neg (show ¬ ("view" : Str) = "jump" by decide +kernel), if_neg (show ¬ ("view" : Str) = "skip" by decide +kernel), if_neg (show ¬ ("view" : Str) = "lot" by decide +kernel), if_pos rfl]
theorem conv_long (a : Int) : conv ("long", a) = .e .long := by
  unfold conv
  rw [if_neg (show ¬ ("long" : Str) = "push" by decide +kernel), if_neg (show ¬ ("long" : Str) = "load" by decide +kernel), if_neg (show ¬ ("long" : Str) = "store" by decide +kernel), if_neg (show ¬ ("long" : Str) = "sign" by decide +kernel), if_neg (show ¬ ("long" : Str) = "jump" by decide +kernel), if_neg (show ¬ ("long" : Str) = "skip" by decide +kernel), if_neg (show ¬ ("long" : Str) = "lot" by decide +kernel), if_neg (show ¬ ("long" : Str) = "view" by decide +kernel), if_pos rfl]
theorem conv_unit (a : Int) : conv ("unit", a) = .unit := by
  unfold conv
  rw [if_neg (show ¬ ("unit" : Str) = "push" by decide +kernel), if_neg (show ¬ ("unit" : Str) = "load" by decide +kernel), if_neg (show ¬ ("unit" : Str) = "store" by decide +kernel), if_neg (show ¬ ("unit" : Str) = "sign" by decide +kernel), if_neg (show ¬ ("unit" : Str) = "jump" by decide +kernel), if_neg (show ¬ ("unit" : Str) = "skip" by decide +kernel), if_neg (show ¬ ("unit" : Str) = "lot" by decide +kernel), if_neg (show ¬ ("unit" : Str) = "view" by decide +kernel), if_neg (show ¬ ("unit" : Str) = "long" by decide +kernel), if_pos rfl]
theorem conv_back (a : Int) : conv ("back", a) = .back a.toNat := by
  unfold conv
  rw [if_neg (show ¬ ("back" : Str) = "push" by decide +kernel), if_neg (show ¬ ("back" : Str) = "load" by decide +kernel), if_neg (show ¬ ("back" : Str) = "store" by decide +kernel), if_neg (show ¬ ("back" : Str) = "sign" by decide +kernel), if_neg (show ¬ ("back" : Str) = "jump" by decide +kernel), if_neg (show ¬ ("back" : Str) = "skip" by decide +kernel), if_neg (show ¬ ("back" : Str) = "lot" by decide +kernel), if_neg (show ¬ ("back" : Str) = "view" by decide +kernel), if_neg (show ¬ ("back" : Str) = "long" by decide +kernel), if_neg (show ¬ ("back" : Str) = "unit" by decide +kernel), if_pos rfl]
theorem conv_end (a : Int) : conv ("end", a) = .fin := by
  unfold conv
  rw [if_neg (show ¬ ("end" : Str) = "push" by decide +kernel), if_neg (show ¬ ("end" : Str) = "load" by decide +kernel), if_neg (show ¬ ("end" : Str) = "store" by decide +kernel), if_neg (show ¬ ("end" : Str) = "sign" by decide +kernel), if_neg (show ¬ ("end" : Str) = "jump" by decide +kernel), if_neg (show ¬ ("end" : Str) = "skip" by decide +kernel), if_neg (show ¬ ("end" : Str) = "lot" by decide +kernel), if_neg (show ¬ ("end" : Str) = "view" by decide +kernel), if_neg (show ¬ ("end" : Str) = "long" by decide +kernel), if_neg (show ¬ ("end" : Str) = "unit" by decide +kernel), if_neg (show ¬ ("end" : Str) = "back" by decide +kernel)]
/-! what the check says of arguments -/
theorem fits_push {a sl : Int} (h : fitsA "push" a sl 0 = true) : 0 ≤ a ∧ a ≤ 65535 := by
  unfold fitsA at h
  rw [if_pos rfl] at h
  exact of_decide_eq_true h
theorem fits_load {a sl : Int} (h : fitsA "load" a sl 0 = true) : 0 ≤ a ∧ a < sl := by
  unfold fitsA at h
  rw [if_neg (show ¬ ("load" : Str) = "push" by decide +kernel), if_pos (.inl rfl)] at h
  exact of_decide_eq_true h
theorem fits_store {a sl : Int} (h : fitsA "store" a sl 0 = true) : 0 ≤ a ∧ a < sl := by
  unfold fitsA at h
  rw [if_neg (show ¬ ("store" : Str) = "push" by decide +kernel), if_pos (.inr rfl)] at h
  exact of_decide_eq_true h
theorem fits_sign {a sl : Int} (h : fitsA "sign" a sl 0 = true) : 0 ≤ a ∧ a < 7 := by
  unfold fitsA at h
  rw [if_neg (show ¬ ("sign" : Str) = "push" by decide +kernel), if_neg (show ¬ (("sign" : Str) = "load" ∨ ("sign" : Str) = "store") by decide +kernel), if_pos rfl] at h
  exact of_decide_eq_true h
theorem fits_far {n : Str} {a sl : Int} (hn : n = "jump" ∨ n = "skip" ∨ n = "back") (h : fitsA n a sl 0 = true) : 0 ≤ a := by
  unfold fitsA at h
  rw [if_neg (by rcases hn with rfl | rfl | rfl <;> decide +kernel), if_neg (by rcases hn with rfl | rfl | rfl <;> decide +kernel), if_neg (by rcases hn with rfl | rfl | rfl <;> decide +kernel), if_neg (by rcases hn with rfl | rfl | rfl <;> decide +kernel), if_neg (by rcases hn with rfl | rfl | rfl <;> decide +kernel), if_pos hn] at h
  exact of_decide_eq_true h
theorem fits_none {n : Str} {a sl : Int} (hn : n = "lot" ∨ n = "end" ∨ n = "view" ∨ n = "long" ∨ n = "unit") (h : fitsA n a sl 0 = true) : a = 0 := by
  unfold fitsA at h
  rw [if_neg (by rcases hn with rfl | rfl | rfl | rfl | rfl <;> decide +kernel), if_neg (by rcases hn with rfl | rfl | rfl | rfl | rfl <;> decide +kernel), if_neg (by rcases hn with rfl | rfl | rfl | rfl | rfl <;> decide +kernel), if_neg (by rcases hn with rfl | rfl | rfl | rfl | rfl <;> decide +kernel), if_neg (by rcases hn with rfl | rfl | rfl | rfl | rfl <;> decide +kernel), if_neg (by rcases hn with rfl | rfl | rfl | rfl | rfl <;> decide +kernel)] at h
  exact of_decide_eq_true h
theorem sg_at : ∀ j, j < 7 → sgL.getD j "+" ∈ sgL ∧ idx sgL (sgL.getD j "+") = j := by decide +kernel
theorem conv_ok {n : Str} {a : Int} {k : Nat} (hn : n ∈ nmsOf true) (hf : fitsA n a (k : Int) 0 = true) : tagM (conv (n, a)) = n ∧ numM (nsK k) (conv (n, a)) = a := by
  rcases nms_cases hn with rfl | rfl | rfl | rfl | rfl | rfl | rfl | rfl | rfl | rfl | rfl | rfl
  · rw [conv_push]; exact ⟨rfl, rfl⟩
  · obtain ⟨h0, h1⟩ := fits_load hf
    rw [conv_load]
    refine ⟨rfl, ?_⟩
    show ((idx (nsK k) (nmK a.toNat) : Nat) : Int) = a
    rw [idx_nsK (by omega)]; omega
  · obtain ⟨h0, h1⟩ := fits_store hf
    rw [conv_store]
    refine ⟨rfl, ?_⟩
    show ((idx (nsK k) (nmK a.toNat) : Nat) : Int) = a
    rw [idx_nsK (by omega)]; omega
  · obtain ⟨h0, h1⟩ := fits_sign hf
    rw [conv_sign]
    refine ⟨rfl, ?_⟩
    show ((idx sgL (sgL.getD a.toNat "+") : Nat) : Int) = a
    rw [(sg_at a.toNat (by omega)).2]; omega
  · have := fits_far (.inl rfl) hf
    rw [conv_jump]; exact ⟨rfl, by show ((a.toNat : Nat) : Int) = a; omega⟩
  · have := fits_far (.inr (.inl rfl)) hf
    rw [conv_skip]; exact ⟨rfl, by show ((a.toNat : Nat) : Int) = a; omega⟩
  · have := fits_none (.inl rfl) hf
    rw [conv_lot]; exact ⟨rfl, this.symm⟩
  · have := fits_none (.inr (.inl rfl)) hf
    rw [conv_end]; exact ⟨rfl, this.symm⟩
  · have := fits_none (.inr (.inr (.inl rfl))) hf
    rw [conv_view]; exact ⟨rfl, this.symm⟩
  · have := fits_none (.inr (.inr (.inr (.inl rfl)))) hf
    rw [conv_long]; exact ⟨rfl, this.symm⟩
  · have := fits_none (.inr (.inr (.inr (.inr rfl)))) hf
    rw [conv_unit]; exact ⟨rfl, this.symm⟩
  · have := fits_far (.inr (.inr rfl)) hf
    rw [conv_back]; exact ⟨rfl, by show ((a.toNat : Nat) : Int) = a; omega⟩
/-! one step -/
structure CEnv (cs : List In2) (k : Nat) (hF : Hts) (top : Int) (seen rs : List Int) : Prop where
  loc : ∀ (i : Nat) n a, cs[i]? = some (n, a) → Loc cs (k : Int) (i : Int) n a hF top
  h0 : hF 0 = some 0
  ne : 0 < cs.length
  len : cs.length ≤ 30000
  t0 : 0 ≤ top
  so : VOk seen
  sl : seen.length ≤ 1000
  rl : rs.length ≤ 1000
structure IvM (cs : List In2) (k : Nat) (hF : Hts) (m : MC) : Prop where
  at_ : m.at_ < cs.length
  ht : hF (m.at_ : Int) = some (m.st.length : Int)
  vs : VOk m.st
  vc : VOk m.cells
  cl : m.cells.length = k
  l0 : 0 ≤ m.left
  nd : m.done = false
  ns : m.silent = false
theorem IvM.small {cs : List In2} {k : Nat} {hF : Hts} {top : Int} {seen rs : List Int} {m : MC} (E : CEnv cs k hF top seen rs) (h : IvM cs k hF m) : m.st.length ≤ 18 := by
  obtain ⟨n, a, hna⟩ : ∃ n a, cs[m.at_]? = some (n, a) := ⟨_, _, List.getElem?_eq_getElem h.at_⟩
  obtain ⟨v, h1, h2, _, h4, h5, _⟩ := E.loc _ _ _ hna
  rw [h.ht] at h1
  cases h1
  have : (eff n).1 ≤ 2 ∧ 0 ≤ (eff n).2 := by
    rcases nms_cases h2 with rfl | rfl | rfl | rfl | rfl | rfl | rfl | rfl | rfl | rfl | rfl | rfl <;> decide +kernel
  omega
theorem VOk.cons {x : Int} {l : List Int} (h0 : 0 ≤ x) (h1 : x < 65536) (h : VOk l) : VOk (x :: l) := fun y hy => by
  rcases List.mem_cons.mp hy with rfl | hy
  · exact ⟨h0, h1⟩
  · exact h y hy
theorem VOk.tail {x : Int} {l : List Int} (h : VOk (x :: l)) : VOk l := fun y hy => h y (List.mem_cons_of_mem _ hy)
theorem vw_ok {seen : List Int} (h : VOk seen) {a : Int} : 0 ≤ vw seen a ∧ vw seen a < 65536 := by
  unfold vw
  split
  · rename_i hlt
    by_cases h2 : a.toNat < seen.length
    · rw [List.getD_eq_getElem?_getD, List.getElem?_eq_getElem h2]
      exact h _ (List.getElem_mem h2)
    · rw [List.getD_eq_getElem?_getD, List.getElem?_eq_none (by omega)]
      exact ⟨by decide, by decide⟩
  · exact ⟨by decide, by decide⟩
theorem next_ok {rs : List Int} {tk : List (Int × Int)} {c : Int} (h0 : 0 < c) (h1 : c < 65536) : 0 ≤ nextR rs tk c ∧ nextR rs tk c < 65536 := by
  unfold nextR
  split
  · have := Int.emod_nonneg (rs.getD tk.length 0) (show c ≠ 0 by omega)
    have := Int.emod_lt_of_pos (rs.getD tk.length 0) h0
    omega
  · exact ⟨by decide, by decide⟩
theorem comb_ok {s : Str} (h : s ∈ sgL) {x y : Int} (x0 : 0 ≤ x) (x1 : x < 65536) (y0 : 0 ≤ y) (y1 : y < 65536) : 0 ≤ comb s x y ∧ comb s x y < 65536 := by
  rcases sg_cases h with rfl | rfl | rfl | rfl | rfl | rfl | rfl
  · rw [comb_add]; omega
  · rw [comb_sub]; split <;> omega
  · rw [comb_mul]; exact ⟨Int.emod_nonneg _ (by decide), Int.emod_lt_of_pos _ (by decide)⟩
  · rw [comb_div]
    split
    · exact ⟨Int.ediv_nonneg x0 y0, by have := Int.ediv_le_self y x0; omega⟩
    · exact ⟨by decide, by decide⟩
  · rw [comb_mod]
    split
    · rename_i hy
      have := Int.emod_nonneg x (show y ≠ 0 by omega)
      have := Int.emod_lt_of_pos x hy
      omega
    · exact ⟨by decide, by decide⟩
  · rw [comb_lt]; split <;> exact ⟨by decide, by decide⟩
  · rw [comb_eq]; split <;> exact ⟨by decide, by decide⟩
/-- what a step leads to -/
inductive Nx (cs : List In2) (k : Nat) (hF : Hts) (top : Int) (m m' : MC) : Str → Prop
  | fin : m' = { m with at_ := m.at_ + 1, done := true } → m.st.length = 1 → Nx cs k hF top m m' "end"
  | out : m.left = 0 → m' = { m with at_ := m.at_ + 1, silent := true, done := true, left := -1 } → Nx cs k hF top m m' "unit"
  | go {n : Str} : n ≠ "end" → IvM cs k hF m' → (m'.st.length : Int) ≤ top → m'.tk.length ≤ m.tk.length + 1 → (n ≠ "unit" → m'.left = m.left) → (n = "unit" → m'.left = m.left - 1 ∧ m'.at_ = m.at_ + 1 ∧ 1 ≤ m.left) → (n ≠ "back" → m.at_ < m'.at_) → (n = "back" → cs[m'.at_]? = some (("unit" : Str), (0 : Int))) → Nx cs k hF top m m' n
theorem step_ok {cs : List In2} {k : Nat} {hF : Hts} {top : Int} {seen rs : List Int} {m : MC} (E : CEnv cs k hF top seen rs) (h : IvM cs k hF m) (htk : m.tk.length ≤ 700000) {n : Str} {a : Int} (hna : cs[m.at_]? = some (n, a)) :
    ∃ m', exec (nsK k) seen rs (conv (n, a)) { m with at_ := m.at_ + 1 } = some m' ∧ Nx cs k hF top m m' n := by
  obtain ⟨v, h1, h2, h3, h4, h5, h6, h7, h8, h9⟩ := E.loc _ _ _ hna
  rw [h.ht] at h1
  have hv : v = (m.st.length : Int) := (Option.some.inj h1).symm
  subst hv
  have hsm := h.small E
  have nk := nsK_len k
  -- the plain way on
  have next : ∀ (n' : Str), n ≠ "end" → n ≠ "back" → tgts (m.at_ : Int) n a = [(m.at_ : Int) + 1] → m.at_ + 1 < cs.length ∧ hF ((m.at_ + 1 : Nat) : Int) = some ((m.st.length : Int) - (eff n).1 + (eff n).2) := fun _ e1 e2 e3 => by
    obtain ⟨b1, b2⟩ := h9 e1 e2 _ (by rw [e3]; exact List.mem_singleton.mpr rfl)
    exact ⟨by omega, by rw [show ((m.at_ + 1 : Nat) : Int) = (m.at_ : Int) + 1 by omega]; exact b2⟩
  rcases nms_cases h2 with rfl | rfl | rfl | rfl | rfl | rfl | rfl | rfl | rfl | rfl | rfl | rfl
  · -- push
    obtain ⟨f0, f1⟩ := fits_push h3
    obtain ⟨b1, b2⟩ := next "" (by decide +kernel) (by decide +kernel) (by unfold tgts; rw [if_neg (by decide +kernel), if_neg (by decide +kernel), if_neg (by decide +kernel)])
    rw [show (eff "push").1 = 0 by decide +kernel, show (eff "push").2 = 1 by decide +kernel] at b2 h6
    refine ⟨{ m with at_ := m.at_ + 1, st := a :: m.st }, by rw [conv_push]; rfl, .go (by decide +kernel) ⟨b1, by rw [b2]; show some _ = some (((a :: m.st).length : Nat) : Int); rw [List.length_cons]; first | rfl | (congr 1; omega) | (congr 1), h.vs.cons f0 (by omega), h.vc, h.cl, h.l0, h.nd, h.ns⟩ (by show (((a :: m.st).length : Nat) : Int) ≤ top; rw [List.length_cons]; omega) (Nat.le_succ _) (fun _ => rfl) (fun z => absurd z (by decide +kernel)) (fun _ => Nat.lt_succ_self _) (fun z => absurd z (by decide +kernel))⟩
  · -- load
    obtain ⟨f0, f1⟩ := fits_load h3
    obtain ⟨b1, b2⟩ := next "" (by decide +kernel) (by decide +kernel) (by unfold tgts; rw [if_neg (by decide +kernel), if_neg (by decide +kernel), if_neg (by decide +kernel)])
    rw [show (eff "load").1 = 0 by decide +kernel, show (eff "load").2 = 1 by decide +kernel] at b2 h6
    have hmem : nmK a.toNat ∈ nsK k ∧ m.cells.length = (nsK k).length := ⟨mem_nsK (by omega), by rw [nk]; exact h.cl⟩
    have hval : 0 ≤ m.cells.getD (idx (nsK k) (nmK a.toNat)) 0 ∧ m.cells.getD (idx (nsK k) (nmK a.toNat)) 0 < 65536 := by
      rw [idx_nsK (by omega), List.getD_eq_getElem?_getD, List.getElem?_eq_getElem (by rw [h.cl]; omega)]
      exact h.vc _ (List.getElem_mem _)
    refine ⟨{ m with at_ := m.at_ + 1, st := m.cells.getD (idx (nsK k) (nmK a.toNat)) 0 :: m.st }, ?_, .go (by decide +kernel) ⟨b1, by rw [b2]; show some _ = some (((_ :: m.st).length : Nat) : Int); rw [List.length_cons]; first | rfl | (congr 1; omega) | (congr 1), h.vs.cons hval.1 hval.2, h.vc, h.cl, h.l0, h.nd, h.ns⟩ (by show (((_ :: m.st).length : Nat) : Int) ≤ top; rw [List.length_cons]; omega) (Nat.le_succ _) (fun _ => rfl) (fun z => absurd z (by decide +kernel)) (fun _ => Nat.lt_succ_self _) (fun z => absurd z (by decide +kernel))⟩
    rw [conv_load]
    show (if _ ∧ _ then _ else _) = _
    rw [if_pos hmem]
  · -- store
    obtain ⟨f0, f1⟩ := fits_store h3
    obtain ⟨b1, b2⟩ := next "" (by decide +kernel) (by decide +kernel) (by unfold tgts; rw [if_neg (by decide +kernel), if_neg (by decide +kernel), if_neg (by decide +kernel)])
    rw [show (eff "store").1 = 1 by decide +kernel, show (eff "store").2 = 0 by decide +kernel] at b2 h6
    rw [show (eff "store").1 = 1 by decide +kernel] at h4
    have hmem : nmK a.toNat ∈ nsK k ∧ m.cells.length = (nsK k).length := ⟨mem_nsK (by omega), by rw [nk]; exact h.cl⟩
    obtain ⟨x, r, hst⟩ : ∃ x r, m.st = x :: r := by
      cases e : m.st with
      | nil => rw [e] at h4; simp at h4
      | cons x r => exact ⟨x, r, rfl⟩
    have hvs := h.vs
    rw [hst] at hvs b2 h6
    rw [List.length_cons] at b2 h6
    refine ⟨{ m with at_ := m.at_ + 1, st := r, cells := m.cells.set (idx (nsK k) (nmK a.toNat)) x }, ?_, .go (by decide +kernel) ⟨b1, by rw [b2]; show some _ = some ((r.length : Nat) : Int); first | rfl | (congr 1; omega) | (congr 1), hvs.tail, fun y hy => ?_, by rw [List.length_set]; exact h.cl, h.l0, h.nd, h.ns⟩ (by show ((r.length : Nat) : Int) ≤ top; omega) (Nat.le_succ _) (fun _ => rfl) (fun z => absurd z (by decide +kernel)) (fun _ => Nat.lt_succ_self _) (fun z => absurd z (by decide +kernel))⟩
    · rw [conv_store]
      show (match m.st with | v :: r => if nmK a.toNat ∈ nsK k ∧ m.cells.length = (nsK k).length then some { m with at_ := m.at_ + 1, st := r, cells := m.cells.set (idx (nsK k) (nmK a.toNat)) v } else none | [] => none) = _
      rw [hst]
      dsimp only
      rw [if_pos hmem]
    · rcases List.mem_or_eq_of_mem_set hy with z | rfl
      · exact h.vc y z
      · exact hvs _ (List.mem_cons_self ..)
  · -- sign
    obtain ⟨f0, f1⟩ := fits_sign h3
    obtain ⟨b1, b2⟩ := next "" (by decide +kernel) (by decide +kernel) (by unfold tgts; rw [if_neg (by decide +kernel), if_neg (by decide +kernel), if_neg (by decide +kernel)])
    rw [show (eff "sign").1 = 2 by decide +kernel, show (eff "sign").2 = 1 by decide +kernel] at b2 h6
    rw [show (eff "sign").1 = 2 by decide +kernel] at h4
    obtain ⟨s1, s2⟩ := sg_at a.toNat (by omega)
    obtain ⟨y, x, r, hst⟩ : ∃ y x r, m.st = y :: x :: r := by
      rcases e : m.st with _ | ⟨y, _ | ⟨x, r⟩⟩
      · rw [e] at h4; simp at h4
      · rw [e] at h4; simp at h4
      · exact ⟨y, x, r, rfl⟩
    have hvs := h.vs
    rw [hst] at hvs b2 h6
    rw [List.length_cons, List.length_cons] at b2 h6
    have hy := hvs y (List.mem_cons_self ..)
    have hx := hvs x (List.mem_cons_of_mem _ (List.mem_cons_self ..))
    have hc := comb_ok s1 hx.1 hx.2 hy.1 hy.2
    refine ⟨{ m with at_ := m.at_ + 1, st := comb (sgL.getD a.toNat "+") x y :: r }, ?_, .go (by decide +kernel) ⟨b1, by rw [b2]; show some _ = some (((_ :: r).length : Nat) : Int); rw [List.length_cons]; first | rfl | (congr 1; omega) | (congr 1), hvs.tail.tail.cons hc.1 hc.2, h.vc, h.cl, h.l0, h.nd, h.ns⟩ (by show (((_ :: r).length : Nat) : Int) ≤ top; rw [List.length_cons]; omega) (Nat.le_succ _) (fun _ => rfl) (fun z => absurd z (by decide +kernel)) (fun _ => Nat.lt_succ_self _) (fun z => absurd z (by decide +kernel))⟩
    rw [conv_sign]
    show (match m.st with | b :: c :: r => if sgL.getD a.toNat "+" ∈ sgL ∧ 0 ≤ c ∧ c < 65536 ∧ 0 ≤ b ∧ b < 65536 then some { m with at_ := m.at_ + 1, st := comb (sgL.getD a.toNat "+") c b :: r } else none | _ => none) = _
    rw [hst]
    dsimp only
    rw [if_pos ⟨s1, hx.1, hx.2, hy.1, hy.2⟩]
  · -- jump
    have f0 := fits_far (.inl rfl) h3
    obtain ⟨b1, b2⟩ := h9 (by decide +kernel) (by decide +kernel) ((m.at_ : Int) + 1 + a) (by unfold tgts; rw [if_neg (by decide +kernel), if_pos rfl]; exact List.mem_singleton.mpr rfl)
    rw [show (eff "jump").1 = 0 by decide +kernel, show (eff "jump").2 = 0 by decide +kernel] at b2 h6
    have ea : ((m.at_ + 1 + a.toNat : Nat) : Int) = (m.at_ : Int) + 1 + a := by omega
    refine ⟨{ m with at_ := m.at_ + 1 + a.toNat }, by rw [conv_jump]; rfl, .go (by decide +kernel) ⟨by show m.at_ + 1 + a.toNat < _; omega, by show hF ((m.at_ + 1 + a.toNat : Nat) : Int) = _; rw [ea, b2]; first | rfl | (congr 1; omega) | (congr 1), h.vs, h.vc, h.cl, h.l0, h.nd, h.ns⟩ (by show (m.st.length : Int) ≤ top; omega) (Nat.le_succ _) (fun _ => rfl) (fun z => absurd z (by decide +kernel)) (fun _ => by show m.at_ < m.at_ + 1 + a.toNat; omega) (fun z => absurd z (by decide +kernel))⟩
  · -- skip
    have f0 := fits_far (.inr (.inl rfl)) h3
    have tg : tgts (m.at_ : Int) "skip" a = [(m.at_ : Int) + 1, (m.at_ : Int) + 1 + a] := by unfold tgts; rw [if_neg (by decide +kernel), if_neg (by decide +kernel), if_pos rfl]
    obtain ⟨b1, b2⟩ := h9 (by decide +kernel) (by decide +kernel) ((m.at_ : Int) + 1 + a) (by rw [tg]; simp)
    obtain ⟨b3, b4⟩ := h9 (by decide +kernel) (by decide +kernel) ((m.at_ : Int) + 1) (by rw [tg]; simp)
    rw [show (eff "skip").1 = 1 by decide +kernel, show (eff "skip").2 = 0 by decide +kernel] at b2 b4 h6
    rw [show (eff "skip").1 = 1 by decide +kernel] at h4
    obtain ⟨x, r, hst⟩ : ∃ x r, m.st = x :: r := by
      cases e : m.st with
      | nil => rw [e] at h4; simp at h4
      | cons x r => exact ⟨x, r, rfl⟩
    have hvs := h.vs
    rw [hst] at hvs b2 b4 h6
    rw [List.length_cons] at b2 b4 h6
    have ea : ((m.at_ + 1 + a.toNat : Nat) : Int) = (m.at_ : Int) + 1 + a := by omega
    have ea2 : ((m.at_ + 1 : Nat) : Int) = (m.at_ : Int) + 1 := by omega
    refine ⟨{ m with st := r, at_ := if x = 0 then m.at_ + 1 + a.toNat else m.at_ + 1 }, ?_, .go (by decide +kernel) ⟨?_, ?_, hvs.tail, h.vc, h.cl, h.l0, h.nd, h.ns⟩ (by show ((r.length : Nat) : Int) ≤ top; omega) (Nat.le_succ _) (fun _ => rfl) (fun z => absurd z (by decide +kernel)) (fun _ => by show m.at_ < (if x = 0 then m.at_ + 1 + a.toNat else m.at_ + 1); split <;> omega) (fun z => absurd z (by decide +kernel))⟩
    · rw [conv_skip]
      show (match m.st with | v :: r => some { m with st := r, at_ := if v = 0 then m.at_ + 1 + a.toNat else m.at_ + 1 } | [] => none) = _
      rw [hst]
    · show (if x = 0 then m.at_ + 1 + a.toNat else m.at_ + 1) < _
      split <;> omega
    · show hF ((if x = 0 then m.at_ + 1 + a.toNat else m.at_ + 1 : Nat) : Int) = some ((r.length : Nat) : Int)
      split
      · rw [ea, b2]; first | rfl | (congr 1; omega) | (congr 1)
      · rw [ea2, b4]; first | rfl | (congr 1; omega) | (congr 1)
  · -- lot
    obtain ⟨b1, b2⟩ := next "" (by decide +kernel) (by decide +kernel) (by unfold tgts; rw [if_neg (by decide +kernel), if_neg (by decide +kernel), if_neg (by decide +kernel)])
    rw [show (eff "lot").1 = 1 by decide +kernel, show (eff "lot").2 = 1 by decide +kernel] at b2 h6
    rw [show (eff "lot").1 = 1 by decide +kernel] at h4
    obtain ⟨x, r, hst⟩ : ∃ x r, m.st = x :: r := by
      cases e : m.st with
      | nil => rw [e] at h4; simp at h4
      | cons x r => exact ⟨x, r, rfl⟩
    have hvs := h.vs
    rw [hst] at hvs b2 h6
    rw [List.length_cons] at b2 h6
    have hx := hvs x (List.mem_cons_self ..)
    have ex : exec (nsK k) seen rs .lot { m with at_ := m.at_ + 1 } = some (if x > 0 then { m with at_ := m.at_ + 1, st := nextR rs m.tk x :: r, tk := m.tk ++ [(nextR rs m.tk x, x)] } else { m with at_ := m.at_ + 1, st := 0 :: r }) := by
      show (match m.st with | c :: r => if c < 65536 ∧ m.tk.length ≤ 800000 then some (if c > 0 then { m with at_ := m.at_ + 1, st := nextR rs m.tk c :: r, tk := m.tk ++ [(nextR rs m.tk c, c)] } else { m with at_ := m.at_ + 1, st := 0 :: r }) else none | [] => none) = _
      rw [hst]
      dsimp only
      rw [if_pos ⟨hx.2, by omega⟩]
    rw [conv_lot, ex]
    refine ⟨_, rfl, ?_⟩
    by_cases hp : x > 0
    · rw [if_pos hp]
      have hn := next_ok (rs := rs) (tk := m.tk) hp hx.2
      exact .go (by decide +kernel) ⟨b1, by rw [b2]; show some _ = some (((_ :: r).length : Nat) : Int); rw [List.length_cons]; first | rfl | (congr 1; omega) | (congr 1), hvs.tail.cons hn.1 hn.2, h.vc, h.cl, h.l0, h.nd, h.ns⟩ (by show (((_ :: r).length : Nat) : Int) ≤ top; rw [List.length_cons]; omega) (by show (m.tk ++ [_]).length ≤ _; simp) (fun _ => rfl) (fun z => absurd z (by decide +kernel)) (fun _ => Nat.lt_succ_self _) (fun z => absurd z (by decide +kernel))
    · rw [if_neg hp]
      exact .go (by decide +kernel) ⟨b1, by rw [b2]; show some _ = some (((_ :: r).length : Nat) : Int); rw [List.length_cons]; first | rfl | (congr 1; omega) | (congr 1), hvs.tail.cons (by decide) (by decide), h.vc, h.cl, h.l0, h.nd, h.ns⟩ (by show (((_ :: r).length : Nat) : Int) ≤ top; rw [List.length_cons]; omega) (Nat.le_succ _) (fun _ => rfl) (fun z => absurd z (by decide +kernel)) (fun _ => Nat.lt_succ_self _) (fun z => absurd z (by decide +kernel))
  · -- end
    have := h7 rfl
    exact ⟨_, by rw [conv_end]; rfl, .fin rfl (by omega)⟩
  · -- view
    obtain ⟨b1, b2⟩ := next "" (by decide +kernel) (by decide +kernel) (by unfold tgts; rw [if_neg (by decide +kernel), if_neg (by decide +kernel), if_neg (by decide +kernel)])
    rw [show (eff "view").1 = 1 by decide +kernel, show (eff "view").2 = 1 by decide +kernel] at b2 h6
    rw [show (eff "view").1 = 1 by decide +kernel] at h4
    obtain ⟨x, r, hst⟩ : ∃ x r, m.st = x :: r := by
      cases e : m.st with
      | nil => rw [e] at h4; simp at h4
      | cons x r => exact ⟨x, r, rfl⟩
    have hvs := h.vs
    rw [hst] at hvs b2 h6
    rw [List.length_cons] at b2 h6
    have hx := hvs x (List.mem_cons_self ..)
    have hn := vw_ok E.so (a := x)
    refine ⟨{ m with at_ := m.at_ + 1, st := vw seen x :: r }, ?_, .go (by decide +kernel) ⟨b1, by rw [b2]; show some _ = some (((_ :: r).length : Nat) : Int); rw [List.length_cons]; first | rfl | (congr 1; omega) | (congr 1), hvs.tail.cons hn.1 hn.2, h.vc, h.cl, h.l0, h.nd, h.ns⟩ (by show (((_ :: r).length : Nat) : Int) ≤ top; rw [List.length_cons]; omega) (Nat.le_succ _) (fun _ => rfl) (fun z => absurd z (by decide +kernel)) (fun _ => Nat.lt_succ_self _) (fun z => absurd z (by decide +kernel))⟩
    rw [conv_view]
    show (match m.st with | a :: r => if 0 ≤ a then some { m with at_ := m.at_ + 1, st := vw seen a :: r } else none | [] => none) = _
    rw [hst]
    dsimp only
    rw [if_pos hx.1]
  · -- long
    obtain ⟨b1, b2⟩ := next "" (by decide +kernel) (by decide +kernel) (by unfold tgts; rw [if_neg (by decide +kernel), if_neg (by decide +kernel), if_neg (by decide +kernel)])
    rw [show (eff "long").1 = 0 by decide +kernel, show (eff "long").2 = 1 by decide +kernel] at b2 h6
    refine ⟨{ m with at_ := m.at_ + 1, st := (if (65535 : Int) < (seen.length : Int) then 65535 else (seen.length : Int)) :: m.st }, by rw [conv_long]; rfl, .go (by decide +kernel) ⟨b1, by rw [b2]; show some _ = some (((_ :: m.st).length : Nat) : Int); rw [List.length_cons]; first | rfl | (congr 1; omega) | (congr 1), h.vs.cons (by split <;> omega) (by split <;> omega), h.vc, h.cl, h.l0, h.nd, h.ns⟩ (by show (((_ :: m.st).length : Nat) : Int) ≤ top; rw [List.length_cons]; omega) (Nat.le_succ _) (fun _ => rfl) (fun z => absurd z (by decide +kernel)) (fun _ => Nat.lt_succ_self _) (fun z => absurd z (by decide +kernel))⟩
  · -- unit
    obtain ⟨b1, b2⟩ := next "" (by decide +kernel) (by decide +kernel) (by unfold tgts; rw [if_neg (by decide +kernel), if_neg (by decide +kernel), if_neg (by decide +kernel)])
    rw [show (eff "unit").1 = 0 by decide +kernel, show (eff "unit").2 = 0 by decide +kernel] at b2 h6
    refine ⟨_, by rw [conv_unit]; rfl, ?_⟩
    by_cases hz : m.left = 0
    · refine .out hz ?_
      show ({ m with at_ := m.at_ + 1, silent := decide (V.int m.left = V.int 0), done := decide (V.int m.left = V.int 0), left := m.left - 1 } : MC) = _
      rw [hz]; rfl
    · have hd : decide (V.int m.left = V.int 0) = false := decide_eq_false fun z => hz (V.int.inj z)
      have h0 := h.l0
      refine .go (by decide +kernel) ⟨b1, by rw [b2]; first | (congr 1; done) | (congr 1; show _ = ((m.st.length : Nat) : Int); omega), h.vs, h.vc, h.cl, by show 0 ≤ m.left - 1; omega, hd, hd⟩ (by show (m.st.length : Int) ≤ top; omega) (Nat.le_succ _) (fun z => absurd rfl z) (fun _ => ⟨rfl, rfl, by omega⟩) (fun _ => Nat.lt_succ_self _) (fun z => absurd z (by decide +kernel))
  · -- back
    have f0 := fits_far (.inr (.inr rfl)) h3
    obtain ⟨c1, c2, c3, c4⟩ := h8 rfl
    rw [show (eff "back").1 = 0 by decide +kernel, show (eff "back").2 = 0 by decide +kernel] at h6
    have ea : ((m.at_ - a.toNat : Nat) : Int) = (m.at_ : Int) - a := by omega
    have eb : ((m.at_ : Int) - a).toNat = m.at_ - a.toNat := by omega
    refine ⟨{ m with at_ := m.at_ - a.toNat }, ?_, .go (by decide +kernel) ⟨by show m.at_ - a.toNat < _; have := h.at_; omega, by show hF ((m.at_ - a.toNat : Nat) : Int) = _; rw [ea, c4], h.vs, h.vc, h.cl, h.l0, h.nd, h.ns⟩ (by show (m.st.length : Int) ≤ top; omega) (Nat.le_succ _) (fun _ => rfl) (fun z => absurd z (by decide +kernel)) (fun z => absurd rfl z) (fun _ => by show cs[m.at_ - a.toNat]? = _; rw [← eb]; exact c3)⟩
    rw [conv_back]
    show (if a.toNat + 1 ≤ m.at_ + 1 then some { m with at_ := m.at_ + 1 - 1 - a.toNat } else none) = _
    rw [if_pos (by omega)]
    rfl
/-! how long -/
def nonU (p : In2) : Bool := !decide (p.1 = "unit")
def cnt (cs : List In2) (a : Nat) : Nat := (cs.drop a).countP nonU
theorem cnt_le (cs : List In2) (a : Nat) : cnt cs a ≤ cs.length - a := by
  unfold cnt
  have := List.countP_le_length (p := nonU) (l := cs.drop a)
  rwa [List.length_drop] at this
theorem cnt_step {cs : List In2} {a : Nat} {p : In2} (h : cs[a]? = some p) : cnt cs a = (if nonU p = true then 1 else 0) + cnt cs (a + 1) := by
  unfold cnt
  obtain ⟨h1, h2⟩ := List.getElem?_eq_some_iff.mp h
  rw [List.drop_eq_getElem_cons h1, h2, List.countP_cons]
  omega
theorem cnt_mono {cs : List In2} {a b : Nat} (h : a ≤ b) : cnt cs b ≤ cnt cs a := by
  unfold cnt
  have : cs.drop b = (cs.drop a).drop (b - a) := by rw [List.drop_drop]; first | rfl | (congr 1; omega) | (congr 1)
  rw [this]
  exact (List.drop_sublist _ _).countP_le
def hasU (cs : List In2) : Bool := cs.any fun p => !nonU p
/-- no more steps than these are left -/
def mu (cs : List In2) (m : MC) : Int := if (cs[m.at_]?).any (fun p => !nonU p) = true then m.left * (cs.length : Int) + 1 else (cnt cs m.at_ : Int) + (if hasU cs = true then m.left * (cs.length : Int) + 1 else 0)
theorem mu_le {cs : List In2} {m : MC} (h : m.at_ < cs.length) (hu : hasU cs = true) : mu cs m ≤ (cnt cs m.at_ : Int) + (m.left * (cs.length : Int) + 1) := by
  unfold mu
  split
  · omega
  · first | (rw [if_pos hu]; omega) | omega
theorem has_of {cs : List In2} {i : Nat} {a : Int} (h : cs[i]? = some (("unit" : Str), a)) : hasU cs = true := by
  unfold hasU
  rw [List.any_eq_true]
  exact ⟨_, List.mem_of_getElem? h, by show (!nonU ("unit", a)) = true; unfold nonU; rw [decide_eq_true rfl]; rfl⟩
theorem mu_pos {cs : List In2} {m : MC} (h : m.at_ < cs.length) (h0 : 0 ≤ m.left) : 1 ≤ mu cs m := by
  have hL : 0 ≤ m.left * (cs.length : Int) := Int.mul_nonneg h0 (by omega)
  unfold mu
  split
  · omega
  · rename_i hn
    obtain ⟨p, hp⟩ : ∃ p, cs[m.at_]? = some p := ⟨_, List.getElem?_eq_getElem h⟩
    have e := cnt_step hp
    rw [hp] at hn
    have hn' : nonU p = true := by
      cases hq : nonU p with
      | true => rfl
      | false => exact absurd (show (some p).any (fun p => !nonU p) = true by show (!nonU p) = true; rw [hq]; rfl) hn
    rw [hn', if_pos rfl] at e
    split <;> omega
theorem mu_step {cs : List In2} {k : Nat} {hF : Hts} {top : Int} {m m' : MC} {n : Str} {a : Int} (h : IvM cs k hF m) (hna : cs[m.at_]? = some (n, a)) (n1 : n ≠ "end") (g : IvM cs k hF m') (e1 : n ≠ "unit" → m'.left = m.left) (e2 : n = "unit" → m'.left = m.left - 1 ∧ m'.at_ = m.at_ + 1 ∧ 1 ≤ m.left) (e3 : n ≠ "back" → m.at_ < m'.at_) (e4 : n = "back" → cs[m'.at_]? = some (("unit" : Str), (0 : Int))) : mu cs m' + 1 ≤ mu cs m := by
  have hL : 0 ≤ m.left * (cs.length : Int) := Int.mul_nonneg h.l0 (by omega)
  by_cases hu : n = "unit"
  · subst hu
    obtain ⟨f1, f2, f3⟩ := e2 rfl
    have eq : mu cs m = m.left * (cs.length : Int) + 1 := by
      unfold mu
      rw [hna, if_pos (by show (!nonU ("unit", a)) = true; unfold nonU; rw [decide_eq_true rfl]; rfl)]
    have hle := mu_le (m := m') g.at_ (has_of hna)
    have hc := cnt_le cs m'.at_
    have := g.at_
    rw [f1, Int.sub_mul, Int.one_mul] at hle
    rw [eq]
    omega
  · have hn : nonU (n, a) = true := by unfold nonU; rw [decide_eq_false hu]; rfl
    have ec := cnt_step hna
    rw [hn, if_pos rfl] at ec
    have eq : mu cs m = (cnt cs m.at_ : Int) + (if hasU cs = true then m.left * (cs.length : Int) + 1 else 0) := by
      unfold mu
      rw [hna, if_neg (by show ¬ (!nonU (n, a)) = true; rw [hn]; decide)]
    have el := e1 hu
    rw [eq]
    by_cases hb : n = "back"
    · have hc := e4 hb
      have eq' : mu cs m' = m'.left * (cs.length : Int) + 1 := by
        unfold mu
        rw [hc, if_pos (by decide +kernel)]
      rw [eq', el, if_pos (has_of hc)]
      omega
    · have ha := e3 hb
      have hm := cnt_mono (cs := cs) (a := m.at_ + 1) (b := m'.at_) (by omega)
      unfold mu
      split
      · rename_i hx
        obtain ⟨p, hp⟩ : ∃ p, cs[m'.at_]? = some p := ⟨_, List.getElem?_eq_getElem g.at_⟩
        have hU : hasU cs = true := by
          unfold hasU
          rw [List.any_eq_true]
          refine ⟨p, List.mem_of_getElem? hp, ?_⟩
          rw [hp] at hx
          exact hx
        rw [el, if_pos hU]; omega
      · rw [el]; omega
theorem mu_start {cs : List In2} {cells : List Int} {u : Int} (hne : 0 < cs.length) (h0 : 0 ≤ u) : mu cs (mc0 cells u []) ≤ (u + 1) * (cs.length : Int) := by
  have hL : 0 ≤ u * (cs.length : Int) := Int.mul_nonneg h0 (by omega)
  have e : (u + 1) * (cs.length : Int) = u * (cs.length : Int) + (cs.length : Int) := by rw [Int.add_mul, Int.one_mul]
  have hc := cnt_le cs 0
  rw [e]
  unfold mu
  show (if (cs[0]?).any (fun p => !nonU p) = true then u * (cs.length : Int) + 1 else (cnt cs 0 : Int) + (if hasU cs = true then u * (cs.length : Int) + 1 else 0)) ≤ _
  split
  · omega
  · split
    · rename_i hU
      have : cnt cs 0 < cs.length := by
        unfold cnt
        rw [List.drop_zero]
        have h1 := List.length_eq_countP_add_countP (p := nonU) (l := cs)
        have h2 : 0 < cs.countP (fun p => ¬ nonU p = true) := by
          rw [List.countP_pos_iff]
          unfold hasU at hU
          obtain ⟨p, hp, hq⟩ := List.any_eq_true.mp hU
          exact ⟨p, hp, by simpa using hq⟩
        omega
      omega
    · omega

end Th
namespace Th
/-! the law's own run -/
theorem StAt.at0 {H : Hp} {d tb sz an sn rl tx ch sh sk : Addr} {n : Nat} {seen rs : List Int} {m : MC} {hi : Int} (h : StAt H d tb sz an sn rl tx ch sh sk n seen rs m hi) (a : Nat) : StAt H d tb sz an sn rl tx ch sh sk n seen rs { m with at_ := a } hi := ⟨h.hd, h.htb, h.hsz, h.hsn, h.hrl, h.htx, h.hch, h.hsk, h.nd⟩
theorem StAt.tk {H H' : Hp} {d tb sz an sn rl tx ch sh sk : Addr} {n : Nat} {seen rs : List Int} {m : MC} {hi : Int} (h : StAt H d tb sz an sn rl tx ch sh sk n seen rs m hi) (k : Keep [d, tb, tx, ch, sk] H H') : TK H H' := fun b xs q => by
  obtain ⟨xs', h1, _⟩ := h.htx
  obtain ⟨ys, h3, _⟩ := h.hch
  refine k _ _ q ?_
  simp only [List.mem_cons, List.not_mem_nil, or_false, not_or]
  exact ⟨ne_of q h.hd (by intro z; cases z), ne_of q h.htb (by intro z; cases z), ne_of q h1 (by intro z; cases z), ne_of q h3 (by intro z; cases z), ne_of q h.hsk (by intro z; cases z)⟩
theorem exec_at {ns : List Str} {seen rs : List Int} {i : MI} {m m' : MC} (hi : IsDo i) (he : exec ns seen rs i m = some m') : m'.at_ = m.at_ := by
  cases i with
  | skip _ => exact hi.elim
  | jump _ => exact hi.elim
  | back _ => exact hi.elim
  | fin => exact hi.elim
  | unit => cases he; rfl
  | store y =>
    unfold exec at he
    dsimp only at he
    split at he
    · split at he
      · cases he; rfl
      · cases he
    · cases he
  | lot =>
    unfold exec at he
    dsimp only at he
    split at he
    · split at he
      · have he2 := Option.some.inj he
        rw [← he2]
        split <;> rfl
      · cases he
    · cases he
  | e i =>
    cases i with
    | push v => cases he; rfl
    | long => cases he; rfl
    | load y =>
      unfold exec at he
      dsimp only at he
      split at he
      · cases he; rfl
      · cases he
    | view =>
      unfold exec at he
      dsimp only at he
      split at he
      · split at he
        · cases he; rfl
        · cases he
      · cases he
    | sign z =>
      unfold exec at he
      dsimp only at he
      split at he
      · split at he
        · cases he; rfl
        · cases he
      · cases he
theorem conv_do {n : Str} {a : Int} (hn : n ∈ nmsOf true) (h1 : n ≠ "end") (h2 : n ≠ "jump") (h3 : n ≠ "skip") (h4 : n ≠ "back") : IsDo (conv (n, a)) := by
  rcases nms_cases hn with rfl | rfl | rfl | rfl | rfl | rfl | rfl | rfl | rfl | rfl | rfl | rfl
  · rw [conv_push]; exact trivial
  · rw [conv_load]; exact trivial
  · rw [conv_store]; exact trivial
  · rw [conv_sign]; exact trivial
  · exact absurd rfl h2
  · exact absurd rfl h3
  · rw [conv_lot]; exact trivial
  · exact absurd rfl h1
  · rw [conv_view]; exact trivial
  · rw [conv_long]; exact trivial
  · rw [conv_unit]; exact trivial
  · exact absurd rfl h4
theorem nms_all {n : Str} (h : n ∈ nmsOf true) : takesL n = eff n := by
  refine takes_eff n (List.mem_append.mpr (.inl ?_))
  rcases nms_cases h with rfl | rfl | rfl | rfl | rfl | rfl | rfl | rfl | rfl | rfl | rfl | rfl <;> decide +kernel
theorem Pth.snoc {ns : List Str} {seen rs : List Int} {c : List MI} {n : Nat} {a b e : MC} (h : Pth ns seen rs c n a b) (hd : b.done = false) (hs : stepM ns seen rs c b = some e) : Pth ns seen rs c (n + 1) a e := by
  induction h with
  | refl => exact .step hd hs (.refl _)
  | step h1 h2 _ ih => exact .step h1 h2 (ih hd hs)
def sp_careful : Sp := fun vs H Q _ => ∃ (d tb sz an sn rl tx ch sh sk cl : Addr) (cs : List In2) (k : Nat) (hF : Hts) (top : Int) (seen rs : List Int) (m : MC) (most : Int), vs = [.ref d, .ref cl, .int most] ∧ My.CL H cl cs ∧ cl ≠ d ∧ cl ∉ [tb, tx, ch, sk] ∧ StAt H d tb sz an sn rl tx ch sh sk k seen rs m 0 ∧ m.at_ = 0 ∧ IvM cs k hF m ∧ CEnv cs k hF top seen rs ∧ m.tk = [] ∧ mu cs m ≤ most ∧ most ≤ 600000 ∧
  ∀ H' mF N hi', StAt H' d tb sz an sn rl tx ch sh sk k seen rs mF hi' → hi' ≤ top → Pth (nsK k) seen rs (cs.map conv) N m mF → mF.done = true → (mF.silent = false → mF.st.length = 1 ∧ 0 ≤ mF.left) → (mF.silent = true → mF.left < 0) → VOk mF.st → VOk mF.cells → mF.cells.length = k → mF.tk.length ≤ 700000 → 1 ≤ N → (N : Int) ≤ most → Keep [d, tb, tx, ch, sk] H H' → Q (.int N) H'
section
variable {P : Program} {w : World} {K : PySem.W.Frag} {mg : Str → Option Value} {base : Heap} {C_Tape : Addr} {C_Thinker : Addr} {C_Brain : Addr} {C_Mind : Addr} {C_Frame : Addr} {C_Thinking : Addr} {C_Checker : Addr} {C_GameError : Addr} {C_BadCode : Addr} {f_BadCode___init : Addr} {T_EVENTS : Addr} {T_SIGNS : Addr} {T_ROUND_NAMES : Addr} {T_BRAIN_NAMES : Addr} {T_EFFECTS : Addr}
theorem ok_careful {f : Addr} {fd : FuncData} (D : C8.Def K mg "_law_careful" s_law_careful f fd) (b : Binds K fd ["state", "code", "most"] []) (T : Txt K mg C_Tape C_Thinker C_Brain C_Mind C_Frame C_Thinking C_Checker C_GameError C_BadCode T_EVENTS T_SIGNS T_ROUND_NAMES T_BRAIN_NAMES T_EFFECTS) (c_law_takes : C8.Cal P w K mg base 1 "_law_takes" sp_takes []) (c_law_do : C8.Cal P w K mg base 2 "_law_do" sp_do []) : C8.Cal P w K mg base 3 "_law_careful" sp_careful [] := by
  refine cal0 D b .nil sc_law_careful (fun vs H Q E h => ?_) (fun cdv A outer s H vs Q E hr h => ?_)
  · obtain ⟨d, tb, sz, an, sn, rl, tx, ch, sh, sk, cl, cs, k, hF, top, seen, rs, m, most, rfl, _⟩ := h
    rfl
  · obtain ⟨d, tb, sz, an, sn, rl, tx, ch, sh, sk, cl, cs, k, hF, top, seen, rs, m, most, rfl, hcl, ncd, ncl, hA, m0, hI, hE, htk0, hmu, hmost, kq⟩ := h
    have hu := hu_of hr
    refine ⟨_, (pss_cons (ps_set (i := 3) sc_law_careful.nd rfl (by first | exact Or.inl rfl | exact Or.inr rfl) pe_int)
(pss_cons (ps_for PassesOwn.never rfl (pi_range2 (by rfl) T.n_range (pa_cons pe_int (pa_cons (pe_op op_add (pv 2) pe_int) pa_nil))) (pg_name (i := 4) sc_law_careful.nd rfl (by first | exact Or.inl rfl | exact Or.inr rfl))
  (pss_cons (ps_if (PW.pt (pw_or (pt_not (pt_chain op_le op_lt pe_int (pv 3) (pe_callB call_len_seq (by rfl) T.n_len bo_len (pa_cons (pv 1) pa_nil)))) (pw_or1 (pt_cmpR op_lt (pe_callB call_len_seq (by rfl) T.n_len bo_len (pa_cons (pe_dget hu (pv 0) pe_str (fun _ _ => rfl)) pa_nil)) (pe_ix ix_tup (pe_c c_law_takes hr (by first | exact Nat.le_refl _ | decide | omega) rfl (pa_cons (pe_ix ix_tup (pe_ix ix_list (pv 1) (pv 3) (fun _ _ => rfl)) pe_int (fun _ _ => rfl)) pa_nil)) pe_int (fun _ _ => rfl)) (nomark _)))))
    (pss_one (ps_ret (pe_un un_neg pe_int)))
    pss_nil)
  (pss_cons (ps_set (i := 5) sc_law_careful.nd rfl (by first | exact Or.inl rfl | exact Or.inr rfl) (pe_ix ix_tup (pe_ix ix_list (pv 1) (pv 3) (fun _ _ => rfl)) pe_int (fun _ _ => rfl)))
  (pss_cons (ps_set (i := 6) sc_law_careful.nd rfl (by first | exact Or.inl rfl | exact Or.inr rfl) (pe_ix ix_tup (pe_ix ix_list (pv 1) (pv 3) (fun _ _ => rfl)) pe_int (fun _ _ => rfl)))
  (pss_cons (ps_if (pt_cmpR op_eq (pv 5) pe_str (nomark _))
    (pss_one (ps_ret (pv 4)))
    pss_nil)
  (pss_cons (ps_set (i := 7) sc_law_careful.nd rfl (by first | exact Or.inl rfl | exact Or.inr rfl) (pe_op op_add (pv 3) pe_int))
  (pss_cons (ps_if (PW.pt (pw_or (pt_cmpR op_eq (pv 5) pe_str (nomark _)) (pw_or1 (PW.pt (pw_and (pt_cmpR op_eq (pv 5) pe_str (nomark _)) (pw_and1 (pt_cmpR op_eq (pe_bm0 PySem.F.plainAttrs_list PySem.F.slot_list_pop PySem.F.type_list_pop mt_pop (pe_dget hu (pv 0) pe_str (fun _ _ => rfl))) pe_int (nomark _))))))))
    (pss_one (ps_set (i := 7) sc_law_careful.nd rfl (by first | exact Or.inl rfl | exact Or.inr rfl) (pe_op op_add (pe_op op_add (pv 3) pe_int) (pv 6))))
    (pss_one (ps_if (pt_cmpR op_eq (pv 5) pe_str (nomark _))
      (pss_one (ps_set (i := 7) sc_law_careful.nd rfl (by first | exact Or.inl rfl | exact Or.inr rfl) (pe_op op_sub (pv 3) (pv 6))))
      (pss_one (ps_if (pt_cmpR op_ne (pv 5) pe_str (nomark _))
        (pss_cons (ps_if (PW.pt (pw_and (pt_cmpR op_in_seq (pv 5) (pe_tup (pa_cons pe_str (pa_cons pe_str pa_nil))) (by rfl)) (pw_and1 (pt_not (pt_chain op_le op_lt pe_int (pv 6) (pe_callB call_len_seq (by rfl) T.n_len bo_len (pa_cons (pe_dget hu (pv 0) pe_str (fun _ _ => rfl)) pa_nil)))))))
          (pss_one (ps_ret (pe_un un_neg pe_int)))
          pss_nil)
        (pss_one (ps_expr (pe_c c_law_do hr (by first | exact Nat.le_refl _ | decide | omega) rfl (pa_cons (pv 0) (pa_cons (pv 5) (pa_cons (pv 6) pa_nil)))))))
        pss_nil)))))
  (pss_cons (ps_if (pt_cmpR op_lt (pe_dget hu (pv 0) pe_str (fun _ _ => rfl)) pe_int (nomark _))
    (pss_one (ps_ret (pv 4)))
    pss_nil)
  (pss_cons (ps_dput hu (pv 0) pe_str (pe_callB (call_max2 rfl) (by rfl) T.n_max bo_max (pa_cons (pe_dget hu (pv 0) pe_str (fun _ _ => rfl)) (pa_cons (pe_callB call_len_seq (by rfl) T.n_len bo_len (pa_cons (pe_dget hu (pv 0) pe_str (fun _ _ => rfl)) pa_nil)) pa_nil))) (by rfl))
  (pss_one (ps_set (i := 3) sc_law_careful.nd rfl (by first | exact Or.inl rfl | exact Or.inr rfl) (pv 7))))))))))))
(pss_one (ps_ret (pe_un un_neg pe_int))))), ?_⟩
    obtain ⟨xs, hxs, hprs⟩ := hcl
    have hlen := hprs.len
    have hmp := mu_pos hI.at_ hI.l0
    refine ⟨_, rfl, _, _, rfl, rfl, _, _, rfl, ⟨by omega, by omega, by omega, by omega⟩, ?_⟩
    refine for_range (lo := 1) (n := (most + 1 - 1).toNat) (fun i σ H' => ∃ (m1 : MC) (hi1 : Int) (o4 o5 o6 o7 : Option V), σ = [some (.ref d), some (.ref cl), some (.int most), some (.int (m1.at_ : Int)), o4, o5, o6, o7] ∧ StAt H' d tb sz an sn rl tx ch sh sk k seen rs m1 hi1 ∧ hi1 ≤ top ∧ IvM cs k hF m1 ∧ Pth (nsK k) seen rs (cs.map conv) i m m1 ∧ (i : Int) + mu cs m1 ≤ most ∧ m1.tk.length ≤ i ∧ Keep [d, tb, tx, ch, sk] H H')
      ⟨m, 0, none, none, none, none, by rw [m0]; rfl, hA, hE.t0, hI, .refl _, by omega, by rw [htk0]; exact Nat.zero_le _, Keep.refl _ _⟩ ?_ ?_
    · rintro i σ H1 hi ⟨m1, hi1, o4, o5, o6, o7, rfl, hA1, ht1, hI1, hP1, hmu1, htk1, K1⟩
      have hcl1 : H1 cl = some (.lst xs) := K1 _ _ hxs (by simp only [List.mem_cons, List.not_mem_nil, or_false, not_or] at ncl ⊢; exact ⟨ncd, ncl⟩)
      have hprs1 := hprs.tk (hA.tk K1)
      obtain ⟨n, a, hna⟩ : ∃ n a, cs[m1.at_]? = some (n, a) := ⟨_, _, List.getElem?_eq_getElem hI1.at_⟩
      obtain ⟨t, hvt, hat⟩ := hprs1.get hna
      obtain ⟨m2, hex, hnx⟩ := step_ok hE hI1 (by omega) hna
      obtain ⟨v, l1, l2, l3, l4, l5, l6, _⟩ := hE.loc _ _ _ hna
      rw [hI1.ht] at l1
      have hv : v = (m1.st.length : Int) := (Option.some.inj l1).symm
      subst hv
      have hsm := hI1.small hE
      have hat_ := hI1.at_
      refine ⟨_, rfl, _, _, rfl, rfl, _, rfl, iteDT (by omega) ?_⟩
      refine ⟨_, rfl, cl, _, rfl, .inl (SqL.of hcl1), _, _, rfl, rfl, _, rfl, ?_⟩
      have ea : decide ((m1.at_ : Int) < (xs.length : Int)) = true := decide_eq_true (by omega)
      rw [ea]
      refine iteDF (p := False) (fun z => z) ?_
      refine ⟨_, rfl, d, _, rfl, dg (k := .inr "stack") hA1.hd rfl, sk, _, rfl, .inl (SqL.of hA1.hsk), ?_⟩
      refine ⟨_, rfl, _, rfl, _, _, _, _, rfl, rfl, SqL.of hcl1, atI_nat hvt, _, _, _, _, rfl, rfl, SqT.of hat, rfl, n, rfl, fun t2 H2 nt2 ht2 K2 => ?_⟩
      refine ⟨_, _, _, _, rfl, rfl, SqT.of ht2, rfl, _, _, rfl, rfl, _, rfl, ?_⟩
      have hstk : (m1.st.reverse.map V.int).length = m1.st.length := by rw [List.length_map, List.length_reverse]
      refine iteDF (by rw [nms_all l2, hstk]; omega) ?_
      have hA2 := hA1.keep0 K2
      have hcl2 := K2 _ _ hcl1 (by simp)
      have hat2 := K2 _ _ hat (by simp)
      have KK2 : Keep [d, tb, tx, ch, sk] H H2 := K1.trans (K2.mono (by simp))
      clear ht2 nt2 hA1 hcl1 hat K1 hprs1
      refine ⟨_, rfl, _, rfl, _, _, _, _, rfl, rfl, SqL.of hcl2, atI_nat hvt, _, _, _, _, rfl, rfl, SqT.of hat2, rfl, ?_⟩
      refine ⟨_, rfl, _, rfl, _, _, _, _, rfl, rfl, SqL.of hcl2, atI_nat hvt, _, _, _, _, rfl, rfl, SqT.of hat2, rfl, ?_⟩
      have hstep : stepM (nsK k) seen rs (cs.map conv) m1 = some m2 := by
        unfold stepM
        rw [if_pos (by omega), List.getElem?_map, hna]
        exact hex
      have hP2 := hP1.snoc hI1.nd hstep
      have hcv := conv_ok (k := k) l2 l3
      have hN : ((i + 1 : Nat) : Int) = 1 + (i : Int) := by omega
      have hmp1 := mu_pos hI1.at_ hI1.l0
      refine ⟨_, rfl, rfl, _, rfl, iteD (fun e => ?_) (fun e => ?_)⟩
      · have e : n = "end" := V.str.inj e
        subst e
        cases hnx with
        | go z _ _ _ _ _ _ _ => exact absurd rfl z
        | fin e1 e2 =>
          have q := kq H2 m2 (i + 1) hi1 (by rw [e1]; exact ⟨hA2.hd, hA2.htb, hA2.hsz, hA2.hsn, hA2.hrl, hA2.htx, hA2.hch, hA2.hsk, hA2.nd⟩) ht1 hP2 (by rw [e1]) (fun _ => by rw [e1]; exact ⟨e2, hI1.l0⟩) (fun z => by rw [e1] at z; have := hI1.ns; exact absurd z (by show ¬ m1.silent = true; rw [this]; decide)) (by rw [e1]; exact hI1.vs) (by rw [e1]; exact hI1.vc) (by rw [e1]; exact hI1.cl) (by rw [e1]; show m1.tk.length ≤ 700000; omega) (Nat.succ_le_succ (Nat.zero_le _)) (by omega) KK2
          rw [hN] at q
          exact ⟨_, rfl, q⟩
      have e : n ≠ "end" := fun z => e (congrArg V.str z)
      refine ⟨_, rfl, _, _, rfl, rfl, ?_⟩
      refine ⟨_, rfl, rfl, _, rfl, iteD (fun ej => ?_) (fun ej => ?_)⟩
      · have ej : n = "jump" := V.str.inj ej
        subst ej
        cases hnx with
        | go z g1 g2 g3 g4 g5 g6 g7 =>
        have em : m2 = { m1 with at_ := m1.at_ + 1 + a.toNat } := by
          rw [conv_jump] at hex
          exact (Option.some.inj hex).symm
        have f0 := fits_far (.inl rfl) l3
        refine iteDT (p := True) trivial ?_
        refine ⟨_, rfl, _, _, rfl, rfl, _, rfl, _, _, rfl, rfl, ?_⟩
        have ef : ((m1.at_ : Int) + 1 + a) = (m2.at_ : Int) := by
          rw [em]
          show _ = ((m1.at_ + 1 + a.toNat : Nat) : Int)
          omega
        have hA3 : StAt H2 d tb sz an sn rl tx ch sh sk k seen rs m2 hi1 := by rw [em]; exact hA2.at0 _
        have KK3 := KK2
        have hl3 : ((m2.st.reverse.map V.int).length : Int) = (m2.st.length : Int) := by rw [List.length_map, List.length_reverse]
        refine ⟨_, rfl, d, _, rfl, dg (k := .inr "left") hA3.hd rfl, _, _, rfl, rfl, _, rfl, iteDF (by have := g1.l0; omega) ?_⟩
        refine ⟨_, rfl, d, _, rfl, dg (k := .inr "highest") hA3.hd rfl, _, rfl, d, _, rfl, dg (k := .inr "stack") hA3.hd rfl, sk, _, rfl, .inl (SqL.of hA3.hsk), _, _, rfl, _, rfl, put_of (k := .inr "highest") hA3.hd (by simp [stK]) (kvs' := stK tb sz an sn rl tx ch sh sk m2.left (if ((m2.st.reverse.map V.int).length : Int) > hi1 then ((m2.st.reverse.map V.int).length : Int) else hi1)) rfl fun H4 e4 => ?_⟩
        subst e4
        have hmst := mu_step (top := top) hI1 hna z g1 g4 g5 g6 g7
        exact ⟨_, rfl, m2, _, _, _, _, _, by rw [← ef]; rfl, hA3.setD m2.left _ m2 rfl rfl rfl rfl, by rw [hl3]; split <;> omega, g1, hP2, by omega, by omega, KK3.trans (Keep.at_ (by simp))⟩
      have ej : n ≠ "jump" := fun z => ej (congrArg V.str z)
      refine ⟨_, rfl, rfl, _, rfl, iteD (fun ek => ?_) (fun ek => ?_)⟩
      · have ek : n = "skip" := V.str.inj ek
        subst ek
        cases hnx with
        | go z g1 g2 g3 g4 g5 g6 g7 =>
        have f0 := fits_far (.inr (.inl rfl)) l3
        rw [conv_skip] at hex
        obtain ⟨x, r, hst⟩ : ∃ x r, m1.st = x :: r := by
          cases e : m1.st with
          | nil => rw [show (eff "skip").1 = 1 by decide +kernel, e] at l4; simp at l4
          | cons x r => exact ⟨x, r, rfl⟩
        have hex' : (match m1.st with | v :: r => some { m1 with st := r, at_ := if v = 0 then m1.at_ + 1 + a.toNat else m1.at_ + 1 } | [] => none) = some m2 := hex
        rw [hst] at hex'
        have hex2 := Option.some.inj hex'
        have hp := hA2.pop hst
        have K3 : Keep [d, tb, tx, ch, sk] H2 (upd H2 sk (.lst (m1.st.reverse.map V.int).dropLast)) := Keep.at_ (by simp)
        have KK3 := KK2.trans K3
        refine ⟨_, rfl, d, _, rfl, dg (k := .inr "stack") hA2.hd rfl, .inl ⟨rfl, _, SqL.of hA2.hsk⟩, sk, _, _, rfl, rfl, hA2.hsk, hp.1, ?_⟩
        have hp2 := hp.2
        clear K3 hp
        generalize upd H2 sk (.lst (m1.st.reverse.map V.int).dropLast) = H3 at *
        refine ⟨rfl, _, rfl, iteD (fun hx => ?_) (fun hx => ?_)⟩
        · have hx : x = 0 := V.int.inj hx
          rw [if_pos hx] at hex2
          refine ⟨_, rfl, _, _, rfl, rfl, _, rfl, _, _, rfl, rfl, ?_⟩
          have ef : ((m1.at_ : Int) + 1 + a) = (m2.at_ : Int) := by
            rw [← hex2]
            show _ = ((m1.at_ + 1 + a.toNat : Nat) : Int)
            omega
          have hA3 : StAt H3 d tb sz an sn rl tx ch sh sk k seen rs m2 hi1 := by rw [← hex2]; exact hp2.at0 _
          have hl3 : ((m2.st.reverse.map V.int).length : Int) = (m2.st.length : Int) := by rw [List.length_map, List.length_reverse]
          refine ⟨_, rfl, d, _, rfl, dg (k := .inr "left") hA3.hd rfl, _, _, rfl, rfl, _, rfl, iteDF (by have := g1.l0; omega) ?_⟩
          refine ⟨_, rfl, d, _, rfl, dg (k := .inr "highest") hA3.hd rfl, _, rfl, d, _, rfl, dg (k := .inr "stack") hA3.hd rfl, sk, _, rfl, .inl (SqL.of hA3.hsk), _, _, rfl, _, rfl, put_of (k := .inr "highest") hA3.hd (by simp [stK]) (kvs' := stK tb sz an sn rl tx ch sh sk m2.left (if ((m2.st.reverse.map V.int).length : Int) > hi1 then ((m2.st.reverse.map V.int).length : Int) else hi1)) rfl fun H4 e4 => ?_⟩
          subst e4
          have hmst := mu_step (top := top) hI1 hna z g1 g4 g5 g6 g7
          exact ⟨_, rfl, m2, _, _, _, _, _, by rw [← ef]; rfl, hA3.setD m2.left _ m2 rfl rfl rfl rfl, by rw [hl3]; split <;> omega, g1, hP2, by omega, by omega, KK3.trans (Keep.at_ (by simp))⟩
        · have hx : ¬ x = 0 := fun z => hx (congrArg V.int z)
          rw [if_neg hx] at hex2
          refine ⟨_, rfl, rfl, _, rfl, iteDF (ness (show ("skip" : Str) ≠ "back" by decide +kernel)) ?_⟩
          refine ⟨_, rfl, rfl, _, rfl, iteNF rfl ?_⟩
          have ef : ((m1.at_ : Int) + 1) = (m2.at_ : Int) := by
            rw [← hex2]
            show _ = ((m1.at_ + 1 : Nat) : Int)
            omega
          have hA3 : StAt H3 d tb sz an sn rl tx ch sh sk k seen rs m2 hi1 := by rw [← hex2]; exact hp2.at0 _
          have hl3 : ((m2.st.reverse.map V.int).length : Int) = (m2.st.length : Int) := by rw [List.length_map, List.length_reverse]
          refine ⟨_, rfl, d, _, rfl, dg (k := .inr "left") hA3.hd rfl, _, _, rfl, rfl, _, rfl, iteDF (by have := g1.l0; omega) ?_⟩
          refine ⟨_, rfl, d, _, rfl, dg (k := .inr "highest") hA3.hd rfl, _, rfl, d, _, rfl, dg (k := .inr "stack") hA3.hd rfl, sk, _, rfl, .inl (SqL.of hA3.hsk), _, _, rfl, _, rfl, put_of (k := .inr "highest") hA3.hd (by simp [stK]) (kvs' := stK tb sz an sn rl tx ch sh sk m2.left (if ((m2.st.reverse.map V.int).length : Int) > hi1 then ((m2.st.reverse.map V.int).length : Int) else hi1)) rfl fun H4 e4 => ?_⟩
          subst e4
          have hmst := mu_step (top := top) hI1 hna z g1 g4 g5 g6 g7
          exact ⟨_, rfl, m2, _, _, _, _, _, by rw [← ef]; rfl, hA3.setD m2.left _ m2 rfl rfl rfl rfl, by rw [hl3]; split <;> omega, g1, hP2, by omega, by omega, KK3.trans (Keep.at_ (by simp))⟩
      have ek0 : n ≠ "skip" := fun z => ek (congrArg V.str z)
      clear ek
      refine iteDF (p := False) (fun z => z) ?_
      refine ⟨_, rfl, rfl, _, rfl, iteD (fun ek => ?_) (fun ek => ?_)⟩
      · have ek2 : n = "back" := V.str.inj ek
        subst ek2
        cases hnx with
        | go z g1 g2 g3 g4 g5 g6 g7 =>
        have f0 := fits_far (.inr (.inr rfl)) l3
        rw [conv_back] at hex
        have hex' : (if a.toNat + 1 ≤ m1.at_ + 1 then some { m1 with at_ := m1.at_ + 1 - 1 - a.toNat } else none) = some m2 := hex
        split at hex'
        case isFalse => cases hex'
        rename_i hle
        have hex2 := Option.some.inj hex'
        refine ⟨_, rfl, _, rfl, _, _, rfl, rfl, ?_⟩
        have ef : ((m1.at_ : Int) - a) = (m2.at_ : Int) := by
          rw [← hex2]
          show _ = ((m1.at_ + 1 - 1 - a.toNat : Nat) : Int)
          omega
        have hA3 : StAt H2 d tb sz an sn rl tx ch sh sk k seen rs m2 hi1 := by rw [← hex2]; exact hA2.at0 _
        have KK3 := KK2
        have hl3 : ((m2.st.reverse.map V.int).length : Int) = (m2.st.length : Int) := by rw [List.length_map, List.length_reverse]
        refine ⟨_, rfl, d, _, rfl, dg (k := .inr "left") hA3.hd rfl, _, _, rfl, rfl, _, rfl, iteDF (by have := g1.l0; omega) ?_⟩
        refine ⟨_, rfl, d, _, rfl, dg (k := .inr "highest") hA3.hd rfl, _, rfl, d, _, rfl, dg (k := .inr "stack") hA3.hd rfl, sk, _, rfl, .inl (SqL.of hA3.hsk), _, _, rfl, _, rfl, put_of (k := .inr "highest") hA3.hd (by simp [stK]) (kvs' := stK tb sz an sn rl tx ch sh sk m2.left (if ((m2.st.reverse.map V.int).length : Int) > hi1 then ((m2.st.reverse.map V.int).length : Int) else hi1)) rfl fun H4 e4 => ?_⟩
        subst e4
        have hmst := mu_step (top := top) hI1 hna z g1 g4 g5 g6 g7
        exact ⟨_, rfl, m2, _, _, _, _, _, by rw [← ef]; rfl, hA3.setD m2.left _ m2 rfl rfl rfl rfl, by rw [hl3]; split <;> omega, g1, hP2, by omega, by omega, KK3.trans (Keep.at_ (by simp))⟩
      · have eb : n ≠ "back" := fun z => ek (congrArg V.str z)
        clear ek
        have ek := ek0
        refine ⟨_, rfl, rfl, _, rfl, iteNT (ness ek) ?_⟩
        refine ⟨_, rfl, by show 2 ≤ sizeLine; decide, fun u nu => ⟨u, _, rfl, .inr (SqT.of upd_same), rfl, flat_strs ["load", "store"], _, rfl, iteB (fun ey => ?_) (fun ey => ?_)⟩⟩
        · have ey' : inV (.str n) ((["load", "store"] : List Str).map V.str) = true := ey
          rw [inV_strs] at ey'
          have ey2 : n = "load" ∨ n = "store" := by simpa using of_decide_eq_true ey'
          have hfa : 0 ≤ a ∧ a < (k : Int) := by
            rcases ey2 with q | q
            · rw [q] at l3; exact fits_load l3
            · rw [q] at l3; exact fits_store l3
          have hB := hA2.keep0 (Keep.new (W := []) (o := .tup ((["load", "store"] : List Str).map V.str)) nu)
          have KKB : Keep [d, tb, tx, ch, sk] H (upd H2 u (.tup ((["load", "store"] : List Str).map V.str))) := KK2.trans (Keep.new nu)
          refine ⟨_, rfl, _, _, rfl, rfl, _, rfl, iteDT hfa.1 ?_⟩
          refine ⟨_, rfl, d, _, rfl, dg (k := .inr "table") hB.hd rfl, tb, _, rfl, .inl (SqL.of hB.htb), _, _, rfl, rfl, _, rfl, ?_⟩
          have ec : decide (a < ((m1.cells.map V.int).length : Int)) = true := decide_eq_true (by rw [List.length_map, hI1.cl]; exact hfa.2)
          rw [ec]
          refine iteDF (p := False) (fun z => z) ?_
          refine ⟨_, rfl, _, rfl, _, rfl, d, tb, sz, an, sn, rl, tx, ch, sh, sk, nsK k, seen, rs, { m1 with at_ := m1.at_ + 1 }, m2, hi1, conv (n, a), by rw [hcv.1, hcv.2]; rfl, by rw [nsK_len]; exact hB.at0 _, conv_do l2 e ej ek eb, hex, hI1.vs, hI1.vc, by rw [nsK_len]; exact hI1.cl, by show m1.st.length ≤ 100; omega, by show m1.tk.length ≤ 700000; omega, hE.sl, hE.rl, fun H3 hA3 K3 => ?_⟩
          rw [nsK_len] at hA3
          have KK3 := KKB.trans K3
          have hat2 := exec_at (conv_do l2 e ej ek eb) hex
          cases hnx with
          | fin _ _ => exact absurd rfl e
          | out o1 o2 =>
            have hl : m2.left < 0 := by rw [o2]; show (-1 : Int) < 0; decide
            refine ⟨_, rfl, d, _, rfl, dg (k := .inr "left") hA3.hd rfl, _, _, rfl, rfl, _, rfl, iteDT hl ?_⟩
            have q := kq H3 m2 (i + 1) hi1 hA3 ht1 hP2 (by rw [o2]) (fun z => by rw [o2] at z; cases z) (fun _ => hl) (by rw [o2]; exact hI1.vs) (by rw [o2]; exact hI1.vc) (by rw [o2]; exact hI1.cl) (by rw [o2]; show m1.tk.length ≤ 700000; omega) (Nat.succ_le_succ (Nat.zero_le _)) (by omega) KK3
            rw [hN] at q
            exact ⟨_, rfl, q⟩
          | go z g1 g2 g3 g4 g5 g6 g7 =>
            have ef : ((m1.at_ : Int) + 1) = (m2.at_ : Int) := by
              rw [hat2]
              show _ = ((m1.at_ + 1 : Nat) : Int)
              omega
            have hl3 : ((m2.st.reverse.map V.int).length : Int) = (m2.st.length : Int) := by rw [List.length_map, List.length_reverse]
            refine ⟨_, rfl, d, _, rfl, dg (k := .inr "left") hA3.hd rfl, _, _, rfl, rfl, _, rfl, iteDF (by have := g1.l0; omega) ?_⟩
            refine ⟨_, rfl, d, _, rfl, dg (k := .inr "highest") hA3.hd rfl, _, rfl, d, _, rfl, dg (k := .inr "stack") hA3.hd rfl, sk, _, rfl, .inl (SqL.of hA3.hsk), _, _, rfl, _, rfl, put_of (k := .inr "highest") hA3.hd (by simp [stK]) (kvs' := stK tb sz an sn rl tx ch sh sk m2.left (if ((m2.st.reverse.map V.int).length : Int) > hi1 then ((m2.st.reverse.map V.int).length : Int) else hi1)) rfl fun H4 e4 => ?_⟩
            subst e4
            have hmst := mu_step (top := top) hI1 hna z g1 g4 g5 g6 g7
            exact ⟨_, rfl, m2, _, _, _, _, _, by rw [← ef]; rfl, hA3.setD m2.left _ m2 rfl rfl rfl rfl, by rw [hl3]; split <;> omega, g1, hP2, by omega, by omega, KK3.trans (Keep.at_ (by simp))⟩
        · have hB := hA2.keep0 (Keep.new (W := []) (o := .tup ((["load", "store"] : List Str).map V.str)) nu)
          have KKB : Keep [d, tb, tx, ch, sk] H (upd H2 u (.tup ((["load", "store"] : List Str).map V.str))) := KK2.trans (Keep.new nu)
          refine ⟨_, rfl, _, rfl, _, rfl, d, tb, sz, an, sn, rl, tx, ch, sh, sk, nsK k, seen, rs, { m1 with at_ := m1.at_ + 1 }, m2, hi1, conv (n, a), by rw [hcv.1, hcv.2]; rfl, by rw [nsK_len]; exact hB.at0 _, conv_do l2 e ej ek eb, hex, hI1.vs, hI1.vc, by rw [nsK_len]; exact hI1.cl, by show m1.st.length ≤ 100; omega, by show m1.tk.length ≤ 700000; omega, hE.sl, hE.rl, fun H3 hA3 K3 => ?_⟩
          rw [nsK_len] at hA3
          have KK3 := KKB.trans K3
          have hat2 := exec_at (conv_do l2 e ej ek eb) hex
          cases hnx with
          | fin _ _ => exact absurd rfl e
          | out o1 o2 =>
            have hl : m2.left < 0 := by rw [o2]; show (-1 : Int) < 0; decide
            refine ⟨_, rfl, d, _, rfl, dg (k := .inr "left") hA3.hd rfl, _, _, rfl, rfl, _, rfl, iteDT hl ?_⟩
            have q := kq H3 m2 (i + 1) hi1 hA3 ht1 hP2 (by rw [o2]) (fun z => by rw [o2] at z; cases z) (fun _ => hl) (by rw [o2]; exact hI1.vs) (by rw [o2]; exact hI1.vc) (by rw [o2]; exact hI1.cl) (by rw [o2]; show m1.tk.length ≤ 700000; omega) (Nat.succ_le_succ (Nat.zero_le _)) (by omega) KK3
            rw [hN] at q
            exact ⟨_, rfl, q⟩
          | go z g1 g2 g3 g4 g5 g6 g7 =>
            have ef : ((m1.at_ : Int) + 1) = (m2.at_ : Int) := by
              rw [hat2]
              show _ = ((m1.at_ + 1 : Nat) : Int)
              omega
            have hl3 : ((m2.st.reverse.map V.int).length : Int) = (m2.st.length : Int) := by rw [List.length_map, List.length_reverse]
            refine ⟨_, rfl, d, _, rfl, dg (k := .inr "left") hA3.hd rfl, _, _, rfl, rfl, _, rfl, iteDF (by have := g1.l0; omega) ?_⟩
            refine ⟨_, rfl, d, _, rfl, dg (k := .inr "highest") hA3.hd rfl, _, rfl, d, _, rfl, dg (k := .inr "stack") hA3.hd rfl, sk, _, rfl, .inl (SqL.of hA3.hsk), _, _, rfl, _, rfl, put_of (k := .inr "highest") hA3.hd (by simp [stK]) (kvs' := stK tb sz an sn rl tx ch sh sk m2.left (if ((m2.st.reverse.map V.int).length : Int) > hi1 then ((m2.st.reverse.map V.int).length : Int) else hi1)) rfl fun H4 e4 => ?_⟩
            subst e4
            have hmst := mu_step (top := top) hI1 hna z g1 g4 g5 g6 g7
            exact ⟨_, rfl, m2, _, _, _, _, _, by rw [← ef]; rfl, hA3.setD m2.left _ m2 rfl rfl rfl rfl, by rw [hl3]; split <;> omega, g1, hP2, by omega, by omega, KK3.trans (Keep.at_ (by simp))⟩

    · rintro σ H1 ⟨m1, hi1, o4, o5, o6, o7, rfl, hA1, ht1, hI1, hP1, hmu1, htk1, K1⟩
      have := mu_pos hI1.at_ hI1.l0
      omega
end

end Th
/-! tuple * int, for any small number -/
section
open PySem PySem.Spec PyProof.Rows
theorem tuple_mul_same (l : Addr) (items : Array Value) (n : Nat) (dd : Option Addr) (sl : Array (Option Value)) (x : Int) (u : Tok) (c0 : (decide (x < -(2 ^ 63)) || decide (x ≥ 2 ^ 63)) = false) (c1 : (items.isEmpty || x == 1) = true) :
    Meets (Builtin.«tuple.__mul__» ⟨[.ref l, .int x u], []⟩) (fun _ R s => s.heap.get? l = some { cls := .type "tuple", dict := dd, data := .seq items n, slots := sl } ∧ R (.ok (.ret (Value.ref l))) s) :=
  .of_wp fun prog w A R s h => by
    obtain ⟨hp, g, d, tk, os⟩ := s
    obtain ⟨hl, h⟩ := h
    have f1 := AutoSeq1.idx_int
    wp_walk using wpAny_loadPart' hl
    repeat (first
      | (refine wpAny_ite_false (decide_eq_false (by rw [c0]; exact Bool.false_ne_true)) ?_; wp_walk using wpAny_loadPart' hl)
      | (refine wpAny_ite_true (decide_eq_true c1) ?_; wp_walk using wpAny_loadPart' hl))
    exact ⟨_, rfl, h⟩
theorem tuple_mul_zero (l : Addr) (items : Array Value) (n : Nat) (dd : Option Addr) (sl : Array (Option Value)) (x : Int) (u : Tok) (c0 : (decide (x < -(2 ^ 63)) || decide (x ≥ 2 ^ 63)) = false) (c1 : (items.isEmpty || x == 1) = false) (c2 : (decide (x ≤ 0) || items.isEmpty) = true) :
    Meets (Builtin.«tuple.__mul__» ⟨[.ref l, .int x u], []⟩) (fun _ R s => s.heap.get? l = some { cls := .type "tuple", dict := dd, data := .seq items n, slots := sl } ∧
      R (.ok (.ret (Value.ref s.heap.objs.size))) { s with heap := s.heap.push { cls := Value.type "tuple", data := Data.seq #[] }, toks := s.toks }) :=
  .of_wp fun prog w A R s h => by
    obtain ⟨hp, g, d, tk, os⟩ := s
    obtain ⟨hl, h⟩ := h
    have f1 := AutoSeq1.idx_int
    wp_walk using wpAny_loadPart' hl
    repeat (first
      | (refine wpAny_ite_false (decide_eq_false (by rw [c0]; exact Bool.false_ne_true)) ?_; wp_walk using wpAny_loadPart' hl)
      | (refine wpAny_ite_false (decide_eq_false (by rw [c1]; exact Bool.false_ne_true)) ?_; wp_walk using wpAny_loadPart' hl)
      | (refine wpAny_ite_true (decide_eq_true c2) ?_; wp_walk using wpAny_loadPart' hl))
    exact ⟨_, rfl, h⟩
def rRepX (K : PySem.W.Frag) : R2 := fun x y H Q => ∃ l k xs, x = .ref l ∧ y = .int k ∧ SqT K H l xs ∧ 0 ≤ k ∧ k ≤ 70000 ∧ xs.length ≤ 100 ∧ (∀ p, H p = none → Q (.ref p) (upd H p (.tup (List.replicate k.toNat xs).flatten))) ∧ ((List.replicate k.toNat xs).flatten = xs → Q (.ref l) H)
theorem op_repX {X : Cx} : OpR X (binaryOp .Mult) (rRepX X.K) := by
  intro pins s σ H x y v u Q I rx ry h
  obtain ⟨l, k, xs, rfl, rfl, hT, h1, h2, hz, q, qs⟩ := h
  cases rx
  obtain ⟨t, rfl⟩ := ry
  obtain ⟨its, r, ⟨⟨cls, dd, data, sl⟩, ho, hc, n, hd⟩, hs⟩ := I.tuple hT
  simp only at hc hd
  subst hc hd
  have hle : its.length = xs.length := r.length.symm
  have hsz0 : its.toArray.size = xs.length := by rw [List.size_toArray, hle]
  have c0 : (decide (k < -(2 ^ 63)) || decide (k ≥ 2 ^ 63)) = false := by
    rw [decide_eq_false (by omega), decide_eq_false (by omega)] <;> rfl
  by_cases hsame : (its.toArray.isEmpty || k == 1) = true
  · have hxs : (List.replicate k.toNat xs).flatten = xs := by
      rw [Bool.or_eq_true] at hsame
      rcases hsame with e | e
      · have : its = [] := by simpa using e
        have hx : xs = [] := List.eq_nil_of_length_eq_zero (by rw [← hle, this]; rfl)
        rw [hx]; simp
      · have : k = 1 := eq_of_beq e
        rw [this]; simp
    refine wpAny_binaryOp_repeat_ref (T := "tuple") (U := "int") (by decide) ⟨_, ho, rfl⟩ (fun s' => typeIs_int s' k t) noFill_tuple_mul F.fills_int_mul F.slot_int_rmul repeat_tuple F.slot_int_index.lookup
      (call_meets F.slot_int_rmul (typeIs_int s k t) F.entry_int_rmul (F.args_int_rmul_2 _ _) (int_rmul_tuple k t l its.toArray n dd sl)
        ⟨ho, rfl, ⟨_, ho, rfl⟩, call_meets F.slot_tuple_mul ⟨_, ho, rfl⟩ F.entry_tuple_mul (F.args_tuple_mul_2 _ _) (tuple_mul_same l its.toArray n dd sl k t c0 hsame) ⟨ho, ?_⟩⟩)
    exact ⟨.ref l, H, I, rfl, qs hxs⟩
  have c1 : (its.toArray.isEmpty || k == 1) = false := by simpa using hsame
  by_cases hk : k ≤ 0
  · have hk0 : k = 0 := by omega
    have c2 : (decide (k ≤ 0) || its.toArray.isEmpty) = true := by rw [decide_eq_true hk]; rfl
    refine wpAny_binaryOp_repeat_ref (T := "tuple") (U := "int") (by decide) ⟨_, ho, rfl⟩ (fun s' => typeIs_int s' k t) noFill_tuple_mul F.fills_int_mul F.slot_int_rmul repeat_tuple F.slot_int_index.lookup
      (call_meets F.slot_int_rmul (typeIs_int s k t) F.entry_int_rmul (F.args_int_rmul_2 _ _) (int_rmul_tuple k t l its.toArray n dd sl)
        ⟨ho, rfl, ⟨_, ho, rfl⟩, call_meets F.slot_tuple_mul ⟨_, ho, rfl⟩ F.entry_tuple_mul (F.args_tuple_mul_2 _ _) (tuple_mul_zero l its.toArray n dd sl k t c0 c1 c2) ⟨ho, ?_⟩⟩)
    have q' := q s.heap.objs.size (I.hok.fresh (Nat.le_refl _))
    rw [hk0] at q'
    refine ⟨.ref s.heap.objs.size, _, I.laid (t' := s.toks) (o := .tup []) (fun b ob q => Heap.get?_push_of_some _ q) (Nat.le_refl _) ?_, rfl, q'⟩
    exact ⟨Nat.zero_le _, [], .nil, IsTup.new _ _⟩
  have hi : its.toArray.isEmpty = false := by
    cases e : its.toArray.isEmpty with
    | false => rfl
    | true => rw [e] at c1; simp at c1
  have hm : ((its.toArray.size : Nat) : Int) * k ≤ 7000000 := by
    rw [hsz0]
    have a1 : ((xs.length : Nat) : Int) * k ≤ 100 * k := Int.mul_le_mul_of_nonneg_right (by omega) (by omega)
    omega
  have flen : (List.replicate k.toNat its).flatten.length ≤ sizeLine := by
    rw [PyProof.Rows.lm_len_rep_flat, hle, sizeLine_eq]
    have a1 : k.toNat * xs.length ≤ 70000 * 100 := Nat.mul_le_mul (by omega) hz
    omega
  have c2 : (decide (k ≤ 0) || its.toArray.isEmpty) = false := by
    rw [hi, Bool.or_false]
    exact decide_eq_false (by omega)
  have c4 : Builtin.Tuple.tupleTooMany (((its.toArray.size : Nat) : Int) * k) = false := by
    unfold Builtin.Tuple.tupleTooMany
    rw [sizeLine_eq]
    exact decide_eq_false (by omega)
  refine wpAny_binaryOp_repeat_ref (T := "tuple") (U := "int") (by decide) ⟨_, ho, rfl⟩ (fun s' => typeIs_int s' k t) noFill_tuple_mul F.fills_int_mul F.slot_int_rmul repeat_tuple F.slot_int_index.lookup
    (call_meets F.slot_int_rmul (typeIs_int s k t) F.entry_int_rmul (F.args_int_rmul_2 _ _) (int_rmul_tuple k t l its.toArray n dd sl)
      ⟨ho, rfl, ⟨_, ho, rfl⟩, call_meets F.slot_tuple_mul ⟨_, ho, rfl⟩ F.entry_tuple_mul (F.args_tuple_mul_2 _ _) (tuple_mulW l its.toArray n dd sl k t c0 c1 c2 (by omega) c4 (by rw [size_rep, List.size_toArray]; exact flen)) ⟨ho, ?_⟩⟩)
  rw [size_rep]
  refine ⟨.ref s.heap.objs.size, _, I.laid (t' := s.toks) (o := .tup (List.replicate k.toNat xs).flatten) (fun b ob q => Heap.get?_push_of_some _ q) (Nat.le_refl _) ?_, rfl, q _ (I.hok.fresh (Nat.le_refl _))⟩
  exact ⟨by rw [PyProof.Rows.lm_len_rep_flat, sizeLine_eq]; have a1 : k.toNat * xs.length ≤ 70000 * 100 := Nat.mul_le_mul (by omega) hz; omega, _, r.rep k.toNat, IsTup.new _ _⟩
end

namespace Th
/-! a long view -/
def evT : Ev := ⟨"told", 1, none⟩
theorem evT_ok (n : Nat) : EvsOk (List.replicate n evT) := fun e he => by
  rw [List.eq_of_mem_replicate he]
  exact evok2 (by decide +kernel) (by decide +kernel) (by decide) (by decide) _ (List.mem_singleton.mpr rfl)
theorem evs_rep {H : Hp} {p : Addr} (h : H p = some (.tup [.str "told", .int 1])) : ∀ n, Evs H (List.replicate n (.ref p)) (List.replicate n evT)
  | 0 => .nil
  | n + 1 => by rw [List.replicate_succ, List.replicate_succ]; exact .cons h (evs_rep h n)
theorem nums_rep : ∀ n, nums (List.replicate (n + 1) evT) = [2, 1, 0] ++ nums (List.replicate n evT) := fun n => rfl
theorem nums_at : ∀ n j, j < n → (nums (List.replicate n evT)).getD (3 * j) 0 = 2
  | 0, j, h => absurd h (Nat.not_lt_zero _)
  | n + 1, 0, _ => rfl
  | n + 1, j + 1, h => by
    rw [nums_rep, show 3 * (j + 1) = 3 * j + 3 by omega]
    show (nums (List.replicate n evT)).getD (3 * j) 0 = 2
    exact nums_at n j (by omega)
theorem vw_rep (n : Nat) : vw (nums (List.replicate n evT)) 65535 = if n > 21845 then 2 else 0 := by
  unfold vw
  rw [nums_len, List.length_replicate]
  split
  · rename_i h
    rw [if_pos (by omega)]
    exact nums_at n 21845 (by omega)
  · rename_i h
    rw [if_neg (by omega)]
theorem pthL {ns : List Str} {seen rs : List Int} {L : Int} (hL : (if (65535 : Int) < (seen.length : Int) then 65535 else (seen.length : Int)) = L) (h0 : 0 ≤ L) (h1 : L < 65536) : Pth ns seen rs [.e .long, .e (.push 7), .e (.sign "mod"), .fin] 4 (mc0 [] 1 []) ⟨4, [comb "mod" L 7], [], 1, false, true, []⟩ := by
  refine .step rfl (m' := ⟨1, [L], [], 1, false, false, []⟩) (by rw [← hL]; rfl) (.step rfl (m' := ⟨2, [7, L], [], 1, false, false, []⟩) rfl (.step rfl (m' := ⟨3, [comb "mod" L 7], [], 1, false, false, []⟩) ?_ (.step rfl (m' := ⟨4, [comb "mod" L 7], [], 1, false, true, []⟩) rfl (.refl _))))
  show (if ("mod" : Str) ∈ sgL ∧ 0 ≤ L ∧ L < 65536 ∧ (0 : Int) ≤ 7 ∧ (7 : Int) < 65536 then some _ else none) = _
  rw [if_pos ⟨by decide +kernel, h0, h1, by decide, by decide⟩]
theorem pthV {ns : List Str} {seen rs : List Int} : Pth ns seen rs [.e (.push 65535), .e .view, .fin] 3 (mc0 [] 1 []) ⟨3, [vw seen 65535], [], 1, false, true, []⟩ := by
  refine .step rfl (m' := ⟨1, [65535], [], 1, false, false, []⟩) rfl (.step rfl (m' := ⟨2, [vw seen 65535], [], 1, false, false, []⟩) ?_ (.step rfl (m' := ⟨3, [vw seen 65535], [], 1, false, true, []⟩) rfl (.refl _)))
  show (if (0 : Int) ≤ 65535 then some _ else none) = _
  rw [if_pos (by decide)]
def exV : Ex := .view (.num 65535)
def exL : Ex := .op "mod" .long (.num 7)
theorem bdok {e : Ex} (h : ExOk [] e) : BdOk [] .nil e := ⟨by simp, by simp, by unfold Bl.Ok; trivial, by decide, h, by unfold Bl.Sm; trivial, by decide⟩
theorem exV_ok : ExOk [] exV := by
  refine ⟨?_, by decide⟩
  exact ⟨by decide, by decide⟩
theorem exL_ok : ExOk [] exL := by
  refine ⟨?_, by decide⟩
  exact ⟨by decide +kernel, trivial, by decide, by decide⟩
theorem runNil {seen rs : List Int} {s : MS} : runB seen rs .nil s = (true, s) := by unfold runB; rfl
theorem thkV {seen : List Int} {S : Int} (h : vw seen 65535 = 2 * S) (h8 : 2 * S < 8) : thk [] [] .nil exV 8 seen [] 1 [] = (2 * S, [], []) := by
  unfold thk
  rw [runNil]
  have e : val (tbOf [] []) offs seen exV = 2 * S := h
  show (if (true = false) then _ else ((if val (tbOf [] []) offs seen exV ≥ 8 then 0 else val (tbOf [] []) offs seen exV), ([] : List Int), ([] : List (Int × Int)))) = _
  rw [if_neg (by decide), e, if_neg (by omega)]
theorem thkL {seen : List Int} {L : Int} (hL : (if (65535 : Int) < (seen.length : Int) then 65535 else (seen.length : Int)) = L) (h0 : 0 ≤ L) (h1 : L < 65536) : thk [] [] .nil exL 8 seen [] 1 [] = (L % 7, [], []) := by
  unfold thk
  rw [runNil]
  have e : val (tbOf [] []) offs seen exL = L % 7 := by
    show comb "mod" (if (65535 : Int) < (seen.length : Int) then 65535 else (seen.length : Int)) 7 = _
    rw [hL, comb_mod, if_pos (by decide)]
  show (if (true = false) then _ else ((if val (tbOf [] []) offs seen exL ≥ 8 then 0 else val (tbOf [] []) offs seen exL), ([] : List Int), ([] : List (Int × Int)))) = _
  rw [if_neg (by decide), e, if_neg (by omega)]

def sp_long : Sp := fun vs H Q _ => ∃ m : Int, vs = [.int m] ∧ 21844 ≤ m ∧ m ≤ 21847 ∧ ∀ H', Keep [] H H' → Q (.bl true) H'
section
variable {P : Program} {w : World} {K : PySem.W.Frag} {mg : Str → Option Value} {base : Heap} {C_Tape : Addr} {C_Thinker : Addr} {C_Brain : Addr} {C_Mind : Addr} {C_Frame : Addr} {C_Thinking : Addr} {C_Checker : Addr} {C_GameError : Addr} {C_BadCode : Addr} {f_BadCode___init : Addr} {T_EVENTS : Addr} {T_SIGNS : Addr} {T_ROUND_NAMES : Addr} {T_BRAIN_NAMES : Addr} {T_EFFECTS : Addr}
theorem ok_long {f : Addr} {fd : FuncData} (D : C8.Def K mg "_law_long_view" s_law_long_view f fd) (b : Binds K fd ["many"] []) (T : Txt K mg C_Tape C_Thinker C_Brain C_Mind C_Frame C_Thinking C_Checker C_GameError C_BadCode T_EVENTS T_SIGNS T_ROUND_NAMES T_BRAIN_NAMES T_EFFECTS) (c_law_same : C8.Cal P w K mg base 10 "_law_same" (sp_law_same K 10) []) (c_Mind : C8.Mak P w K mg base 1 "Mind" C_Mind (sp_minit K C_Mind) []) (c_Brain : C8.Mak P w K mg base 1 "Brain" C_Brain (sp_brinit K C_Brain) []) (c_Tape : C8.Mak P w K mg base 1 "Tape" C_Tape (sp_tape K C_Tape) []) (c_think : C8.Cal P w K mg base 42 "think" (sp_think K C_Brain C_Tape) []) (c_think_by_code : C8.Cal P w K mg base 4 "think_by_code" (sp_tbc K C_Mind C_Tape) []) : C8.Cal P w K mg base 43 "_law_long_view" sp_long [] := by
  refine cal0 D b .nil sc_law_long_view (fun vs H Q E h => ?_) (fun cdv A outer s H vs Q E hr h => ?_)
  · obtain ⟨m, rfl, _⟩ := h
    rfl
  · obtain ⟨m, rfl, m0, m1, kq⟩ := h
    have hu := hu_of hr
    refine ⟨_, (pss_cons (ps_set (i := 1) sc_law_long_view.nd rfl (by first | exact Or.inl rfl | exact Or.inr rfl) (pe_op op_repX (pe_tup (pa_cons (pe_tup (pa_cons pe_str (pa_cons pe_int pa_nil))) pa_nil)) (pv 0)))
(pss_cons (ps_set (i := 2) sc_law_long_view.nd rfl (by first | exact Or.inl rfl | exact Or.inr rfl) (pe_op op_mod (pe_callTy call_int1 (by rfl) T.n_int bo_int (pa_cons (pe_callB (call_min2 rfl) (by rfl) T.n_min bo_min (pa_cons (pe_op op_mul pe_int (pv 0)) (pa_cons pe_int pa_nil))) pa_nil)) pe_int))
(pss_cons (ps_set (i := 3) sc_law_long_view.nd rfl (by first | exact Or.inl rfl | exact Or.inr rfl) (pe_op op_mul pe_int (pe_callTy call_int1 (by rfl) T.n_int bo_int (pa_cons (pe_cmpR op_gt (pv 0) pe_int (nomark _)) pa_nil))))
(pss_cons (ps_set (i := 4) sc_law_long_view.nd rfl (by first | exact Or.inl rfl | exact Or.inr rfl) (pe_mk c_Mind hr (by first | exact Nat.le_refl _ | decide | omega) rfl (pa_cons pe_int (pa_cons (pe_tup pa_nil) (pa_cons (pe_lst (pa_cons (pe_tup (pa_cons pe_str (pa_cons pe_int pa_nil))) (pa_cons (pe_tup (pa_cons pe_str (pa_cons pe_int pa_nil))) (pa_cons (pe_tup (pa_cons pe_str (pa_cons pe_int pa_nil))) (pa_cons (pe_tup (pa_cons pe_str (pa_cons pe_int pa_nil))) pa_nil))))) pa_nil)))))
(pss_cons (ps_if (pt_not (pt_val (pe_c c_law_same hr (by first | exact Nat.le_refl _ | decide | omega) rfl (pa_cons (pe_c c_think_by_code hr (by first | exact Nat.le_refl _ | decide | omega) rfl (pa_cons (pv 4) (pa_cons (pe_tup pa_nil) (pa_cons (pv 1) (pa_cons pe_int (pa_cons (pe_mk c_Tape hr (by first | exact Nat.le_refl _ | decide | omega) rfl (pa_cons (pe_lst pa_nil) pa_nil)) pa_nil)))))) (pa_cons (pe_tup (pa_cons (pv 2) (pa_cons (pe_tup pa_nil) (pa_cons pe_int pa_nil)))) pa_nil)))))
  (pss_one (ps_ret pe_bl))
  pss_nil)
(pss_cons (ps_set (i := 4) sc_law_long_view.nd rfl (by first | exact Or.inl rfl | exact Or.inr rfl) (pe_mk c_Mind hr (by first | exact Nat.le_refl _ | decide | omega) rfl (pa_cons pe_int (pa_cons (pe_tup pa_nil) (pa_cons (pe_lst (pa_cons (pe_tup (pa_cons pe_str (pa_cons pe_int pa_nil))) (pa_cons (pe_tup (pa_cons pe_str (pa_cons pe_int pa_nil))) (pa_cons (pe_tup (pa_cons pe_str (pa_cons pe_int pa_nil))) pa_nil)))) pa_nil)))))
(pss_cons (ps_if (pt_not (pt_val (pe_c c_law_same hr (by first | exact Nat.le_refl _ | decide | omega) rfl (pa_cons (pe_c c_think_by_code hr (by first | exact Nat.le_refl _ | decide | omega) rfl (pa_cons (pv 4) (pa_cons (pe_tup pa_nil) (pa_cons (pv 1) (pa_cons pe_int (pa_cons (pe_mk c_Tape hr (by first | exact Nat.le_refl _ | decide | omega) rfl (pa_cons (pe_lst pa_nil) pa_nil)) pa_nil)))))) (pa_cons (pe_tup (pa_cons (pv 3) (pa_cons (pe_tup pa_nil) (pa_cons pe_int pa_nil)))) pa_nil)))))
  (pss_one (ps_ret pe_bl))
  pss_nil)
(pss_cons (ps_set (i := 5) sc_law_long_view.nd rfl (by first | exact Or.inl rfl | exact Or.inr rfl) (pe_mk c_Brain hr (by first | exact Nat.le_refl _ | decide | omega) rfl (pa_cons pe_int (pa_cons (pe_tup pa_nil) (pa_cons (pe_tup pa_nil) (pa_cons (pe_tup (pa_cons pe_str (pa_cons (pe_tup (pa_cons pe_str (pa_cons pe_int pa_nil))) pa_nil))) pa_nil))))))
(pss_cons (ps_if (pt_not (pt_val (pe_c c_law_same hr (by first | exact Nat.le_refl _ | decide | omega) rfl (pa_cons (pe_c c_think hr (by first | exact Nat.le_refl _ | decide | omega) rfl (pa_cons (pv 5) (pa_cons (pe_tup pa_nil) (pa_cons (pv 1) (pa_cons pe_int (pa_cons (pe_mk c_Tape hr (by first | exact Nat.le_refl _ | decide | omega) rfl (pa_cons (pe_lst pa_nil) pa_nil)) pa_nil)))))) (pa_cons (pe_tup (pa_cons (pv 3) (pa_cons (pe_tup pa_nil) pa_nil))) pa_nil)))))
  (pss_one (ps_ret pe_bl))
  pss_nil)
(pss_cons (ps_set (i := 5) sc_law_long_view.nd rfl (by first | exact Or.inl rfl | exact Or.inr rfl) (pe_mk c_Brain hr (by first | exact Nat.le_refl _ | decide | omega) rfl (pa_cons pe_int (pa_cons (pe_tup pa_nil) (pa_cons (pe_tup pa_nil) (pa_cons (pe_tup (pa_cons pe_str (pa_cons (pe_tup (pa_cons pe_str pa_nil)) (pa_cons (pe_tup (pa_cons pe_str (pa_cons pe_int pa_nil))) pa_nil)))) pa_nil))))))
(pss_one (ps_ret (pe_c c_law_same hr (by first | exact Nat.le_refl _ | decide | omega) rfl (pa_cons (pe_c c_think hr (by first | exact Nat.le_refl _ | decide | omega) rfl (pa_cons (pv 5) (pa_cons (pe_tup pa_nil) (pa_cons (pv 1) (pa_cons pe_int (pa_cons (pe_mk c_Tape hr (by first | exact Nat.le_refl _ | decide | omega) rfl (pa_cons (pe_lst pa_nil) pa_nil)) pa_nil)))))) (pa_cons (pe_tup (pa_cons (pv 2) (pa_cons (pe_tup pa_nil) pa_nil))) pa_nil))))))))))))))), ?_⟩
    refine And.intro (by show 2 ≤ sizeLine; decide) <| fun ev nev => And.intro (by show 1 ≤ sizeLine; decide) <| fun o no => ?_
    have k2 := ((Keep.new (W := []) (o := .tup [.str "told", .int 1]) nev).then_new (o := .tup [.ref ev]) no)
    have hev := (Keep.new (W := []) (o := .tup [.ref ev]) no) _ _ (upd_same (H := H) (a := ev) (o := .tup [.str "told", .int 1])) (by simp)
    have ho : upd (upd H ev (.tup [.str "told", .int 1])) o (.tup [.ref ev]) o = some (.tup [.ref ev]) := upd_same
    generalize upd (upd H ev (.tup [.str "told", .int 1])) o (.tup [.ref ev]) = H2 at *
    obtain ⟨n, rfl⟩ : ∃ n : Nat, m = (n : Int) := ⟨m.toNat, by omega⟩
    refine ⟨_, rfl, o, _, _, rfl, rfl, SqT.of ho, by omega, by omega, by (show 1 ≤ 100; decide), fun vwa nvw => ?_, fun z => ?_⟩
    case refine_2 =>
      have := congrArg List.length z
      rw [List.flatten_replicate_singleton, List.length_replicate] at this
      simp at this
      omega
    rw [List.flatten_replicate_singleton, Int.toNat_natCast]
    have k3 := k2.then_new (o := .tup (List.replicate n (.ref ev))) nvw
    have hE := evs_rep ((Keep.new (W := []) (o := .tup (List.replicate n (.ref ev))) nvw) _ _ hev (by simp)) n
    have hvw : upd H2 vwa (.tup (List.replicate n (.ref ev))) vwa = some (.tup (List.replicate n (.ref ev))) := upd_same
    generalize upd H2 vwa (.tup (List.replicate n (.ref ev))) = H3 at *
    clear hev ho k2
    refine ⟨_, rfl, _, _, rfl, rfl, .inl (by decide), _, _, rfl, .inl ⟨_, rfl, _, _, rfl, rfl, by show (0 : Int) < 7; decide, ?_⟩⟩
    generalize hL : (if (65535 : Int) < 3 * (n : Int) then (65535 : Int) else 3 * (n : Int)) = L
    refine ⟨_, rfl, _, _, rfl, rfl, .inr ⟨_, rfl, _, _, rfl, rfl, .inl (by decide), ?_⟩⟩
    generalize hS : (if (decide ((21845 : Int) < (n : Int))) = true then (1 : Int) else 0) = S
    have sL : (if (65535 : Int) < ((nums (List.replicate n evT)).length : Int) then (65535 : Int) else ((nums (List.replicate n evT)).length : Int)) = L := by rw [nums_len, List.length_replicate, ← hL, show ((3 * n : Nat) : Int) = 3 * (n : Int) by omega]
    have sS : vw (nums (List.replicate n evT)) 65535 = 2 * S := by
      rw [vw_rep, ← hS]
      by_cases h : n > 21845
      · rw [if_pos h, decide_eq_true (by omega)]; rfl
      · rw [if_neg h, decide_eq_false (by omega)]; rfl
    have L0 : 0 ≤ L := by rw [← hL]; split <;> omega
    have L1 : L < 65536 := by rw [← hL]; split <;> omega
    have S0 : 0 ≤ S ∧ S ≤ 1 := by rw [← hS]; split <;> omega
    have cm : comb "mod" L 7 = L % 7 := by rw [comb_mod, if_pos (by decide)]
    generalize hes : List.replicate n evT = es at *
    generalize hxs : List.replicate n (V.ref ev) = xs at *
    have hEo : EvsOk es := by rw [← hes]; exact evT_ok n
    have hel : es.length ≤ 30000 := by rw [← hes, List.length_replicate]; omega
    clear hL hS hes hxs
    have kH : Keep [] H H3 := k3
    have h_vwa := hvw
    clear hvw k3
    have tape : ∀ {H0 : Hp} {l tp dt : Addr} {R : Hp → Prop}, H0 l = none → upd H0 l (.lst []) tp = none → upd H0 l (.lst []) dt = none → (∀ (rx tx : Addr) H', H0 tp = none → H0 rx = none → H0 tx = none → TapeAt C_Tape H' tp rx tx [] [] → Keep [] H0 H' → R H') → sp_tape K C_Tape [.ref tp, .ref l] (upd (upd (upd H0 l (.lst [])) dt (.own tp)) tp (.ins C_Tape dt [])) (fun v H2 => v = .non ∧ R H2) C8.E0 :=
      fun {H0 l tp dt R} nl ntp ndt g => ⟨tp, dt, l, [], rfl, SqL.of (made_at ntp ndt upd_same), upd_same, fun rx tx H' nrx ntx K' TA => ⟨rfl, by
        have kl : Keep [] H0 (upd H0 l (.lst [])) := Keep.new nl
        have km := Keep.made (o := .ins C_Tape dt []) ntp ndt
        exact g rx tx H' (kl.free ntp) (kl.free (km.free nrx)) (kl.free (km.free ntx)) TA (kl.trans (keep_made ntp ndt K'))⟩⟩
    refine And.intro (by show 0 ≤ sizeLine; decide) <| fun c0a n_c0a => ?_
    have K4 : Keep [] H3 (upd H3 c0a (.tup [])) := Keep.new n_c0a
    have h_c0a0 : upd H3 c0a (.tup []) c0a = some (.tup []) := upd_same
    generalize upd H3 c0a (.tup []) = H4 at *
    replace h_vwa := K4 _ _ h_vwa (by simp)
    have h_c0a := h_c0a0
    clear h_c0a0
    replace hE := hE.tk K4.tk
    replace kH := kH.trans K4
    clear K4 n_c0a
    refine And.intro (by show 2 ≤ sizeLine; decide) <| fun i0a n_i0a => ?_
    have K5 : Keep [] H4 (upd H4 i0a (.tup [.str "long", .int 0])) := Keep.new n_i0a
    have h_i0a0 : upd H4 i0a (.tup [.str "long", .int 0]) i0a = some (.tup [.str "long", .int 0]) := upd_same
    generalize upd H4 i0a (.tup [.str "long", .int 0]) = H5 at *
    replace h_vwa := K5 _ _ h_vwa (by simp)
    replace h_c0a := K5 _ _ h_c0a (by simp)
    have h_i0a := h_i0a0
    clear h_i0a0
    replace hE := hE.tk K5.tk
    replace kH := kH.trans K5
    clear K5 n_i0a
    refine And.intro (by show 2 ≤ sizeLine; decide) <| fun i1a n_i1a => ?_
    have K6 : Keep [] H5 (upd H5 i1a (.tup [.str "push", .int 7])) := Keep.new n_i1a
    have h_i1a0 : upd H5 i1a (.tup [.str "push", .int 7]) i1a = some (.tup [.str "push", .int 7]) := upd_same
    generalize upd H5 i1a (.tup [.str "push", .int 7]) = H6 at *
    replace h_vwa := K6 _ _ h_vwa (by simp)
    replace h_c0a := K6 _ _ h_c0a (by simp)
    replace h_i0a := K6 _ _ h_i0a (by simp)
    have h_i1a := h_i1a0
    clear h_i1a0
    replace hE := hE.tk K6.tk
    replace kH := kH.trans K6
    clear K6 n_i1a
    refine And.intro (by show 2 ≤ sizeLine; decide) <| fun i2a n_i2a => ?_
    have K7 : Keep [] H6 (upd H6 i2a (.tup [.str "sign", .int 4])) := Keep.new n_i2a
    have h_i2a0 : upd H6 i2a (.tup [.str "sign", .int 4]) i2a = some (.tup [.str "sign", .int 4]) := upd_same
    generalize upd H6 i2a (.tup [.str "sign", .int 4]) = H7 at *
    replace h_vwa := K7 _ _ h_vwa (by simp)
    replace h_c0a := K7 _ _ h_c0a (by simp)
    replace h_i0a := K7 _ _ h_i0a (by simp)
    replace h_i1a := K7 _ _ h_i1a (by simp)
    have h_i2a := h_i2a0
    clear h_i2a0
    replace hE := hE.tk K7.tk
    replace kH := kH.trans K7
    clear K7 n_i2a
    refine And.intro (by show 2 ≤ sizeLine; decide) <| fun i3a n_i3a => ?_
    have K8 : Keep [] H7 (upd H7 i3a (.tup [.str "end", .int 0])) := Keep.new n_i3a
    have h_i3a0 : upd H7 i3a (.tup [.str "end", .int 0]) i3a = some (.tup [.str "end", .int 0]) := upd_same
    generalize upd H7 i3a (.tup [.str "end", .int 0]) = H8 at *
    replace h_vwa := K8 _ _ h_vwa (by simp)
    replace h_c0a := K8 _ _ h_c0a (by simp)
    replace h_i0a := K8 _ _ h_i0a (by simp)
    replace h_i1a := K8 _ _ h_i1a (by simp)
    replace h_i2a := K8 _ _ h_i2a (by simp)
    have h_i3a := h_i3a0
    clear h_i3a0
    replace hE := hE.tk K8.tk
    replace kH := kH.trans K8
    clear K8 n_i3a
    refine And.intro (by show 4 ≤ sizeLine; decide) <| fun la n_la => ?_
    have K9 : Keep [] H8 (upd H8 la (.lst [.ref i0a, .ref i1a, .ref i2a, .ref i3a])) := Keep.new n_la
    have h_la0 : upd H8 la (.lst [.ref i0a, .ref i1a, .ref i2a, .ref i3a]) la = some (.lst [.ref i0a, .ref i1a, .ref i2a, .ref i3a]) := upd_same
    generalize upd H8 la (.lst [.ref i0a, .ref i1a, .ref i2a, .ref i3a]) = H9 at *
    replace h_vwa := K9 _ _ h_vwa (by simp)
    replace h_c0a := K9 _ _ h_c0a (by simp)
    replace h_i0a := K9 _ _ h_i0a (by simp)
    replace h_i1a := K9 _ _ h_i1a (by simp)
    replace h_i2a := K9 _ _ h_i2a (by simp)
    replace h_i3a := K9 _ _ h_i3a (by simp)
    have h_la := h_la0
    clear h_la0
    replace hE := hE.tk K9.tk
    replace kH := kH.trans K9
    clear K9 n_la
    refine fun M dM nM ndM neM => ⟨M, dM, c0a, la, 1, [], _, rfl, upd_same, made_at nM ndM h_c0a, made_at nM ndM h_la, fun cd H10 ncd hM hcd Kk => ⟨rfl, ?_⟩⟩
    have K10 : Keep [] H9 H10 := keep_made nM ndM Kk
    clear Kk nM ndM neM ncd
    replace h_vwa := K10 _ _ h_vwa (by simp)
    replace h_c0a := K10 _ _ h_c0a (by simp)
    replace h_i0a := K10 _ _ h_i0a (by simp)
    replace h_i1a := K10 _ _ h_i1a (by simp)
    replace h_i2a := K10 _ _ h_i2a (by simp)
    replace h_i3a := K10 _ _ h_i3a (by simp)
    replace h_la := K10 _ _ h_la (by simp)
    replace hE := hE.tk K10.tk
    replace kH := kH.trans K10
    clear K10
    have h_M := hM
    have h_cd := hcd
    clear hM hcd
    refine ⟨_, rfl, ?_⟩
    refine And.intro (by show 0 ≤ sizeLine; decide) <| fun c1a n_c1a => ?_
    have K11 : Keep [] H10 (upd H10 c1a (.tup [])) := Keep.new n_c1a
    have h_c1a0 : upd H10 c1a (.tup []) c1a = some (.tup []) := upd_same
    generalize upd H10 c1a (.tup []) = H11 at *
    replace h_vwa := K11 _ _ h_vwa (by simp)
    replace h_c0a := K11 _ _ h_c0a (by simp)
    replace h_i0a := K11 _ _ h_i0a (by simp)
    replace h_i1a := K11 _ _ h_i1a (by simp)
    replace h_i2a := K11 _ _ h_i2a (by simp)
    replace h_i3a := K11 _ _ h_i3a (by simp)
    replace h_M := K11 _ _ h_M (by simp)
    replace h_cd := K11 _ _ h_cd (by simp)
    have h_c1a := h_c1a0
    clear h_c1a0
    replace hE := hE.tk K11.tk
    replace kH := kH.trans K11
    clear K11 n_c1a
    refine ⟨_, rfl, by show 0 ≤ sizeLine; decide, fun l nl tp dt ntp ndt ne => tape nl ntp ndt (fun rx tx H12 ntp0 nrx ntx TA K12 => ?_)⟩
    clear nl ntp ndt ne ntp0 nrx
    have kold := K12
    have h_c1o := h_c1a
    have h_vo := h_vwa
    have Eo := hE
    replace h_vwa := K12 _ _ h_vwa (by simp)
    replace h_c0a := K12 _ _ h_c0a (by simp)
    replace h_i0a := K12 _ _ h_i0a (by simp)
    replace h_i1a := K12 _ _ h_i1a (by simp)
    replace h_i2a := K12 _ _ h_i2a (by simp)
    replace h_i3a := K12 _ _ h_i3a (by simp)
    replace h_M := K12 _ _ h_M (by simp)
    replace h_cd := K12 _ _ h_cd (by simp)
    replace h_c1a := K12 _ _ h_c1a (by simp)
    replace hE := hE.tk K12.tk
    refine ⟨M, c1a, vwa, tp, rx, tx, cd, 1, [], [.e .long, .e (.push 7), .e (.sign "mod"), .fin], [], es, [], [], 8, 4, _, rfl, ⟨⟨c0a, [], ⟨dM, h_M⟩, h_c0a, _, h_cd, (.cons (.inl h_i0a) (.cons (.inl h_i1a) (.cons (.inl (by rw [show numM [] (.e (.sign "mod")) = 4 by decide +kernel]; exact h_i2a)) (.cons (.inl h_i3a) .nil))))⟩, h_c1a, ⟨_, h_vwa, hE⟩, hEo, hel, TA⟩, pthL sL L0 L1, rfl, fun _ => by simp, fun t ct H13 nt ht hct TA2 K13 => ?_⟩
    have kk : Keep [] H11 H13 := fun a o h _ => K13 _ _ (kold _ _ h (by simp)) (by have := ne_of_none h ntx; simpa using this)
    replace kH := kH.trans kk
    replace h_vwa := kk _ _ h_vo (by simp)
    replace hE := Eo.tk kk.tk
    clear h_M
    clear h_cd
    clear h_c0a
    clear h_i0a
    clear h_i1a
    clear h_i2a
    clear h_i3a
    clear h_c1a
    clear h_vo h_c1o Eo K12 K13 kold kk TA TA2 ntx
    have e1 : (if (8 : Int) ≤ comb "mod" L 7 then (0 : Int) else comb "mod" L 7) = L % 7 := by rw [cm, if_neg (by omega)]
    have h_t : H13 t = some (.tup [.int (L % 7), .ref ct, .int 4]) := by rw [← e1]; exact ht
    have h_ct : H13 ct = some (.tup []) := hct
    clear ht hct e1
    refine ⟨_, rfl, ?_⟩
    refine And.intro (by show 0 ≤ sizeLine; decide) <| fun c2a n_c2a => ?_
    have K14 : Keep [] H13 (upd H13 c2a (.tup [])) := Keep.new n_c2a
    have h_c2a0 : upd H13 c2a (.tup []) c2a = some (.tup []) := upd_same
    generalize upd H13 c2a (.tup []) = H14 at *
    replace h_vwa := K14 _ _ h_vwa (by simp)
    replace h_t := K14 _ _ h_t (by simp)
    replace h_ct := K14 _ _ h_ct (by simp)
    have h_c2a := h_c2a0
    clear h_c2a0
    replace hE := hE.tk K14.tk
    replace kH := kH.trans K14
    clear K14 n_c2a
    refine And.intro (by show 3 ≤ sizeLine; decide) <| fun t2a n_t2a => ?_
    have K15 : Keep [] H14 (upd H14 t2a (.tup [.int (L % 7), .ref c2a, .int 4])) := Keep.new n_t2a
    have h_t2a0 : upd H14 t2a (.tup [.int (L % 7), .ref c2a, .int 4]) t2a = some (.tup [.int (L % 7), .ref c2a, .int 4]) := upd_same
    generalize upd H14 t2a (.tup [.int (L % 7), .ref c2a, .int 4]) = H15 at *
    replace h_vwa := K15 _ _ h_vwa (by simp)
    replace h_t := K15 _ _ h_t (by simp)
    replace h_ct := K15 _ _ h_ct (by simp)
    replace h_c2a := K15 _ _ h_c2a (by simp)
    have h_t2a := h_t2a0
    clear h_t2a0
    replace hE := hE.tk K15.tk
    replace kH := kH.trans K15
    clear K15 n_t2a
    refine ⟨_, _, rfl, sameT (n := 9) (.inl h_t) (.inl h_t2a) (.cons (sameV_atom (.inr (.inl ⟨_, rfl⟩))) (.cons (same_intsT (n := 7) (l := []) h_ct h_c2a (by decide)) (.cons (sameV_atom (.inr (.inl ⟨_, rfl⟩))) .nil))) (by simp), _, rfl, iteDF (p := False) (fun z => z) ?_⟩
    clear h_t h_ct h_c2a h_t2a nt
    refine And.intro (by show 0 ≤ sizeLine; decide) <| fun c0b n_c0b => ?_
    have K16 : Keep [] H15 (upd H15 c0b (.tup [])) := Keep.new n_c0b
    have h_c0b0 : upd H15 c0b (.tup []) c0b = some (.tup []) := upd_same
    generalize upd H15 c0b (.tup []) = H16 at *
    replace h_vwa := K16 _ _ h_vwa (by simp)
    have h_c0b := h_c0b0
    clear h_c0b0
    replace hE := hE.tk K16.tk
    replace kH := kH.trans K16
    clear K16 n_c0b
    refine And.intro (by show 2 ≤ sizeLine; decide) <| fun i0b n_i0b => ?_
    have K17 : Keep [] H16 (upd H16 i0b (.tup [.str "push", .int 65535])) := Keep.new n_i0b
    have h_i0b0 : upd H16 i0b (.tup [.str "push", .int 65535]) i0b = some (.tup [.str "push", .int 65535]) := upd_same
    generalize upd H16 i0b (.tup [.str "push", .int 65535]) = H17 at *
    replace h_vwa := K17 _ _ h_vwa (by simp)
    replace h_c0b := K17 _ _ h_c0b (by simp)
    have h_i0b := h_i0b0
    clear h_i0b0
    replace hE := hE.tk K17.tk
    replace kH := kH.trans K17
    clear K17 n_i0b
    refine And.intro (by show 2 ≤ sizeLine; decide) <| fun i1b n_i1b => ?_
    have K18 : Keep [] H17 (upd H17 i1b (.tup [.str "view", .int 0])) := Keep.new n_i1b
    have h_i1b0 : upd H17 i1b (.tup [.str "view", .int 0]) i1b = some (.tup [.str "view", .int 0]) := upd_same
    generalize upd H17 i1b (.tup [.str "view", .int 0]) = H18 at *
    replace h_vwa := K18 _ _ h_vwa (by simp)
    replace h_c0b := K18 _ _ h_c0b (by simp)
    replace h_i0b := K18 _ _ h_i0b (by simp)
    have h_i1b := h_i1b0
    clear h_i1b0
    replace hE := hE.tk K18.tk
    replace kH := kH.trans K18
    clear K18 n_i1b
    refine And.intro (by show 2 ≤ sizeLine; decide) <| fun i2b n_i2b => ?_
    have K19 : Keep [] H18 (upd H18 i2b (.tup [.str "end", .int 0])) := Keep.new n_i2b
    have h_i2b0 : upd H18 i2b (.tup [.str "end", .int 0]) i2b = some (.tup [.str "end", .int 0]) := upd_same
    generalize upd H18 i2b (.tup [.str "end", .int 0]) = H19 at *
    replace h_vwa := K19 _ _ h_vwa (by simp)
    replace h_c0b := K19 _ _ h_c0b (by simp)
    replace h_i0b := K19 _ _ h_i0b (by simp)
    replace h_i1b := K19 _ _ h_i1b (by simp)
    have h_i2b := h_i2b0
    clear h_i2b0
    replace hE := hE.tk K19.tk
    replace kH := kH.trans K19
    clear K19 n_i2b
    refine And.intro (by show 3 ≤ sizeLine; decide) <| fun lb n_lb => ?_
    have K20 : Keep [] H19 (upd H19 lb (.lst [.ref i0b, .ref i1b, .ref i2b])) := Keep.new n_lb
    have h_lb0 : upd H19 lb (.lst [.ref i0b, .ref i1b, .ref i2b]) lb = some (.lst [.ref i0b, .ref i1b, .ref i2b]) := upd_same
    generalize upd H19 lb (.lst [.ref i0b, .ref i1b, .ref i2b]) = H20 at *
    replace h_vwa := K20 _ _ h_vwa (by simp)
    replace h_c0b := K20 _ _ h_c0b (by simp)
    replace h_i0b := K20 _ _ h_i0b (by simp)
    replace h_i1b := K20 _ _ h_i1b (by simp)
    replace h_i2b := K20 _ _ h_i2b (by simp)
    have h_lb := h_lb0
    clear h_lb0
    replace hE := hE.tk K20.tk
    replace kH := kH.trans K20
    clear K20 n_lb
    refine fun M dM nM ndM neM => ⟨M, dM, c0b, lb, 1, [], _, rfl, upd_same, made_at nM ndM h_c0b, made_at nM ndM h_lb, fun cd H21 ncd hM hcd Kk => ⟨rfl, ?_⟩⟩
    have K21 : Keep [] H20 H21 := keep_made nM ndM Kk
    clear Kk nM ndM neM ncd
    replace h_vwa := K21 _ _ h_vwa (by simp)
    replace h_c0b := K21 _ _ h_c0b (by simp)
    replace h_i0b := K21 _ _ h_i0b (by simp)
    replace h_i1b := K21 _ _ h_i1b (by simp)
    replace h_i2b := K21 _ _ h_i2b (by simp)
    replace h_lb := K21 _ _ h_lb (by simp)
    replace hE := hE.tk K21.tk
    replace kH := kH.trans K21
    clear K21
    have h_M := hM
    have h_cd := hcd
    clear hM hcd
    refine ⟨_, rfl, ?_⟩
    refine And.intro (by show 0 ≤ sizeLine; decide) <| fun c1b n_c1b => ?_
    have K22 : Keep [] H21 (upd H21 c1b (.tup [])) := Keep.new n_c1b
    have h_c1b0 : upd H21 c1b (.tup []) c1b = some (.tup []) := upd_same
    generalize upd H21 c1b (.tup []) = H22 at *
    replace h_vwa := K22 _ _ h_vwa (by simp)
    replace h_c0b := K22 _ _ h_c0b (by simp)
    replace h_i0b := K22 _ _ h_i0b (by simp)
    replace h_i1b := K22 _ _ h_i1b (by simp)
    replace h_i2b := K22 _ _ h_i2b (by simp)
    replace h_M := K22 _ _ h_M (by simp)
    replace h_cd := K22 _ _ h_cd (by simp)
    have h_c1b := h_c1b0
    clear h_c1b0
    replace hE := hE.tk K22.tk
    replace kH := kH.trans K22
    clear K22 n_c1b
    refine ⟨_, rfl, by show 0 ≤ sizeLine; decide, fun l nl tp dt ntp ndt ne => tape nl ntp ndt (fun rx tx H23 ntp0 nrx ntx TA K23 => ?_)⟩
    clear nl ntp ndt ne ntp0 nrx
    have kold := K23
    have h_c1o := h_c1b
    have h_vo := h_vwa
    have Eo := hE
    replace h_vwa := K23 _ _ h_vwa (by simp)
    replace h_c0b := K23 _ _ h_c0b (by simp)
    replace h_i0b := K23 _ _ h_i0b (by simp)
    replace h_i1b := K23 _ _ h_i1b (by simp)
    replace h_i2b := K23 _ _ h_i2b (by simp)
    replace h_M := K23 _ _ h_M (by simp)
    replace h_cd := K23 _ _ h_cd (by simp)
    replace h_c1b := K23 _ _ h_c1b (by simp)
    replace hE := hE.tk K23.tk
    refine ⟨M, c1b, vwa, tp, rx, tx, cd, 1, [], [.e (.push 65535), .e .view, .fin], [], es, [], [], 8, 3, _, rfl, ⟨⟨c0b, [], ⟨dM, h_M⟩, h_c0b, _, h_cd, (.cons (.inl h_i0b) (.cons (.inl h_i1b) (.cons (.inl h_i2b) .nil)))⟩, h_c1b, ⟨_, h_vwa, hE⟩, hEo, hel, TA⟩, pthV, rfl, fun _ => by simp, fun t ct H24 nt ht hct TA2 K24 => ?_⟩
    have kk : Keep [] H22 H24 := fun a o h _ => K24 _ _ (kold _ _ h (by simp)) (by have := ne_of_none h ntx; simpa using this)
    replace kH := kH.trans kk
    replace h_vwa := kk _ _ h_vo (by simp)
    replace hE := Eo.tk kk.tk
    clear h_M
    clear h_cd
    clear h_c0b
    clear h_i0b
    clear h_i1b
    clear h_i2b
    clear h_c1b
    clear h_vo h_c1o Eo K23 K24 kold kk TA TA2 ntx
    have e1 : (if (8 : Int) ≤ vw (nums es) 65535 then (0 : Int) else vw (nums es) 65535) = 2 * S := by rw [sS, if_neg (by omega)]
    have h_t : H24 t = some (.tup [.int (2 * S), .ref ct, .int 3]) := by rw [← e1]; exact ht
    have h_ct : H24 ct = some (.tup []) := hct
    clear ht hct e1
    refine ⟨_, rfl, ?_⟩
    refine And.intro (by show 0 ≤ sizeLine; decide) <| fun c2b n_c2b => ?_
    have K25 : Keep [] H24 (upd H24 c2b (.tup [])) := Keep.new n_c2b
    have h_c2b0 : upd H24 c2b (.tup []) c2b = some (.tup []) := upd_same
    generalize upd H24 c2b (.tup []) = H25 at *
    replace h_vwa := K25 _ _ h_vwa (by simp)
    replace h_t := K25 _ _ h_t (by simp)
    replace h_ct := K25 _ _ h_ct (by simp)
    have h_c2b := h_c2b0
    clear h_c2b0
    replace hE := hE.tk K25.tk
    replace kH := kH.trans K25
    clear K25 n_c2b
    refine And.intro (by show 3 ≤ sizeLine; decide) <| fun t2b n_t2b => ?_
    have K26 : Keep [] H25 (upd H25 t2b (.tup [.int (2 * S), .ref c2b, .int 3])) := Keep.new n_t2b
    have h_t2b0 : upd H25 t2b (.tup [.int (2 * S), .ref c2b, .int 3]) t2b = some (.tup [.int (2 * S), .ref c2b, .int 3]) := upd_same
    generalize upd H25 t2b (.tup [.int (2 * S), .ref c2b, .int 3]) = H26 at *
    replace h_vwa := K26 _ _ h_vwa (by simp)
    replace h_t := K26 _ _ h_t (by simp)
    replace h_ct := K26 _ _ h_ct (by simp)
    replace h_c2b := K26 _ _ h_c2b (by simp)
    have h_t2b := h_t2b0
    clear h_t2b0
    replace hE := hE.tk K26.tk
    replace kH := kH.trans K26
    clear K26 n_t2b
    refine ⟨_, _, rfl, sameT (n := 9) (.inl h_t) (.inl h_t2b) (.cons (sameV_atom (.inr (.inl ⟨_, rfl⟩))) (.cons (same_intsT (n := 7) (l := []) h_ct h_c2b (by decide)) (.cons (sameV_atom (.inr (.inl ⟨_, rfl⟩))) .nil))) (by simp), _, rfl, iteDF (p := False) (fun z => z) ?_⟩
    clear h_t h_ct h_c2b h_t2b nt
    refine And.intro (by show 0 ≤ sizeLine; decide) <| fun c0c n_c0c => ?_
    have K27 : Keep [] H26 (upd H26 c0c (.tup [])) := Keep.new n_c0c
    have h_c0c0 : upd H26 c0c (.tup []) c0c = some (.tup []) := upd_same
    generalize upd H26 c0c (.tup []) = H27 at *
    replace h_vwa := K27 _ _ h_vwa (by simp)
    have h_c0c := h_c0c0
    clear h_c0c0
    replace hE := hE.tk K27.tk
    replace kH := kH.trans K27
    clear K27 n_c0c
    refine And.intro (by show 0 ≤ sizeLine; decide) <| fun b0c n_b0c => ?_
    have K28 : Keep [] H27 (upd H27 b0c (.tup [])) := Keep.new n_b0c
    have h_b0c0 : upd H27 b0c (.tup []) b0c = some (.tup []) := upd_same
    generalize upd H27 b0c (.tup []) = H28 at *
    replace h_vwa := K28 _ _ h_vwa (by simp)
    replace h_c0c := K28 _ _ h_c0c (by simp)
    have h_b0c := h_b0c0
    clear h_b0c0
    replace hE := hE.tk K28.tk
    replace kH := kH.trans K28
    clear K28 n_b0c
    refine And.intro (by show 2 ≤ sizeLine; decide) <| fun nuc n_nuc => ?_
    have K29 : Keep [] H28 (upd H28 nuc (.tup [.str "number", .int 65535])) := Keep.new n_nuc
    have h_nuc0 : upd H28 nuc (.tup [.str "number", .int 65535]) nuc = some (.tup [.str "number", .int 65535]) := upd_same
    generalize upd H28 nuc (.tup [.str "number", .int 65535]) = H29 at *
    replace h_vwa := K29 _ _ h_vwa (by simp)
    replace h_c0c := K29 _ _ h_c0c (by simp)
    replace h_b0c := K29 _ _ h_b0c (by simp)
    have h_nuc := h_nuc0
    clear h_nuc0
    replace hE := hE.tk K29.tk
    replace kH := kH.trans K29
    clear K29 n_nuc
    refine And.intro (by show 2 ≤ sizeLine; decide) <| fun anc n_anc => ?_
    have K30 : Keep [] H29 (upd H29 anc (.tup [.str "view", .ref nuc])) := Keep.new n_anc
    have h_anc0 : upd H29 anc (.tup [.str "view", .ref nuc]) anc = some (.tup [.str "view", .ref nuc]) := upd_same
    generalize upd H29 anc (.tup [.str "view", .ref nuc]) = H30 at *
    replace h_vwa := K30 _ _ h_vwa (by simp)
    replace h_c0c := K30 _ _ h_c0c (by simp)
    replace h_b0c := K30 _ _ h_b0c (by simp)
    replace h_nuc := K30 _ _ h_nuc (by simp)
    have h_anc := h_anc0
    clear h_anc0
    replace hE := hE.tk K30.tk
    replace kH := kH.trans K30
    clear K30 n_anc
    refine fun B dB nB ndB neB => ⟨B, dB, 1, c0c, b0c, .ref anc, [], [], rfl, upd_same, made_at nB ndB h_c0c, .inl (made_at nB ndB h_b0c), fun H31 Kk oB => ⟨rfl, ?_⟩⟩
    have K31 : Keep [] H30 H31 := keep_made nB ndB Kk
    clear Kk nB ndB neB
    obtain ⟨dB2, h_B⟩ := oB
    replace h_vwa := K31 _ _ h_vwa (by simp)
    replace h_c0c := K31 _ _ h_c0c (by simp)
    replace h_b0c := K31 _ _ h_b0c (by simp)
    replace h_nuc := K31 _ _ h_nuc (by simp)
    replace h_anc := K31 _ _ h_anc (by simp)
    replace hE := hE.tk K31.tk
    replace kH := kH.trans K31
    clear K31
    refine ⟨_, rfl, ?_⟩
    refine And.intro (by show 0 ≤ sizeLine; decide) <| fun c1c n_c1c => ?_
    have K32 : Keep [] H31 (upd H31 c1c (.tup [])) := Keep.new n_c1c
    have h_c1c0 : upd H31 c1c (.tup []) c1c = some (.tup []) := upd_same
    generalize upd H31 c1c (.tup []) = H32 at *
    replace h_vwa := K32 _ _ h_vwa (by simp)
    replace h_c0c := K32 _ _ h_c0c (by simp)
    replace h_b0c := K32 _ _ h_b0c (by simp)
    replace h_nuc := K32 _ _ h_nuc (by simp)
    replace h_anc := K32 _ _ h_anc (by simp)
    replace h_B := K32 _ _ h_B (by simp)
    have h_c1c := h_c1c0
    clear h_c1c0
    replace hE := hE.tk K32.tk
    replace kH := kH.trans K32
    clear K32 n_c1c
    refine ⟨_, rfl, by show 0 ≤ sizeLine; decide, fun l nl tp dt ntp ndt ne => tape nl ntp ndt (fun rx tx H33 ntp0 nrx ntx TA K33 => ?_)⟩
    clear nl ntp ndt ne ntp0 nrx
    have kold := K33
    have h_c1o := h_c1c
    have h_vo := h_vwa
    have Eo := hE
    replace h_vwa := K33 _ _ h_vwa (by simp)
    replace h_c0c := K33 _ _ h_c0c (by simp)
    replace h_b0c := K33 _ _ h_b0c (by simp)
    replace h_nuc := K33 _ _ h_nuc (by simp)
    replace h_anc := K33 _ _ h_anc (by simp)
    replace h_B := K33 _ _ h_B (by simp)
    replace h_c1c := K33 _ _ h_c1c (by simp)
    replace hE := hE.tk K33.tk
    refine ⟨B, c0c, b0c, c1c, vwa, tp, rx, tx, .ref anc, [], [], [], .nil, exV, _, es, 1, 8, [], [], rfl, ⟨dB2, h_B⟩, ⟨⟨⟨[], h_c0c, .nil⟩, ⟨[], .inl h_b0c, rfl⟩, .view (.inl h_anc) (.num (.inl h_nuc))⟩, bdok exV_ok, by decide, by decide, (fun _ z => by cases z), rfl, h_c1c, h_vwa, hE, hEo, hel⟩, TA, Nat.zero_le _, fun t ct H34 nt ht hct TA2 K34 => ?_⟩
    have kk : Keep [] H32 H34 := fun a o h _ => K34 _ _ (kold _ _ h (by simp)) (by have := ne_of_none h ntx; simpa using this)
    replace kH := kH.trans kk
    replace h_vwa := kk _ _ h_vo (by simp)
    replace hE := Eo.tk kk.tk
    clear h_B
    clear h_c0c
    clear h_b0c
    clear h_nuc
    clear h_anc
    clear h_c1c
    clear h_vo h_c1o Eo K33 K34 kold kk TA TA2 ntx
    rw [thkV sS (by omega)] at ht hct
    have h_t : H34 t = some (.tup [.int (2 * S), .ref ct]) := ht
    have h_ct : H34 ct = some (.tup []) := hct
    clear ht hct
    refine ⟨_, rfl, ?_⟩
    refine And.intro (by show 0 ≤ sizeLine; decide) <| fun c2c n_c2c => ?_
    have K35 : Keep [] H34 (upd H34 c2c (.tup [])) := Keep.new n_c2c
    have h_c2c0 : upd H34 c2c (.tup []) c2c = some (.tup []) := upd_same
    generalize upd H34 c2c (.tup []) = H35 at *
    replace h_vwa := K35 _ _ h_vwa (by simp)
    replace h_t := K35 _ _ h_t (by simp)
    replace h_ct := K35 _ _ h_ct (by simp)
    have h_c2c := h_c2c0
    clear h_c2c0
    replace hE := hE.tk K35.tk
    replace kH := kH.trans K35
    clear K35 n_c2c
    refine And.intro (by show 2 ≤ sizeLine; decide) <| fun t2c n_t2c => ?_
    have K36 : Keep [] H35 (upd H35 t2c (.tup [.int (2 * S), .ref c2c])) := Keep.new n_t2c
    have h_t2c0 : upd H35 t2c (.tup [.int (2 * S), .ref c2c]) t2c = some (.tup [.int (2 * S), .ref c2c]) := upd_same
    generalize upd H35 t2c (.tup [.int (2 * S), .ref c2c]) = H36 at *
    replace h_vwa := K36 _ _ h_vwa (by simp)
    replace h_t := K36 _ _ h_t (by simp)
    replace h_ct := K36 _ _ h_ct (by simp)
    replace h_c2c := K36 _ _ h_c2c (by simp)
    have h_t2c := h_t2c0
    clear h_t2c0
    replace hE := hE.tk K36.tk
    replace kH := kH.trans K36
    clear K36 n_t2c
    refine ⟨_, _, rfl, sameT (n := 9) (.inl h_t) (.inl h_t2c) (.cons (sameV_atom (.inr (.inl ⟨_, rfl⟩))) (.cons (same_intsT (n := 7) (l := []) h_ct h_c2c (by decide)) .nil)) (by simp), _, rfl, iteDF (p := False) (fun z => z) ?_⟩
    clear h_t h_ct h_c2c h_t2c nt
    refine And.intro (by show 0 ≤ sizeLine; decide) <| fun c0d n_c0d => ?_
    have K37 : Keep [] H36 (upd H36 c0d (.tup [])) := Keep.new n_c0d
    have h_c0d0 : upd H36 c0d (.tup []) c0d = some (.tup []) := upd_same
    generalize upd H36 c0d (.tup []) = H37 at *
    replace h_vwa := K37 _ _ h_vwa (by simp)
    have h_c0d := h_c0d0
    clear h_c0d0
    replace hE := hE.tk K37.tk
    replace kH := kH.trans K37
    clear K37 n_c0d
    refine And.intro (by show 0 ≤ sizeLine; decide) <| fun b0d n_b0d => ?_
    have K38 : Keep [] H37 (upd H37 b0d (.tup [])) := Keep.new n_b0d
    have h_b0d0 : upd H37 b0d (.tup []) b0d = some (.tup []) := upd_same
    generalize upd H37 b0d (.tup []) = H38 at *
    replace h_vwa := K38 _ _ h_vwa (by simp)
    replace h_c0d := K38 _ _ h_c0d (by simp)
    have h_b0d := h_b0d0
    clear h_b0d0
    replace hE := hE.tk K38.tk
    replace kH := kH.trans K38
    clear K38 n_b0d
    refine And.intro (by show 1 ≤ sizeLine; decide) <| fun lod n_lod => ?_
    have K39 : Keep [] H38 (upd H38 lod (.tup [.str "long"])) := Keep.new n_lod
    have h_lod0 : upd H38 lod (.tup [.str "long"]) lod = some (.tup [.str "long"]) := upd_same
    generalize upd H38 lod (.tup [.str "long"]) = H39 at *
    replace h_vwa := K39 _ _ h_vwa (by simp)
    replace h_c0d := K39 _ _ h_c0d (by simp)
    replace h_b0d := K39 _ _ h_b0d (by simp)
    have h_lod := h_lod0
    clear h_lod0
    replace hE := hE.tk K39.tk
    replace kH := kH.trans K39
    clear K39 n_lod
    refine And.intro (by show 2 ≤ sizeLine; decide) <| fun nud n_nud => ?_
    have K40 : Keep [] H39 (upd H39 nud (.tup [.str "number", .int 7])) := Keep.new n_nud
    have h_nud0 : upd H39 nud (.tup [.str "number", .int 7]) nud = some (.tup [.str "number", .int 7]) := upd_same
    generalize upd H39 nud (.tup [.str "number", .int 7]) = H40 at *
    replace h_vwa := K40 _ _ h_vwa (by simp)
    replace h_c0d := K40 _ _ h_c0d (by simp)
    replace h_b0d := K40 _ _ h_b0d (by simp)
    replace h_lod := K40 _ _ h_lod (by simp)
    have h_nud := h_nud0
    clear h_nud0
    replace hE := hE.tk K40.tk
    replace kH := kH.trans K40
    clear K40 n_nud
    refine And.intro (by show 3 ≤ sizeLine; decide) <| fun and n_and => ?_
    have K41 : Keep [] H40 (upd H40 and (.tup [.str "mod", .ref lod, .ref nud])) := Keep.new n_and
    have h_and0 : upd H40 and (.tup [.str "mod", .ref lod, .ref nud]) and = some (.tup [.str "mod", .ref lod, .ref nud]) := upd_same
    generalize upd H40 and (.tup [.str "mod", .ref lod, .ref nud]) = H41 at *
    replace h_vwa := K41 _ _ h_vwa (by simp)
    replace h_c0d := K41 _ _ h_c0d (by simp)
    replace h_b0d := K41 _ _ h_b0d (by simp)
    replace h_lod := K41 _ _ h_lod (by simp)
    replace h_nud := K41 _ _ h_nud (by simp)
    have h_and := h_and0
    clear h_and0
    replace hE := hE.tk K41.tk
    replace kH := kH.trans K41
    clear K41 n_and
    refine fun B dB nB ndB neB => ⟨B, dB, 1, c0d, b0d, .ref and, [], [], rfl, upd_same, made_at nB ndB h_c0d, .inl (made_at nB ndB h_b0d), fun H42 Kk oB => ⟨rfl, ?_⟩⟩
    have K42 : Keep [] H41 H42 := keep_made nB ndB Kk
    clear Kk nB ndB neB
    obtain ⟨dB2, h_B⟩ := oB
    replace h_vwa := K42 _ _ h_vwa (by simp)
    replace h_c0d := K42 _ _ h_c0d (by simp)
    replace h_b0d := K42 _ _ h_b0d (by simp)
    replace h_lod := K42 _ _ h_lod (by simp)
    replace h_nud := K42 _ _ h_nud (by simp)
    replace h_and := K42 _ _ h_and (by simp)
    replace hE := hE.tk K42.tk
    replace kH := kH.trans K42
    clear K42
    refine ⟨_, rfl, ?_⟩
    refine And.intro (by show 0 ≤ sizeLine; decide) <| fun c1d n_c1d => ?_
    have K43 : Keep [] H42 (upd H42 c1d (.tup [])) := Keep.new n_c1d
    have h_c1d0 : upd H42 c1d (.tup []) c1d = some (.tup []) := upd_same
    generalize upd H42 c1d (.tup []) = H43 at *
    replace h_vwa := K43 _ _ h_vwa (by simp)
    replace h_c0d := K43 _ _ h_c0d (by simp)
    replace h_b0d := K43 _ _ h_b0d (by simp)
    replace h_lod := K43 _ _ h_lod (by simp)
    replace h_nud := K43 _ _ h_nud (by simp)
    replace h_and := K43 _ _ h_and (by simp)
    replace h_B := K43 _ _ h_B (by simp)
    have h_c1d := h_c1d0
    clear h_c1d0
    replace hE := hE.tk K43.tk
    replace kH := kH.trans K43
    clear K43 n_c1d
    refine ⟨_, rfl, by show 0 ≤ sizeLine; decide, fun l nl tp dt ntp ndt ne => tape nl ntp ndt (fun rx tx H44 ntp0 nrx ntx TA K44 => ?_)⟩
    clear nl ntp ndt ne ntp0 nrx
    have kold := K44
    have h_c1o := h_c1d
    have h_vo := h_vwa
    have Eo := hE
    replace h_vwa := K44 _ _ h_vwa (by simp)
    replace h_c0d := K44 _ _ h_c0d (by simp)
    replace h_b0d := K44 _ _ h_b0d (by simp)
    replace h_lod := K44 _ _ h_lod (by simp)
    replace h_nud := K44 _ _ h_nud (by simp)
    replace h_and := K44 _ _ h_and (by simp)
    replace h_B := K44 _ _ h_B (by simp)
    replace h_c1d := K44 _ _ h_c1d (by simp)
    replace hE := hE.tk K44.tk
    refine ⟨B, c0d, b0d, c1d, vwa, tp, rx, tx, .ref and, [], [], [], .nil, exL, _, es, 1, 8, [], [], rfl, ⟨dB2, h_B⟩, ⟨⟨⟨[], h_c0d, .nil⟩, ⟨[], .inl h_b0d, rfl⟩, .op (.inl h_and) (.long (.inl h_lod)) (.num (.inl h_nud))⟩, bdok exL_ok, by decide, by decide, (fun _ z => by cases z), rfl, h_c1d, h_vwa, hE, hEo, hel⟩, TA, Nat.zero_le _, fun t ct H45 nt ht hct TA2 K45 => ?_⟩
    have kk : Keep [] H43 H45 := fun a o h _ => K45 _ _ (kold _ _ h (by simp)) (by have := ne_of_none h ntx; simpa using this)
    replace kH := kH.trans kk
    replace h_vwa := kk _ _ h_vo (by simp)
    replace hE := Eo.tk kk.tk
    clear h_B
    clear h_c0d
    clear h_b0d
    clear h_lod
    clear h_nud
    clear h_and
    clear h_c1d
    clear h_vo h_c1o Eo K44 K45 kold kk TA TA2 ntx
    rw [thkL sL L0 L1] at ht hct
    have h_t : H45 t = some (.tup [.int (L % 7), .ref ct]) := ht
    have h_ct : H45 ct = some (.tup []) := hct
    clear ht hct
    refine ⟨_, rfl, ?_⟩
    refine And.intro (by show 0 ≤ sizeLine; decide) <| fun c2d n_c2d => ?_
    have K46 : Keep [] H45 (upd H45 c2d (.tup [])) := Keep.new n_c2d
    have h_c2d0 : upd H45 c2d (.tup []) c2d = some (.tup []) := upd_same
    generalize upd H45 c2d (.tup []) = H46 at *
    replace h_vwa := K46 _ _ h_vwa (by simp)
    replace h_t := K46 _ _ h_t (by simp)
    replace h_ct := K46 _ _ h_ct (by simp)
    have h_c2d := h_c2d0
    clear h_c2d0
    replace hE := hE.tk K46.tk
    replace kH := kH.trans K46
    clear K46 n_c2d
    refine And.intro (by show 2 ≤ sizeLine; decide) <| fun t2d n_t2d => ?_
    have K47 : Keep [] H46 (upd H46 t2d (.tup [.int (L % 7), .ref c2d])) := Keep.new n_t2d
    have h_t2d0 : upd H46 t2d (.tup [.int (L % 7), .ref c2d]) t2d = some (.tup [.int (L % 7), .ref c2d]) := upd_same
    generalize upd H46 t2d (.tup [.int (L % 7), .ref c2d]) = H47 at *
    replace h_vwa := K47 _ _ h_vwa (by simp)
    replace h_t := K47 _ _ h_t (by simp)
    replace h_ct := K47 _ _ h_ct (by simp)
    replace h_c2d := K47 _ _ h_c2d (by simp)
    have h_t2d := h_t2d0
    clear h_t2d0
    replace hE := hE.tk K47.tk
    replace kH := kH.trans K47
    clear K47 n_t2d
    exact ⟨_, _, rfl, sameT (n := 9) (.inl h_t) (.inl h_t2d) (.cons (sameV_atom (.inr (.inl ⟨_, rfl⟩))) (.cons (same_intsT (n := 7) (l := []) h_ct h_c2d (by decide)) .nil)) (by simp), kq _ kH⟩
end

end Th
theorem Prs.rep {H : Hp} {xs : List V} {cs : List In2} (h : Prs H xs cs) : ∀ k : Nat, Prs H (List.replicate k xs).flatten (List.replicate k cs).flatten
  | 0 => .nil
  | k + 1 => by
    rw [List.replicate_succ, List.flatten_cons, List.replicate_succ, List.flatten_cons]
    exact h.app (h.rep k)
theorem len_rep (cs : List In2) (k : Nat) : (List.replicate k cs).flatten.length = k * cs.length := by simp
theorem NmOk.rep {cs : List In2} (h : NmOk cs) (k : Nat) : NmOk (List.replicate k cs).flatten := fun p hp => by
  obtain ⟨l, h1, h2⟩ := List.mem_flatten.mp hp
  rw [List.eq_of_mem_replicate h1] at h2
  exact h p h2
theorem repL {H : Hp} {l : Addr} {cs : List In2} {m : Int} {Q : VK} (h : CL H l cs) (h0 : 0 ≤ m) (h1 : m ≤ 1000) (hz : cs.length ≤ 1000) (k : ∀ r H', H r = none → CL H' r (List.replicate m.toNat cs).flatten → Keep [] H H' → Q (.ref r) H') : rRep (.ref l) (.int m) H Q := by
  obtain ⟨xs, hx, px⟩ := h
  have hl := px.len
  refine ⟨_, _, _, rfl, rfl, hx, by omega, by omega, ?_, fun r nr => k r _ nr ⟨_, upd_same, (px.rep _).tk (TK.new nr)⟩ (Keep.new nr)⟩
  have : xs.length * m.toNat ≤ 1000 * 1000 := Nat.mul_le_mul (by omega) (by omega)
  exact smallM this
theorem resAtom (r : Sum Nat Int) : ∀ v ∈ resV r, (∃ x, v = V.str x) ∨ (∃ i, v = .int i) ∨ (∃ b, v = .bl b) ∨ v = .non := by
  cases r with
  | inl i =>
    intro v hv
    simp [resV] at hv
    rcases hv with rfl | rfl | rfl
    · exact .inl ⟨_, rfl⟩
    · exact .inr (.inl ⟨_, rfl⟩)
    · exact .inr (.inr (.inl ⟨_, rfl⟩))
  | inr t =>
    intro v hv
    simp [resV] at hv
    rcases hv with rfl | rfl
    · exact .inl ⟨_, rfl⟩
    · exact .inr (.inl ⟨_, rfl⟩)
theorem sameRes {K : PySem.W.Frag} {H : Hp} {p q : Addr} {r : Sum Nat Int} {n : Nat} (h1 : H p = some (.tup (resV r))) (h2 : H q = some (.tup (resV r))) : SameV K (n + 2) H (.ref p) (.ref q) := by
  refine .inr ⟨p, q, _, _, rfl, rfl, .inr ⟨.inl h1, .inl h2⟩, rfl, ?_, fun i x y hx hy => ?_⟩
  · cases r with
    | inl i => show 3 ≤ sizeLine; decide
    | inr t => show 2 ≤ sizeLine; decide
  · rw [hx] at hy
    cases hy
    exact sameV_atom (resAtom r x (List.mem_of_getElem? hx))

namespace Th
theorem ml_of {K : PySem.W.Frag} {H : Hp} {k : Nat} {xs : List V} {cs : List In2} (h : Prs H xs cs) : (∀ p ∈ cs, p.1 ∈ nmsOf true ∧ fitsA p.1 p.2 (k : Int) 0 = true) → ML K H (nsK k) xs (cs.map conv) := by
  induction h with
  | nil => intro _; exact .nil
  | @cons t n a vs l h _ ih =>
    intro hp
    obtain ⟨h1, h2⟩ := hp (n, a) (List.mem_cons_self ..)
    obtain ⟨e1, e2⟩ := conv_ok (k := k) h1 h2
    exact .cons (.inl (by rw [e1, e2]; exact h)) (ih fun p hq => hp p (List.mem_cons_of_mem _ hq))
theorem env_of {cs : List In2} {k : Nat} {s : Hts × Int} {es : List Ev} {rs : List Int} (h0 : cs ≠ []) (hu : upto cs (k : Int) 0 true cs.length = some s) (hl : cs.length ≤ 30000) (he : EvsOk es) (hel : es.length ≤ 200) (hr : rs.length ≤ 8) : CEnv cs k s.1 s.2 (nums es) rs := by
  obtain ⟨u1, u2, u3⟩ := upto_loc _ hu
  refine ⟨fun i n a hi => ?_, u2, List.length_pos_iff.mpr h0, hl, u3, nums_ok he, by rw [nums_len]; omega, by omega⟩
  obtain ⟨hlt, _⟩ := List.getElem?_eq_some_iff.mp hi
  obtain ⟨n', a', e1, e2⟩ := u1 i hlt
  rw [hi] at e1
  cases e1
  exact e2
theorem CEnv.fit {cs : List In2} {k : Nat} {hF : Hts} {top : Int} {seen rs : List Int} (E : CEnv cs k hF top seen rs) : ∀ p ∈ cs, p.1 ∈ nmsOf true ∧ fitsA p.1 p.2 (k : Int) 0 = true := fun p hp => by
  obtain ⟨i, hi⟩ := List.getElem?_of_mem hp
  obtain ⟨v, _, h2, h3, _⟩ := E.loc i p.1 p.2 hi
  exact ⟨h2, h3⟩
theorem iv0 {cs : List In2} {k : Nat} {hF : Hts} {top : Int} {seen rs : List Int} (E : CEnv cs k hF top seen rs) {cells : List Int} {u : Int} (hc : VOk cells) (hl : cells.length = k) (hu : 0 ≤ u) : IvM cs k hF (mc0 cells u []) :=
  ⟨E.ne, E.h0, (fun _ z => by cases z), hc, hl, hu, rfl, rfl⟩
theorem vok_snoc {l : List Int} {z : Int} (h : VOk l) (h0 : 0 ≤ z) (h1 : z < 65536) : VOk (l ++ [z]) := fun x hx => by
  rcases List.mem_append.mp hx with q | q
  · exact h x q
  · rw [List.mem_singleton.mp q]; exact ⟨h0, h1⟩

def sp_law (K : PySem.W.Frag) : Sp := fun vs H Q _ => ∃ (a : Addr) (ns : List Int), vs = [.ref a] ∧ SqL K H a (ns.map V.int) ∧ ∀ H', Q (.bl true) H'
section
variable {P : Program} {w : World} {K : PySem.W.Frag} {mg : Str → Option Value} {base : Heap} {C_Tape : Addr} {C_Thinker : Addr} {C_Brain : Addr} {C_Mind : Addr} {C_Frame : Addr} {C_Thinking : Addr} {C_Checker : Addr} {C_GameError : Addr} {C_BadCode : Addr} {f_BadCode___init : Addr} {T_EVENTS : Addr} {T_SIGNS : Addr} {T_ROUND_NAMES : Addr} {T_BRAIN_NAMES : Addr} {T_EFFECTS : Addr}
theorem ok_law {f : Addr} {fd : FuncData} (F : C8.Fun K "law" "law" s_law f fd) (T : Txt K mg C_Tape C_Thinker C_Brain C_Mind C_Frame C_Thinking C_Checker C_GameError C_BadCode T_EVENTS T_SIGNS T_ROUND_NAMES T_BRAIN_NAMES T_EFFECTS) (c_law_pool : C8.Cal P w K mg base 1 "_law_pool" (sp_law_pool K) []) (c_law_draw : C8.Cal P w K mg base 1 "_law_draw" sp_law_draw []) (c_law_number : C8.Cal P w K mg base 2 "_law_number" sp_law_number []) (c_law_whole_code : C8.Cal P w K mg base 49 "_law_whole_code" sp_whole [])
    (c_law_spoilt : C8.Cal P w K mg base 4 "_law_spoilt" sp_spoilt []) (c_law_checked : C8.Cal P w K mg base 2 "_law_checked" sp_checked []) (c_law_told : C8.Cal P w K mg base 4 "_law_told" sp_told []) (c_check_mind : CalX P w K mg base 4 "check_mind" (sp_cmindX C_Mind C_BadCode) []) (c_law_same : C8.Cal P w K mg base 5 "_law_same" (sp_law_same K 5) []) (c_law_long_view : C8.Cal P w K mg base 43 "_law_long_view" sp_long []) (c_law_view : C8.Cal P w K mg base 3 "_law_view" sp_view []) (c_law_count : C8.Cal P w K mg base 2 "_law_count" sp_count [])
    (c_law_state : C8.Cal P w K mg base 1 "_law_state" sp_state []) (c_law_seen : C8.Cal P w K mg base 1 "_law_seen" sp_lseen []) (c_law_careful : C8.Cal P w K mg base 3 "_law_careful" sp_careful []) (c_Mind : C8.Mak P w K mg base 1 "Mind" C_Mind (sp_minit K C_Mind) []) (c_Tape : C8.Mak P w K mg base 1 "Tape" C_Tape (sp_tape K C_Tape) []) (c_think_by_code : C8.Cal P w K mg base 4 "think_by_code" (sp_tbc K C_Mind C_Tape) []) :
    FnOk P w K mg base C8.CX0 50 f fd ["script"] (sp_law K) := by
  refine C8.fn0 F sc_law (fun vs H Q E h => ?_) (fun cdv A outer s H vs Q E hr h => ?_)
  · obtain ⟨a, ns, rfl, _⟩ := h
    rfl
  · obtain ⟨a, ns, rfl, hS, k⟩ := h
    have hu := hu_of hr
    refine ⟨_, (pss_cons (ps_set (i := 1) sc_law.nd rfl (by first | exact Or.inl rfl | exact Or.inr rfl) (pe_c c_law_pool hr (by first | exact Nat.le_refl _ | decide | omega) rfl (pa_cons (pv 0) (pa_cons pe_int pa_nil))))
(pss_cut (ps_if (PW.pt (pw_and (pt_cmpR op_eq (pe_c c_law_draw hr (by first | exact Nat.le_refl _ | decide | omega) rfl (pa_cons (pv 1) (pa_cons pe_int pa_nil))) pe_int (nomark _)) (pw_and1 (pt_not (pt_val (pe_c c_law_long_view hr (by first | exact Nat.le_refl _ | decide | omega) rfl (pa_cons (pe_op op_add pe_int (pe_c c_law_draw hr (by first | exact Nat.le_refl _ | decide | omega) rfl (pa_cons (pv 1) (pa_cons pe_int pa_nil)))) pa_nil)))))))
  (pss_one (ps_ret pe_bl))
  pss_nil)
(pss_cons (ps_set (i := 2) sc_law.nd rfl (by first | exact Or.inl rfl | exact Or.inr rfl) (pe_callTy call_tuple_of (by rfl) T.n_tuple bo_tuple (pa_cons (pe_lc (own := [("k", 18)]) (g := gName 18) (tt := tYes) rfl sc_law.nd (pi_range1 (by rfl) T.n_range (pa_cons (pe_c c_law_draw hr (by first | exact Nat.le_refl _ | decide | omega) rfl (pa_cons (pv 1) (pa_cons pe_int pa_nil))) pa_nil)) (blkOk_by (N := ["script", "pool", "cells", "code", "high", "results", "told", "again", "e", "view", "units", "count", "mind", "state", "steps", "due", "answer", "tape", "k"]) (sc := fnScope s_law) (by decide +kernel)) (fun _ _ _ _ _ => pg_name (i := 18) sc_law.nd rfl (by first | exact Or.inl rfl | exact Or.inr rfl)) (fun _ _ _ _ _ => pts_nil) (fun _ _ _ _ _ => (pe_c c_law_number hr (by first | exact Nat.le_refl _ | decide | omega) rfl (pa_cons (pv 1) pa_nil)))) pa_nil)))
(pss_cons (ps_set (i := 3) sc_law.nd rfl (by first | exact Or.inl rfl | exact Or.inr rfl) (pe_c c_law_whole_code hr (by first | exact Nat.le_refl _ | decide | omega) rfl (pa_cons (pv 1) (pa_cons (pe_callB call_len_seq (by rfl) T.n_len bo_len (pa_cons (pv 2) pa_nil)) (pa_cons pe_int (pa_cons pe_bl pa_nil))))))
(pss_cut (ps_if (pt_cmpR op_eq (pe_c c_law_draw hr (by first | exact Nat.le_refl _ | decide | omega) rfl (pa_cons (pv 1) (pa_cons pe_int pa_nil))) pe_int (nomark _))
  (pss_cons (ps_set (i := 4) sc_law.nd rfl (by first | exact Or.inl rfl | exact Or.inr rfl) (pe_op op_add pe_int (pe_c c_law_draw hr (by first | exact Nat.le_refl _ | decide | omega) rfl (pa_cons (pv 1) (pa_cons pe_int pa_nil)))))
  (pss_one (ps_set (i := 3) sc_law.nd rfl (by first | exact Or.inl rfl | exact Or.inr rfl) (pe_op op_cat (pe_op op_cat (pe_op op_cat (pe_op op_rep (pe_lst (pa_cons (pe_tup (pa_cons pe_str (pa_cons pe_int pa_nil))) pa_nil)) (pv 4)) (pe_op op_rep (pe_lst (pa_cons (pe_tup (pa_cons pe_str (pa_cons pe_int pa_nil))) pa_nil)) (pe_op op_sub (pv 4) pe_int))) (pe_lst (pa_cons (pe_tup (pa_cons pe_str (pa_cons pe_int pa_nil))) pa_nil))) (pv 3)))))
  pss_nil)
(pss_cut (ps_if (pt_cmpR op_eq (pe_c c_law_draw hr (by first | exact Nat.le_refl _ | decide | omega) rfl (pa_cons (pv 1) (pa_cons pe_int pa_nil))) pe_int (nomark _))
  (pss_one (ps_set (i := 3) sc_law.nd rfl (by first | exact Or.inl rfl | exact Or.inr rfl) (pe_c c_law_spoilt hr (by first | exact Nat.le_refl _ | decide | omega) rfl (pa_cons (pv 1) (pa_cons (pv 3) pa_nil)))))
  pss_nil)
(pss_cons (ps_setLc (i := 5) (own := [("k", 18)]) (g := gName 18) (tt := tYes) rfl sc_law.nd rfl rfl (sw_true rfl rfl rfl (by decide +kernel)) (pi_range1 (by rfl) T.n_range (pa_cons (pe_c c_law_draw hr (by first | exact Nat.le_refl _ | decide | omega) rfl (pa_cons (pv 1) (pa_cons pe_int pa_nil))) pa_nil)) (blkOk_by (N := ["script", "pool", "cells", "code", "high", "results", "told", "again", "e", "view", "units", "count", "mind", "state", "steps", "due", "answer", "tape", "k"]) (sc := fnScope s_law) (by decide +kernel)) (fun _ _ _ _ _ => pg_name (i := 18) sc_law.nd rfl (by first | exact Or.inl rfl | exact Or.inr rfl)) (fun _ _ _ _ _ => pts_nil) (fun _ _ _ _ _ => (pe_c c_law_number hr (by first | exact Nat.le_refl _ | decide | omega) rfl (pa_cons (pv 1) pa_nil))))
(pss_cons (ps_set (i := 6) sc_law.nd rfl (by first | exact Or.inl rfl | exact Or.inr rfl) (pe_c c_law_told hr (by first | exact Nat.le_refl _ | decide | omega) rfl (pa_cons (pe_callTy call_list_of (by rfl) T.n_list bo_list (pa_cons (pv 3) pa_nil)) (pa_cons (pe_callB call_len_seq (by rfl) T.n_len bo_len (pa_cons (pv 2) pa_nil)) (pa_cons pe_int (pa_cons pe_bl pa_nil))))))
(pss_cons (ps_if (pt_not (pt_val (pe_c c_law_same hr (by first | exact Nat.le_refl _ | decide | omega) rfl (pa_cons (pv 6) (pa_cons (pe_c c_law_checked hr (by first | exact Nat.le_refl _ | decide | omega) rfl (pa_cons (pv 3) (pa_cons (pe_callB call_len_seq (by rfl) T.n_len bo_len (pa_cons (pv 2) pa_nil)) (pa_cons pe_int (pa_cons pe_bl pa_nil))))) pa_nil)))))
  (pss_one (ps_ret pe_bl))
  pss_nil)
(pss_cons (ps_try_as (i := 8) rfl rfl sc_law.nd rfl rfl ⟨rfl, by decide, .inl T.m_BadCode⟩ takes0 (fun W pn xe tk ps =>
  (pss_one (ps_set (i := 7) sc_law.nd rfl (by first | exact Or.inl rfl | exact Or.inr rfl) (pe_tup (pa_cons pe_str (pa_cons (pe_cS c_check_mind hr (by first | exact Nat.le_refl _ | decide | omega) rfl tk (pa_cons (pe_mk c_Mind hr (by first | exact Nat.le_refl _ | decide | omega) rfl (pa_cons pe_int (pa_cons (pv 2) (pa_cons (pe_callTy (call_list_ofK (K := K)) (by rfl) T.n_list bo_list (pa_cons (pv 3) pa_nil)) pa_nil)))) pa_nil)) pa_nil))))))
  (fun a oe cls d pn hz hf =>
  (pss_one (ps_set (i := 7) sc_law.nd rfl (by first | exact Or.inl rfl | exact Or.inr rfl) (pe_tup (pa_cons pe_str (pa_cons (pe_xf T.f_BadCode T.no_BadCode hz hf (pv 8)) (pa_cons (pe_callB (call_isX hz hf) (by rfl) T.n_isinstance bo_isinstance (pa_cons (pv 8) (pa_cons (pe_glob (v := .ref _) rfl T.m_GameError rfl) pa_nil))) pa_nil))))))))
(pss_cons (ps_if (pt_not (pt_val (pe_c c_law_same hr (by first | exact Nat.le_refl _ | decide | omega) rfl (pa_cons (pv 7) (pa_cons (pv 6) pa_nil)))))
  (pss_one (ps_ret pe_bl))
  pss_nil)
(pss_cons (ps_if (pt_cmpR op_ne (pe_ix ix_tup (pv 6) pe_int (fun _ _ => rfl)) pe_str (nomark _))
  (pss_one (ps_ret pe_bl))
  pss_nil)
(pss_cons (ps_set (i := 9) sc_law.nd rfl (by first | exact Or.inl rfl | exact Or.inr rfl) (pe_c c_law_view hr (by first | exact Nat.le_refl _ | decide | omega) rfl (pa_cons (pv 1) pa_nil)))
(pss_cons (ps_set (i := 10) sc_law.nd rfl (by first | exact Or.inl rfl | exact Or.inr rfl) (pe_op op_add pe_int (pe_c c_law_draw hr (by first | exact Nat.le_refl _ | decide | omega) rfl (pa_cons (pv 1) (pa_cons pe_int pa_nil)))))
(pss_cons (ps_set (i := 11) sc_law.nd rfl (by first | exact Or.inl rfl | exact Or.inr rfl) (pe_c c_law_count hr (by first | exact Nat.le_refl _ | decide | omega) rfl (pa_cons (pv 1) (pa_cons (pv 9) pa_nil))))
(pss_cons (ps_set (i := 12) sc_law.nd rfl (by first | exact Or.inl rfl | exact Or.inr rfl) (pe_mk c_Mind hr (by first | exact Nat.le_refl _ | decide | omega) rfl (pa_cons (pv 10) (pa_cons (pv 2) (pa_cons (pe_callTy call_list_of (by rfl) T.n_list bo_list (pa_cons (pv 3) pa_nil)) pa_nil)))))
(pss_cons (ps_set (i := 13) sc_law.nd rfl (by first | exact Or.inl rfl | exact Or.inr rfl) (pe_c c_law_state hr (by first | exact Nat.le_refl _ | decide | omega) rfl (pa_cons (pv 2) (pa_cons (pe_op op_rep (pe_lst (pa_cons pe_int pa_nil)) (pe_callB call_len_seq (by rfl) T.n_len bo_len (pa_cons (pv 2) pa_nil))) (pa_cons (pe_lst pa_nil) (pa_cons (pe_c c_law_seen hr (by first | exact Nat.le_refl _ | decide | omega) rfl (pa_cons (pv 9) pa_nil)) (pa_cons (pv 10) (pa_cons (pv 5) pa_nil))))))))
(pss_cons (ps_set (i := 14) sc_law.nd rfl (by first | exact Or.inl rfl | exact Or.inr rfl) (pe_c c_law_careful hr (by first | exact Nat.le_refl _ | decide | omega) rfl (pa_cons (pv 13) (pa_cons (pv 3) (pa_cons (pe_op op_mul (pe_op op_add (pv 10) pe_int) (pe_callB call_len_seq (by rfl) T.n_len bo_len (pa_cons (pv 3) pa_nil))) pa_nil)))))
(pss_cons (ps_if (PW.pt (pw_or (pt_cmpR op_lt (pv 14) pe_int (nomark _)) (pw_or1 (pt_cmpR op_gt (pe_dget hu (pv 13) pe_str (fun _ _ => rfl)) (pe_ix ix_tup (pv 6) pe_int (fun _ _ => rfl)) (nomark _)))))
  (pss_one (ps_ret pe_bl))
  pss_nil)
(pss_cons (ps_set (i := 15) sc_law.nd rfl (by first | exact Or.inl rfl | exact Or.inr rfl) (pe_tup (pa_cons pe_int (pa_cons (pv 2) (pa_cons (pv 14) pa_nil)))))
(pss_cons (ps_if (pt_cmpR op_ge (pe_dget hu (pv 13) pe_str (fun _ _ => rfl)) pe_int (nomark _))
  (pss_cons (ps_if (pt_cmpR op_ne (pe_callB call_len_seq (by rfl) T.n_len bo_len (pa_cons (pe_dget hu (pv 13) pe_str (fun _ _ => rfl)) pa_nil)) pe_int (nomark _))
    (pss_one (ps_ret pe_bl))
    pss_nil)
  (pss_cons (ps_set (i := 16) sc_law.nd rfl (by first | exact Or.inl rfl | exact Or.inr rfl) (pe_ix ix_list (pe_dget hu (pv 13) pe_str (fun _ _ => rfl)) pe_int (fun _ _ => rfl)))
  (pss_one (ps_set (i := 15) sc_law.nd rfl (by first | exact Or.inl rfl | exact Or.inr rfl) (pe_tup (pa_cons (pe_op op_mul (pv 16) (pe_callTy call_int1 (by rfl) T.n_int bo_int (pa_cons (pe_cmpR op_lt (pv 16) (pv 11) (nomark _)) pa_nil))) (pa_cons (pe_callTy call_tuple_of (by rfl) T.n_tuple bo_tuple (pa_cons (pe_dget hu (pv 13) pe_str (fun _ _ => rfl)) pa_nil)) (pa_cons (pv 14) pa_nil))))))))
  pss_nil)
(pss_cons (ps_set (i := 17) sc_law.nd rfl (by first | exact Or.inl rfl | exact Or.inr rfl) (pe_mk c_Tape hr (by first | exact Nat.le_refl _ | decide | omega) rfl (pa_cons (pe_callTy call_list_of (by rfl) T.n_list bo_list (pa_cons (pv 5) pa_nil)) pa_nil)))
(pss_one (ps_ret (pe_and (pe_c c_law_same hr (by first | exact Nat.le_refl _ | decide | omega) rfl (pa_cons (pe_c c_think_by_code hr (by first | exact Nat.le_refl _ | decide | omega) rfl (pa_cons (pv 12) (pa_cons (pv 2) (pa_cons (pv 9) (pa_cons (pv 11) (pa_cons (pv 17) pa_nil)))))) (pa_cons (pv 15) pa_nil))) (pe_one (pe_c c_law_same hr (by first | exact Nat.le_refl _ | decide | omega) rfl (pa_cons (pe_fld (pv 17) rfl) (pa_cons (pe_dget hu (pv 13) pe_str (fun _ _ => rfl)) pa_nil))))))))))))))))))))))))))))), ?_⟩
    have la : ∀ (c1 c2 : List In2), (c1 ++ c2).length = c1.length + c2.length := fun _ _ => List.length_append
    have l1 : ∀ (nm : Str) (a : Int), ([(nm, a)] : List In2).length = 1 := fun _ _ => rfl
    refine ⟨_, rfl, a, ns, 40, rfl, hS, fun p q H1 np P1 K1 => ?_⟩
    clear K1
    refine ⟨fun σ H' => σ = [some (.ref a), some (.ref p), none, none, none, none, none, none, none, none, none, none, none, none, none, none, none, none, none] ∧ Pool H' p q ns 40, ?_, ?_⟩
    · refine ⟨_, rfl, p, q, ns, 40, 16, rfl, by decide, by decide, P1, fun z H2 z0 z1 P2 K2 => ⟨rfl, _, rfl, iteD (fun hz => ?_) (fun hz => ?_)⟩⟩
      · refine ⟨_, rfl, p, q, ns, 40, 4, rfl, by decide, by decide, P2, fun y H3 y0 y1 P3 K3 => ⟨_, _, rfl, rfl, 21844 + y, rfl, by omega, by omega, fun H4 K4 => ⟨_, rfl, ?_⟩⟩⟩
        refine iteDF (p := False) (fun z => z) ?_
        exact ⟨rfl, P3.keep0 K4⟩
      · exact ⟨rfl, P2⟩
    rintro σ H2 ⟨rfl, P2⟩
    refine ⟨_, rfl, p, q, ns, 40, 9, rfl, by decide, by decide, P2, fun m H3 m0 m1 P3 K3 => ⟨m, rfl, by omega, by omega, fun L nL => ?_⟩⟩
    have nLp := P3.nep nL
    have nLq := P3.neq nL
    refine lc_range (n := m.toNat) (fun i H' => ∃ rs : List Int, H' L = some (.lst (rs.map V.int)) ∧ rs.length = i ∧ VOk rs ∧ Pool H' p q ns 40) ⟨[], upd_same, rfl, (fun _ z => by cases z), P3.new nL⟩ ?_ ?_
    · rintro i H' hi ⟨rs, hD, hlen, hv, P4⟩
      refine ⟨rfl, yes_then ⟨_, rfl, p, q, ns, 40, rfl, P4, fun z H5 z0 z1 P5 K5 => ?_⟩⟩
      have g := K5 _ _ hD (by simpa using nLp)
      exact ⟨_, g, by rw [List.length_map]; exact smallL (by omega), rs ++ [z], by rw [List.map_append]; exact upd_same, by simp [hlen], vok_snoc hv z0 z1, P5.own nLp nLq⟩
    rintro H4 ⟨cells, hL4, hcl, hcv, P4⟩
    refine ⟨_, _, rfl, .inl ⟨SqL.of hL4, fun cl ncl => ?_⟩⟩
    have P5 := P4.new (o := .tup (cells.map V.int)) ncl
    have hce : upd H4 cl (.tup (cells.map V.int)) cl = some (.tup (cells.map V.int)) := upd_same
    clear hL4 K3
    generalize upd H4 cl (.tup (cells.map V.int)) = H5 at *
    have hk : ((cells.map V.int).length : Int) = (cells.length : Int) := by rw [List.length_map]
    refine ⟨_, rfl, _, rfl, cl, _, rfl, .inr (SqT.of hce), p, q, ns, 40, _, 0, true, rfl, P5, by omega, by omega, by decide, by decide, by decide, fun c0 cs0 b0 H6 nc0 hc0 hnm0 hne0 hlen0 P6 K6 => ?_⟩
    have hce6 := P5.tkb K6 _ _ hce
    have np0 := P5.nep nc0
    refine ⟨fun σ H' => ∃ (c : Addr) (cs : List In2) (b : Int) (o4 : Option V), σ = [some (.ref a), some (.ref p), some (.ref cl), some (.ref c), o4, none, none, none, none, none, none, none, none, none, none, none, none, none, none] ∧ My.CL H' c cs ∧ NmOk cs ∧ cs ≠ [] ∧ cs.length ≤ 20250 ∧ Pool H' p q ns b ∧ c ≠ p ∧ H' cl = some (.tup (cells.map V.int)), ?_, ?_⟩
    · refine ⟨_, rfl, p, q, ns, b0, 6, rfl, by decide, by decide, P6, fun y H7 y0 y1 P7 K7 => ⟨rfl, _, rfl, iteD (fun _ => ?_) (fun _ => ⟨c0, cs0, b0, _, rfl, hc0.keepP P6 K7 np0, hnm0, hne0, by omega, P7, np0, P6.tkb K7 _ _ hce6⟩)⟩⟩
      have hc7 := hc0.keepP P6 K7 np0
      have hce7 := P6.tkb K7 _ _ hce6
      refine ⟨_, rfl, p, q, ns, b0, 9, rfl, by decide, by decide, P7, fun x H8 x0 x1 P8 K8 => ⟨_, _, rfl, rfl, ?_⟩⟩
      have hc8 := hc7.keepP P7 K8 np0
      have hce8 := P7.tkb K8 _ _ hce7
      refine And.intro (by show 2 ≤ sizeLine; decide) <| fun t1 nt1 => And.intro (by show 1 ≤ sizeLine; decide) <| fun u1 nu1 => one3 nt1 nu1 fun hu1 ku1 => ?_
      refine ⟨_, rfl, repL hu1 (by omega) (by omega) (by rw [l1]; omega) fun r1 H9 nr1 hr1 kr1 => ?_⟩
      refine And.intro (by show 2 ≤ sizeLine; decide) <| fun t2 nt2 => And.intro (by show 1 ≤ sizeLine; decide) <| fun u2 nu2 => one3 nt2 nu2 fun hu2 ku2 => ?_
      refine ⟨_, rfl, _, _, rfl, rfl, repL hu2 (by omega) (by omega) (by rw [l1]; omega) fun r2 H10 nr2 hr2 kr2 => ?_⟩
      refine cat2 (hr1.keep0 (ku2.trans kr2)) hr2 (by rw [len_rep, len_rep, l1, l1]; omega) fun r3 H11 nr3 hr3 kr3 => ?_
      refine And.intro (by show 2 ≤ sizeLine; decide) <| fun t4 nt4 => And.intro (by show 1 ≤ sizeLine; decide) <| fun u4 nu4 => one3 nt4 nu4 fun hu4 ku4 => ?_
      refine cat2 (hr3.keep0 ku4) hu4 (by rw [la, len_rep, len_rep, l1, l1, l1]; omega) fun r5 H12 nr5 hr5 kr5 => ?_
      have kk := ((ku1.trans kr1).trans (ku2.trans kr2)).trans (kr3.trans (ku4.trans kr5))
      refine ⟨_, rfl, cat2 hr5 (hc8.keep0 kk) (by rw [la, la, len_rep, len_rep, l1, l1, l1]; omega) fun r6 H13 nr6 hr6 kr6 => ?_⟩
      refine ⟨r6, _, b0, _, rfl, hr6, (((((NmOk.one (by decide +kernel)).rep _).app ((NmOk.one (by decide +kernel)).rep _)).app (.one (by decide +kernel))).app hnm0), fun z => hne0 (List.append_eq_nil_iff.mp z).2, ?_, P8.keep0 (kk.trans kr6), (P8.keep0 kk).nep nr6, (kk.trans kr6) _ _ hce8 (by simp)⟩
      rw [la, la, la, len_rep, len_rep, l1, l1, l1]; omega
    clear hc0 hce6 hce P6
    rintro σ H7 ⟨c1, cs1, b1, o4, rfl, hc1, hnm1, hne1, hlen1, P7, np1, hce7⟩
    refine ⟨fun σ H' => ∃ (c : Addr) (cs : List In2) (b : Int), σ = [some (.ref a), some (.ref p), some (.ref cl), some (.ref c), o4, none, none, none, none, none, none, none, none, none, none, none, none, none, none] ∧ My.CL H' c cs ∧ NmOk cs ∧ cs.length ≤ 20260 ∧ Pool H' p q ns b ∧ c ≠ p ∧ H' cl = some (.tup (cells.map V.int)), ?_, ?_⟩
    · refine ⟨_, rfl, p, q, ns, b1, 2, rfl, by decide, by decide, P7, fun y H8 y0 y1 P8 K8 => ⟨rfl, _, rfl, iteD (fun _ => ?_) (fun _ => ⟨c1, cs1, b1, rfl, hc1.keepP P7 K8 np1, hnm1, by omega, P8, np1, P7.tkb K8 _ _ hce7⟩)⟩⟩
      refine ⟨_, rfl, _, rfl, p, q, ns, b1, c1, cs1, rfl, P8, hc1.keepP P7 K8 np1, hne1, hnm1, by omega, fun l cs' H9 nl hl' hnm' hlen' P9 K9 => ?_⟩
      exact ⟨l, cs', b1, rfl, hl', hnm', by omega, P9, P8.nep nl, P8.tkb K9 _ _ (P7.tkb K8 _ _ hce7)⟩
    clear hc1 hce7 P7
    rintro σ H8 ⟨c, cs, b, rfl, hc, hnm, hlen, P8, npc, hce8⟩
    refine ⟨_, rfl, p, q, ns, b, 9, rfl, by decide, by decide, P8, fun mm H9 mm0 mm1 P9 K9 => ⟨mm, rfl, by omega, by omega, fun R nR => ?_⟩⟩
    have nRp := P9.nep nR
    have nRq := P9.neq nR
    refine lc_range (n := mm.toNat) (fun i H' => ∃ rs : List Int, H' R = some (.lst (rs.map V.int)) ∧ rs.length = i ∧ Pool H' p q ns b ∧ Keep [p] H9 H') ⟨[], upd_same, rfl, P9.new nR, Keep.new nR⟩ ?_ ?_
    · rintro i H' hi ⟨rs, hD, hlen, P10, K10⟩
      refine ⟨rfl, yes_then ⟨_, rfl, p, q, ns, b, rfl, P10, fun z H11 z0 z1 P11 K11 => ?_⟩⟩
      have g := K11 _ _ hD (by simpa using nRp)
      exact ⟨_, g, by rw [List.length_map]; exact smallL (by omega), rs ++ [z], by rw [List.map_append]; exact upd_same, by simp [hlen], P11.own nRp nRq, (K10.trans K11).then_own nR⟩
    rintro H10 ⟨rs, hR10, hrl, P10, K10⟩
    have hc10 := (hc.keepP P8 K9 npc).keepP P9 K10 npc
    have hce10 := P9.tkb K10 _ _ (P8.tkb K9 _ _ hce8)
    clear hc hce8 K9 K10 P8 P9
    obtain ⟨xs, hx, px⟩ := id hc10
    have hl := px.len
    refine ⟨_, rfl, c, _, rfl, .inl (SqL.of hx), fun l nl => ?_⟩
    have k1 : Keep [] H10 (upd H10 l (.lst xs)) := Keep.new nl
    have hl1 : My.CL (upd H10 l (.lst xs)) l cs := ⟨xs, upd_same, px.tk (TK.new nl)⟩
    have hx1 := k1 _ _ hx (by simp)
    generalize upd H10 l (.lst xs) = H11 at *
    refine ⟨_, rfl, cl, _, rfl, .inr (SqT.of (k1 _ _ hce10 (by simp))), ?_⟩
    obtain ⟨xl, hxl, pxl⟩ := id hl1
    refine ⟨l, cs, _, 0, true, rfl, ⟨xl, .inl hxl, pxl⟩, hnm, by omega, fun r t H12 hr nt ht K12 => ?_⟩
    have k12 := k1.trans K12
    have hc12 := hc10.keep0 k12
    have hce12 := k12 _ _ hce10 (by simp)
    obtain ⟨x12, hx12, px12⟩ := id hc12
    refine ⟨_, rfl, _, rfl, _, rfl, cl, _, rfl, .inr (SqT.of hce12), c, x12, cs, _, 0, true, rfl, hx12, px12, hnm, by omega, fun r2 t2 H13 hr2 nt2 ht2 K13 => ?_⟩
    rw [hr2.one hr] at ht2
    have ht13 := K13 _ _ ht (by simp)
    refine ⟨_, _, rfl, sameRes (n := 3) ht13 ht2, _, rfl, iteDF (p := False) (fun z => z) ?_⟩
    have k13 := k12.trans K13
    have hc13 := hc10.keep0 k13
    have hce13 := k13 _ _ hce10 (by simp)
    have hR13 := k13 _ _ hR10 (by simp)
    have P13 := P10.keep0 k13
    clear hc12 hce12 hx12 px12 hxl pxl hx px hl ht2 hc10 hce10 hR10 P10 k12 k1 K12 K13 k13 hx1 hl1 nl nt nt2 ht nRq nR
    obtain ⟨x13, hx13, px13⟩ := id hc13
    rw [hk] at hr
    refine ⟨_, rfl, _, rfl, c, _, rfl, .inl (SqL.of hx13), fun l2 nl2 M dM nM ndM neM => ?_⟩
    have k14 : Keep [] H13 (upd H13 l2 (.lst x13)) := Keep.new nl2
    have hl2 : upd H13 l2 (.lst x13) l2 = some (.lst x13) := upd_same
    generalize upd H13 l2 (.lst x13) = H14 at *
    refine ⟨M, dM, cl, l2, 1, _, _, rfl, upd_same, made_at nM ndM (k14 _ _ hce13 (by simp)), made_at nM ndM hl2, fun cd H15 ncd hM hcd KM => ⟨rfl, ?_⟩⟩
    have k15 := k14.trans (keep_made nM ndM KM)
    refine ⟨M, dM, cl, cd, .int 1, cells.map V.int, cs, rfl, hM, k15 _ _ hce13 (by simp), ⟨x13, .inr hcd, px13.tk k15.tk⟩, hnm, by omega, fun st H16 hne hup K16 => ?_, fun i d H16 bad nd hd K16 => ?_⟩
    rotate_left
    · have e : r = .inl i := hr.one (by rw [← hk]; exact bad)
      subst e
      refine ⟨true, T.x_BadCode, fun _ a ha => ?_, fun q => nomatch q⟩
      refine ⟨_, rfl, rfl, rfl, d, _, _, rfl, hd, rfl, ?_⟩
      refine ⟨_, rfl, _, _, d, _, true, rfl, rfl, rfl, T.e_BadCode, hd, T.kit1, ?_⟩
      refine And.intro (by show 3 ≤ sizeLine; decide) <| fun t3 nt3 => ?_
      have ht17 := (k15.trans (K16.then_new (o := .tup [.str "refused", .int (i : Int), .bl true]) nt3)) _ _ ht13 (by simp)
      refine ⟨_, rfl, _, rfl, _, _, rfl, sameRes (n := 3) (r := .inl i) upd_same ht17, _, rfl, iteDF (p := False) (fun z => z) ?_⟩
      refine ⟨_, rfl, _, _, _, _, rfl, rfl, SqT.of ht17, rfl, rfl, _, rfl, iteNT (ness (show ("refused" : Str) ≠ "passed" by decide +kernel)) ?_⟩
      exact k _
    rw [hk] at hup
    have e : r = .inr st.2 := hr.one ⟨hne, st, hup, rfl⟩
    subst e
    refine And.intro (by show 2 ≤ sizeLine; decide) <| fun t3 nt3 => ?_
    have k17 := k15.trans (K16.then_new (o := .tup [.str "passed", .int st.2]) nt3)
    have ht17 := k17 _ _ ht13 (by simp)
    refine ⟨_, rfl, _, rfl, _, _, rfl, sameRes (n := 3) (r := .inr st.2) upd_same ht17, _, rfl, iteDF (p := False) (fun z => z) ?_⟩
    refine ⟨_, rfl, _, _, _, _, rfl, rfl, SqT.of ht17, rfl, rfl, _, rfl, iteNF rfl ?_⟩
    have hce17 := k17 _ _ hce13 (by simp)
    have hR17 := k17 _ _ hR13 (by simp)
    have P17 := P13.keep0 k17
    have hc17 := hc13.keep0 k17
    generalize upd H16 t3 (.tup [.str "passed", .int st.2]) = H17 at *
    clear k17 nt3 K16 hM hcd KM ncd k15 nM ndM neM k14 hl2 hx13 px13 ht13 hce13 hR13 P13 hc13 hr
    refine ⟨_, rfl, p, q, ns, b, rfl, P17, fun vwa vs es H18 nvw hvw hE hEo hene hel P18 K18 => ?_⟩
    refine ⟨_, rfl, p, q, ns, b, 20, rfl, by decide, by decide, P18, fun u0 H19 u0' u1' P19 K19 => ⟨_, _, rfl, rfl, ?_⟩⟩
    have hvw19 := P18.tkb K19 _ _ hvw
    have hE19 := hE.tk (P18.tkb K19)
    refine ⟨_, rfl, _, rfl, p, q, ns, b, vwa, vs, es, rfl, P19, hvw19, P17.nep nvw, hE19, hEo, hene, fun count H20 P20 K20 => ?_⟩
    have tk20 := (P17.tkb K18).trans ((P18.tkb K19).trans (P19.tkb K20))
    have hce20 := tk20 _ _ hce17
    have ht20 := tk20 _ _ ht17
    have hR20 := K20 _ _ (K19 _ _ (K18 _ _ hR17 (by simpa using nRp)) (by simpa using nRp)) (by simpa using nRp)
    have hc20 := ((hc17.keepP P17 K18 npc).keepP P18 K19 npc).keepP P19 K20 npc
    have hvw20 := P19.tkb K20 _ _ hvw19
    have hE20 := hE19.tk (P19.tkb K20)
    clear hvw hE hvw19 hE19 tk20 hce17 ht17 hR17 hc17 K18 K19 K20 P17 P18 P19 P20
    obtain ⟨x20, hx20, px20⟩ := id hc20
    refine ⟨_, rfl, _, rfl, _, rfl, c, _, rfl, .inl (SqL.of hx20), fun l3 nl3 M dM nM ndM neM => ?_⟩
    have k21 : Keep [] H20 (upd H20 l3 (.lst x20)) := Keep.new nl3
    have hl3 : upd H20 l3 (.lst x20) l3 = some (.lst x20) := upd_same
    generalize upd H20 l3 (.lst x20) = H21 at *
    refine ⟨M, dM, cl, l3, 1 + u0, _, _, rfl, upd_same, made_at nM ndM (k21 _ _ hce20 (by simp)), made_at nM ndM hl3, fun cd H22 ncd hM hcd KM => ⟨rfl, ?_⟩⟩
    have k22 := k21.trans (keep_made nM ndM KM)
    clear KM nM ndM neM nl3 hl3 k21
    have hce22 := k22 _ _ hce20 (by simp)
    have hR22 := k22 _ _ hR20 (by simp)
    have hvw22 := k22 _ _ hvw20 (by simp)
    have ht22 := k22 _ _ ht20 (by simp)
    have hx22 := k22 _ _ hx20 (by simp)
    have px22 := px20.tk k22.tk
    have hE22 := hE20.tk k22.tk
    clear hce20 hR20 hvw20 ht20 hx20 px20 hE20 k22 hc20
    -- the state
    refine ⟨_, rfl, And.intro (by show 1 ≤ sizeLine; decide) <| fun l4 nl4 => ?_⟩
    have k23 : Keep [] H22 (upd H22 l4 (.lst [.int 65536])) := Keep.new nl4
    have hl4 : upd H22 l4 (.lst [.int 65536]) l4 = some (.lst [.int 65536]) := upd_same
    generalize upd H22 l4 (.lst [.int 65536]) = H23 at *
    refine ⟨_, rfl, cl, _, rfl, .inr (SqT.of (k23 _ _ hce22 (by simp))), l4, _, [.int 65536], rfl, rfl, hl4, by omega, by omega, ?_, fun sz nsz => ?_⟩
    · exact smallM (by rw [hk, Int.toNat_natCast]; show 1 * cells.length ≤ 1000000; omega)
    rw [List.flatten_replicate_singleton, hk, Int.toNat_natCast]
    have k24 : Keep [] H23 (upd H23 sz (.lst (List.replicate cells.length (.int 65536)))) := Keep.new nsz
    have hsz : upd H23 sz (.lst (List.replicate cells.length (V.int 65536))) sz = some (.lst ((List.replicate cells.length (65536 : Int)).map V.int)) := by rw [List.map_replicate]; exact upd_same
    generalize upd H23 sz (.lst (List.replicate cells.length (V.int 65536))) = H24 at *
    refine And.intro (by show 0 ≤ sizeLine; decide) <| fun an nan => ?_
    have k25 : Keep [] H24 (upd H24 an (.lst [])) := Keep.new nan
    have hsz25 := k25 _ _ hsz (by simp)
    generalize upd H24 an (.lst []) = H25 at *
    have k225 := (k23.trans k24).trans k25
    refine ⟨_, rfl, vwa, vs, es, rfl, k225 _ _ hvw22 (by simp), hE22.tk k225.tk, hEo, by omega, fun sn H26 nsn hsn K26 => ?_⟩
    have k226 := k225.trans K26
    have hsz26 := K26 _ _ hsz25 (by simp)
    have hR26 := k226 _ _ hR22 (by simp)
    have hR23 := k23 _ _ hR22 (by simp)
    refine ⟨_, rfl, _, rfl, cl, sz, an, sn, R, [], [], cells, nums es, rs, 1 + u0, rfl, k226 _ _ hce22 (by simp), hsz26, hsn, hR26, ne_of_none hsz25 nsn, (ne_of_none hR23 nsz).symm, (ne_of_none (k225 _ _ hR22 (by simp)) nsn).symm, fun d tb tx ch sh sk H27 nd ntb ntx nch nsk hA K27 => ?_⟩
    have k227 := k226.trans K27
    have hx27 := k227 _ _ hx22 (by simp)
    have px27 := px22.tk k227.tk
    have hx26 := k226 _ _ hx22 (by simp)
    have ndc : ∀ {y : Addr}, H26 y = none → c ≠ y := fun h => ne_of_none hx26 h
    have hl27 := px27.len
    have E0 : CEnv cs cells.length st.1 st.2 (nums es) rs := env_of hne hup (by omega) hEo hel (by omega)
    have lcs : (cs.length : Int) ≤ 20260 := by omega
    have hms : mu cs (mc0 cells (1 + u0) []) ≤ (1 + u0 + 1) * (x20.length : Int) := by rw [hl27]; exact mu_start E0.ne (by omega)
    have hmb : (1 + u0 + 1) * (x20.length : Int) ≤ 600000 := by
      rw [hl27]
      have : (1 + u0 + 1) * (cs.length : Int) ≤ 21 * 20260 := Int.mul_le_mul (by omega) lcs (by omega) (by omega)
      omega
    have I0 := iv0 E0 hcv rfl (show 0 ≤ 1 + u0 by omega)
    refine ⟨_, rfl, _, rfl, _, rfl, _, _, rfl, rfl, _, rfl, c, _, rfl, .inl (SqL.of hx27), _, _, rfl, rfl, .inl ⟨by omega, by omega⟩, ?_⟩
    refine ⟨d, tb, sz, an, sn, R, tx, ch, sh, sk, c, cs, cells.length, st.1, st.2, nums es, rs, mc0 cells (1 + u0) [], _, rfl, ⟨_, hx27, px27⟩, ndc nd, by simp only [List.mem_cons, List.not_mem_nil, or_false, not_or]; exact ⟨ndc ntb, ndc ntx, ndc nch, ndc nsk⟩, hA, rfl, I0, E0, rfl, hms, hmb, fun H28 mF N hi hB hhi hP hdn hns hsi hvs hvc hcl2 htkl N1 N2 KF => ?_⟩
    have k28 : Keep [] H26 H28 := fun y o h _ => KF _ _ (K27 _ _ h (by simp)) (by simp only [List.mem_cons, List.not_mem_nil, or_false, not_or]; exact ⟨ne_of_none h nd, ne_of_none h ntb, ne_of_none h ntx, ne_of_none h nch, ne_of_none h nsk⟩)
    have k228 := k226.trans k28
    have ht28 := k228 _ _ ht22 (by simp)
    refine ⟨_, rfl, _, _, rfl, rfl, _, rfl, iteDF (by omega) ?_⟩
    refine ⟨_, rfl, d, _, rfl, dg (k := .inr "highest") hB.hd rfl, _, rfl, _, _, _, _, rfl, rfl, SqT.of ht28, rfl, _, _, rfl, rfl, _, rfl, iteDF (by omega) ?_⟩
    refine ⟨_, rfl, _, rfl, And.intro (by show 3 ≤ sizeLine; decide) <| fun du0 ndu0 => ?_⟩
    have k29 : Keep [] H28 (upd H28 du0 (.tup [.int 0, .ref cl, .int (N : Int)])) := Keep.new ndu0
    have hdu0 : upd H28 du0 (.tup [.int 0, .ref cl, .int (N : Int)]) du0 = some (.tup [.int 0, .ref cl, .int (N : Int)]) := upd_same
    generalize upd H28 du0 (.tup [.int 0, .ref cl, .int (N : Int)]) = H29 at *
    have hB29 := hB.keep0 k29
    refine ⟨_, rfl, d, _, rfl, dg (k := .inr "left") hB29.hd rfl, _, _, rfl, rfl, _, rfl, iteD (fun hl => ?_) (fun hl => ?_)⟩
    · skip
      obtain ⟨x, hst⟩ : ∃ x, mF.st = [x] := by
        have hs0 : mF.silent = false := by
          cases e : mF.silent with
          | false => rfl
          | true => have := hsi e; omega
        have := (hns hs0).1
        match h : mF.st, this with
        | [x], _ => exact ⟨x, rfl⟩
      have hs0 : mF.silent = false := by
        cases e : mF.silent with
        | false => rfl
        | true => have := hsi e; omega
      have hx0 := hvs x (by rw [hst]; exact List.mem_singleton.mpr rfl)
      have hsk : H29 sk = some (.lst [.int x]) := by have := hB29.hsk; rw [hst] at this; exact this
      refine ⟨_, rfl, d, _, rfl, dg (k := .inr "stack") hB29.hd rfl, sk, _, rfl, .inl (SqL.of hsk), rfl, _, rfl, iteNF rfl ?_⟩
      refine ⟨_, rfl, d, _, rfl, dg (k := .inr "stack") hB29.hd rfl, _, _, _, _, rfl, rfl, SqL.of hsk, rfl, ?_⟩
      refine ⟨_, rfl, _, rfl, _, rfl, _, _, rfl, rfl, .inr ⟨_, rfl, _, _, rfl, rfl, .inl ⟨by omega, by omega⟩, ?_⟩⟩
      refine ⟨_, rfl, d, _, rfl, dg (k := .inr "table") hB29.hd rfl, tb, _, rfl, .inl ⟨SqL.of hB29.htb, fun tt ntt => ?_⟩⟩
      have k30 : Keep [] H29 (upd H29 tt (.tup (mF.cells.map V.int))) := Keep.new ntt
      have htt : upd H29 tt (.tup (mF.cells.map V.int)) tt = some (.tup (mF.cells.map V.int)) := upd_same
      generalize upd H29 tt (.tup (mF.cells.map V.int)) = H30 at *
      refine ⟨_, rfl, And.intro (by show 3 ≤ sizeLine; decide) <| fun du1 ndu1 => ?_⟩
      have k31 : Keep [] H30 (upd H30 du1 (.tup [.int (x * (if (decide (x < count)) = true then 1 else 0)), .ref tt, .int (N : Int)])) := Keep.new ndu1
      have hdu1 : upd H30 du1 (.tup [.int (x * (if (decide (x < count)) = true then 1 else 0)), .ref tt, .int (N : Int)]) du1 = some (.tup [.int (x * (if (decide (x < count)) = true then 1 else 0)), .ref tt, .int (N : Int)]) := upd_same
      have htt1 := k31 _ _ htt (by simp)
      have KD : Keep [] H26 (upd H30 du1 (.tup [.int (x * (if (decide (x < count)) = true then 1 else 0)), .ref tt, .int (N : Int)])) := ((k28.trans k29).trans k30).trans k31
      generalize hH31 : upd H30 du1 (.tup [.int (x * (if (decide (x < count)) = true then 1 else 0)), .ref tt, .int (N : Int)]) = H31 at *
      have hBD := (hB29.keep0 k30).keep0 k31
      have kRT := k226.trans KD
      refine ⟨_, rfl, R, _, rfl, .inl (SqL.of (KD _ _ hR26 (by simp))), fun l5 nl5 tp dt ntp ndt ne5 => ⟨tp, dt, l5, rs, rfl, SqL.of (made_at ntp ndt upd_same), upd_same, fun rx tx2 HT nrx ntx2 KT TA => ⟨rfl, ?_⟩⟩⟩
      have kl5 : Keep [] H31 (upd H31 l5 (.lst (rs.map V.int))) := Keep.new nl5
      have kT : Keep [] H31 HT := kl5.trans (keep_made ntp ndt KT)
      have ntx2' : H31 tx2 = none := kl5.free ((Keep.made (o := .ins C_Tape dt []) ntp ndt).free ntx2)
      have kDT := kRT.trans kT
      refine ⟨_, rfl, _, rfl, _, rfl, _, rfl, _, rfl, M, cl, vwa, tp, rx, tx2, cd, 1 + u0, nsK cells.length, cs.map conv, cells, es, rs, [], count, N, mF, rfl, ⟨⟨cl, cells, ⟨dM, kDT _ _ hM (by simp)⟩, kDT _ _ hce22 (by simp), _, kDT _ _ hcd (by simp), ml_of (px22.tk kDT.tk) E0.fit⟩, kDT _ _ hce22 (by simp), ⟨_, kDT _ _ hvw22 (by simp), hE22.tk kDT.tk⟩, hEo, by omega, TA⟩, hP, hdn, fun z e => by have := (hns z).1; rw [e] at this; simp at this, fun t5 ct H5 nt5 ht5 hct5 TA5 K5 => ?_⟩
      have kD5 : Keep [] H31 H5 := fun y o h _ => K5 _ _ (kT _ _ h (by simp)) (by have := ne_of_none h ntx2'; simpa using this)
      have eX : (if mF.silent = true then 0 else if mF.st.headD 0 ≥ count then 0 else mF.st.headD 0) = x * (if (decide (x < count)) = true then 1 else 0) := by
        rw [hs0, hst, if_neg (by decide)]
        show (if x ≥ count then 0 else x) = _
        by_cases hxc : x < count
        · rw [if_neg (by omega), decide_eq_true hxc, if_pos rfl, Int.mul_one]
        · rw [if_pos (by omega), decide_eq_false hxc, if_neg (by decide), Int.mul_zero]
      have eC : (if mF.silent = true then cells else mF.cells) = mF.cells := by rw [hs0]; exact if_neg (by decide)
      rw [eX] at ht5
      rw [eC] at hct5
      refine ⟨_, rfl, _, _, rfl, sameT (n := 4) (.inl ht5) (.inl (kD5 _ _ hdu1 (by simp))) (.cons (sameV_atom (.inr (.inl ⟨_, rfl⟩))) (.cons (same_intsT (n := 2) hct5 (kD5 _ _ htt1 (by simp)) (by omega)) (.cons (sameV_atom (.inr (.inl ⟨_, rfl⟩))) .nil))) (by simp), _, rfl, iteT ?_⟩
      obtain ⟨dT, oT⟩ := TA5.o
      obtain ⟨ys, hys, hpl⟩ := TA5.t
      have hB5 := hBD.keep0 kD5
      obtain ⟨zs, hzs, hpz⟩ := hB5.htx
      exact ⟨_, rfl, tp, C_Tape, dT, _, _, rfl, oT, T.cl_Tape, T.a_Tape_taken, rfl, _, rfl, d, _, rfl, dg (k := .inr "taken") hB5.hd rfl, _, _, rfl, sameL (n := 4) hys hzs (same_pl (n := 2) hpl hpz) (by have := hpl.len; omega), k _⟩
    · skip
      have hs1 : mF.silent = true := by
        cases e : mF.silent with
        | true => rfl
        | false => have := (hns e).2; omega
      have KD : Keep [] H26 H29 := k28.trans k29
      have hBD := hB29
      have kRT := k226.trans KD
      refine ⟨_, rfl, R, _, rfl, .inl (SqL.of (KD _ _ hR26 (by simp))), fun l5 nl5 tp dt ntp ndt ne5 => ⟨tp, dt, l5, rs, rfl, SqL.of (made_at ntp ndt upd_same), upd_same, fun rx tx2 HT nrx ntx2 KT TA => ⟨rfl, ?_⟩⟩⟩
      have kl5 : Keep [] H29 (upd H29 l5 (.lst (rs.map V.int))) := Keep.new nl5
      have kT : Keep [] H29 HT := kl5.trans (keep_made ntp ndt KT)
      have ntx2' : H29 tx2 = none := kl5.free ((Keep.made (o := .ins C_Tape dt []) ntp ndt).free ntx2)
      have kDT := kRT.trans kT
      refine ⟨_, rfl, _, rfl, _, rfl, _, rfl, _, rfl, M, cl, vwa, tp, rx, tx2, cd, 1 + u0, nsK cells.length, cs.map conv, cells, es, rs, [], count, N, mF, rfl, ⟨⟨cl, cells, ⟨dM, kDT _ _ hM (by simp)⟩, kDT _ _ hce22 (by simp), _, kDT _ _ hcd (by simp), ml_of (px22.tk kDT.tk) E0.fit⟩, kDT _ _ hce22 (by simp), ⟨_, kDT _ _ hvw22 (by simp), hE22.tk kDT.tk⟩, hEo, by omega, TA⟩, hP, hdn, fun z e => by have := (hns z).1; rw [e] at this; simp at this, fun t5 ct H5 nt5 ht5 hct5 TA5 K5 => ?_⟩
      have kD5 : Keep [] H29 H5 := fun y o h _ => K5 _ _ (kT _ _ h (by simp)) (by have := ne_of_none h ntx2'; simpa using this)
      have eX : (if mF.silent = true then 0 else if mF.st.headD 0 ≥ count then 0 else mF.st.headD 0) = 0 := by rw [hs1, if_pos rfl]
      have eC : (if mF.silent = true then cells else mF.cells) = cells := by rw [hs1, if_pos rfl]
      rw [eX] at ht5
      rw [eC] at hct5
      refine ⟨_, rfl, _, _, rfl, sameT (n := 4) (.inl ht5) (.inl (kD5 _ _ hdu0 (by simp))) (.cons (sameV_atom (.inr (.inl ⟨_, rfl⟩))) (.cons (same_intsT (n := 2) hct5 (kD5 _ _ (KD _ _ (k226 _ _ hce22 (by simp)) (by simp)) (by simp)) (by omega)) (.cons (sameV_atom (.inr (.inl ⟨_, rfl⟩))) .nil))) (by simp), _, rfl, iteT ?_⟩
      obtain ⟨dT, oT⟩ := TA5.o
      obtain ⟨ys, hys, hpl⟩ := TA5.t
      have hB5 := hBD.keep0 kD5
      obtain ⟨zs, hzs, hpz⟩ := hB5.htx
      exact ⟨_, rfl, tp, C_Tape, dT, _, _, rfl, oT, T.cl_Tape, T.a_Tape_taken, rfl, _, rfl, d, _, rfl, dg (k := .inr "taken") hB5.hd rfl, _, _, rfl, sameL (n := 4) hys hzs (same_pl (n := 2) hpl hpz) (by have := hpl.len; omega), k _⟩
end

end Th
namespace Th
section
variable {P : Program} {w : World} {K : PySem.W.Frag} {mg : Str → Option Value} {base : Heap} {C_Tape : Addr} {C_Thinker : Addr} {C_Brain : Addr} {C_Mind : Addr} {C_Frame : Addr} {C_Thinking : Addr} {C_Checker : Addr} {C_GameError : Addr} {C_BadCode : Addr} {f_BadCode___init : Addr} {T_EVENTS : Addr} {T_SIGNS : Addr} {T_ROUND_NAMES : Addr} {T_BRAIN_NAMES : Addr} {T_EFFECTS : Addr}
theorem ok_view {f : Addr} {fd : FuncData} (D : C8.Def K mg "_law_view" s_law_view f fd) (b : Binds K fd ["pool"] []) (T : Txt K mg C_Tape C_Thinker C_Brain C_Mind C_Frame C_Thinking C_Checker C_GameError C_BadCode T_EVENTS T_SIGNS T_ROUND_NAMES T_BRAIN_NAMES T_EFFECTS) (c_law_draw : C8.Cal P w K mg base 1 "_law_draw" sp_law_draw []) (c_law_few : C8.Cal P w K mg base 2 "_law_few" sp_law_few []) (c_law_number : C8.Cal P w K mg base 2 "_law_number" sp_law_number []) : C8.Cal P w K mg base 3 "_law_view" sp_view [] := by
  refine cal0 D b .nil sc_law_view (fun vs H Q E h => ?_) (fun cdv A outer s H vs Q E hr h => ?_)
  · obtain ⟨p, q, ns, bud, rfl, _⟩ := h
    rfl
  · obtain ⟨p, q, ns, bud, rfl, hP, k⟩ := h
    refine ⟨_, (pss_cons (ps_set (i := 1) sc_law_view.nd rfl (by first | exact Or.inl rfl | exact Or.inr rfl) (pe_lst (pa_cons (pe_tup (pa_cons pe_str (pa_cons pe_int pa_nil))) pa_nil)))
(pss_cons (ps_for PassesOwn.never rfl (pi_range1 (by rfl) T.n_range (pa_cons (pe_c c_law_few hr (by first | exact Nat.le_refl _ | decide | omega) rfl (pa_cons (pv 0) (pa_cons pe_int pa_nil))) pa_nil)) (pg_name (i := 2) sc_law_view.nd rfl (by first | exact Or.inl rfl | exact Or.inr rfl))
  (pss_cons (ps_set (i := 3) sc_law_view.nd rfl (by first | exact Or.inl rfl | exact Or.inr rfl) (pe_c c_law_draw hr (by first | exact Nat.le_refl _ | decide | omega) rfl (pa_cons (pv 0) (pa_cons pe_int pa_nil))))
  (pss_one (ps_if (pt_cmpR op_eq (pv 3) pe_int (nomark _))
    (pss_one (ps_expr (pe_bm PySem.F.plainAttrs_list PySem.F.slot_list_append PySem.F.type_list_append mt_append (pv 1) (pa_cons (pe_tup (pa_cons pe_str (pa_cons (pe_c c_law_draw hr (by first | exact Nat.le_refl _ | decide | omega) rfl (pa_cons (pv 0) (pa_cons pe_int pa_nil))) pa_nil))) pa_nil))))
    (pss_one (ps_if (pt_cmpR op_eq (pv 3) pe_int (nomark _))
      (pss_one (ps_expr (pe_bm PySem.F.plainAttrs_list PySem.F.slot_list_append PySem.F.type_list_append mt_append (pv 1) (pa_cons (pe_tup (pa_cons pe_str (pa_cons (pe_c c_law_number hr (by first | exact Nat.le_refl _ | decide | omega) rfl (pa_cons (pv 0) pa_nil)) pa_nil))) pa_nil))))
      (pss_cons (ps_set (i := 4) sc_law_view.nd rfl (by first | exact Or.inl rfl | exact Or.inr rfl) (pe_op op_add pe_int (pe_c c_law_draw hr (by first | exact Nat.le_refl _ | decide | omega) rfl (pa_cons (pv 0) (pa_cons pe_int pa_nil)))))
      (pss_one (ps_set (i := 1) sc_law_view.nd rfl (by first | exact Or.inl rfl | exact Or.inr rfl) (pe_op op_cat (pv 1) (pe_lst (pa_cons (pe_tup (pa_cons pe_str (pa_cons (pe_c c_law_draw hr (by first | exact Nat.le_refl _ | decide | omega) rfl (pa_cons (pv 0) (pa_cons pe_int pa_nil))) (pa_cons (pv 4) pa_nil)))) (pa_cons (pe_tup (pa_cons pe_str (pa_cons (pe_c c_law_draw hr (by first | exact Nat.le_refl _ | decide | omega) rfl (pa_cons (pv 0) (pa_cons (pv 4) pa_nil))) pa_nil))) pa_nil)))))))))))))
(pss_cut (ps_if (pt_cmpR op_eq (pe_c c_law_draw hr (by first | exact Nat.le_refl _ | decide | omega) rfl (pa_cons (pv 0) (pa_cons pe_int pa_nil))) pe_int (nomark _))
  (pss_one (ps_expr (pe_bm PySem.F.plainAttrs_list PySem.F.slot_list_append PySem.F.type_list_append mt_append (pv 1) (pa_cons (pe_tup (pa_cons pe_str (pa_cons (pe_c c_law_draw hr (by first | exact Nat.le_refl _ | decide | omega) rfl (pa_cons (pv 0) (pa_cons pe_int pa_nil))) (pa_cons (pe_op op_add pe_int (pe_c c_law_draw hr (by first | exact Nat.le_refl _ | decide | omega) rfl (pa_cons (pv 0) (pa_cons pe_int pa_nil)))) pa_nil)))) pa_nil))))
  pss_nil)
(pss_one (ps_ret (pe_callTy call_tuple_of (by rfl) T.n_tuple bo_tuple (pa_cons (pv 1) pa_nil))))))), ?_⟩
    refine And.intro (by show 2 ≤ sizeLine; decide) <| fun t0 nt0 => And.intro (by show 1 ≤ sizeLine; decide) <| fun l0 nl0 => ?_
    have k0 : Keep [] H (upd (upd H t0 (.tup [.str "round", .int 0])) l0 (.lst [.ref t0])) := (Keep.new nt0).then_new nl0
    have V0 : VL (upd (upd H t0 (.tup [.str "round", .int 0])) l0 (.lst [.ref t0])) l0 [⟨"round", 0, none⟩] := ⟨_, upd_same, .cons (Keep.new (W := []) nl0 _ _ upd_same (by simp)) .nil⟩
    have O0 : EvsOk [⟨"round", 0, none⟩] := evok2 (by decide +kernel) (by decide +kernel) (by decide) (by decide)
    have nl00 : H l0 = none := (Keep.new (W := []) nt0).free nl0
    generalize upd (upd H t0 (.tup [.str "round", .int 0])) l0 (.lst [.ref t0]) = H0 at *
    refine ⟨_, rfl, p, q, ns, bud, 12, rfl, by decide, by decide, hP.keep0 k0, fun m H2 m0' m1' P2 K1 => ?_⟩
    have K2 : Keep [p] H H2 := (k0.mono (by simp)).trans K1
    have nep : ∀ {a : Addr}, H a = none → a ≠ p := fun h => hP.nep h
    have neq : ∀ {a : Addr}, H a = none → a ≠ q := fun h => hP.neq h
    have V2 : VL H2 l0 [⟨"round", 0, none⟩] := V0.keep K1 ((hP.keep0 k0).tkb K1) (by simpa using nep nl00)
    refine ⟨m, rfl, by omega, by omega, for_range (lo := 0) (n := m.toNat) (fun i σ H' => ∃ (l : Addr) (es : List Ev) (o3 o4 o5 : Option V), σ = [some (.ref p), some (.ref l), o3, o4, o5] ∧ H l = none ∧ VL H' l es ∧ EvsOk es ∧ es ≠ [] ∧ es.length ≤ 1 + 2 * i ∧ Pool H' p q ns bud ∧ Keep [p] H H')
      ⟨l0, _, _, _, _, rfl, nl00, V2, O0, by simp, by simp, P2, K2⟩ ?_ ?_⟩
    · rintro i σ H3 hi ⟨l, es, o3, o4, o5, rfl, nl, V3, O3, ne3, len3, P3, K3⟩
      have lp := nep nl
      have lq := neq nl
      refine ⟨_, rfl, p, q, ns, bud, 4, rfl, by decide, by decide, P3, fun kd H4 _ _ P4 K4 => ?_⟩
      have V4 := V3.keep K4 (P3.tkb K4) (by simpa using lp)
      have K04 := K3.trans K4
      have push : ∀ {H5 : Hp} {e : Ev}, VL H5 l es → EvsOk [e] → Pool H5 p q ns bud → Keep [p] H H5 → ∀ t, H5 t = none → ∀ {p3 p4 p5 : Option V}, ∃ l1 ys y, V.ref l = .ref l1 ∧ [V.ref t] = [y] ∧ upd H5 t (.tup (evD e)) l1 = some (.lst ys) ∧ ys.length < sizeLine ∧
          ∃ (l : Addr) (es : List Ev) (o3 o4 o5 : Option V), ([some (.ref p), some (.ref l1), p3, p4, p5] : List (Option V)) = [some (.ref p), some (.ref l), o3, o4, o5] ∧ H l = none ∧ VL (upd (upd H5 t (.tup (evD e))) l1 (.lst (ys ++ [y]))) l es ∧ EvsOk es ∧ es ≠ [] ∧ es.length ≤ 1 + 2 * (i + 1) ∧ Pool (upd (upd H5 t (.tup (evD e))) l1 (.lst (ys ++ [y]))) p q ns bud ∧ Keep [p] H (upd (upd H5 t (.tup (evD e))) l1 (.lst (ys ++ [y]))) := by
        intro H5 e V5 Oe P5 K5 t nt p3 p4 p5
        obtain ⟨vs, h1, h2, h3⟩ := V5.push e nt
        exact ⟨l, vs, _, rfl, rfl, h1, smallL (by omega), l, _, _, _, _, rfl, nl, h3, O3.app Oe, by simp, by rw [List.length_append]; simp; omega, (P5.new nt).own lp lq, (K5.then_new nt).then_own nl⟩
      have ty : ∀ {H5 : Hp}, VL H5 l es → ∃ vs, SqL K H5 l vs := fun ⟨vs, h, _⟩ => ⟨vs, SqL.of h⟩
      refine ⟨_, rfl, rfl, _, rfl, iteD (fun _ => ?_) (fun _ => ⟨_, rfl, rfl, _, rfl, iteD (fun _ => ?_) (fun _ => ?_)⟩)⟩
      · refine ⟨_, rfl, .inl ⟨rfl, ty V4⟩, _, rfl, p, q, ns, bud, 8, rfl, by decide, by decide, P4, fun r H5 r0 r1 P5 K5 => And.intro (by show 2 ≤ sizeLine; decide) <| fun t nt => ?_⟩
        obtain ⟨l1, ys, y, z1, z2, z3, z4, z5⟩ := push (e := ⟨"round", r, none⟩) (V4.keep K5 (P4.tkb K5) (by simpa using lp)) (evok2 (by decide +kernel) (by decide +kernel) r0 (by omega)) P5 (K04.trans K5) t nt
        cases z1
        exact ⟨l, ys, y, rfl, z2, z3, z4, z5⟩
      · refine ⟨_, rfl, .inl ⟨rfl, ty V4⟩, _, rfl, p, q, ns, bud, rfl, P4, fun r H5 r0 r1 P5 K5 => And.intro (by show 2 ≤ sizeLine; decide) <| fun t nt => ?_⟩
        obtain ⟨l1, ys, y, z1, z2, z3, z4, z5⟩ := push (e := ⟨"told", r, none⟩) (V4.keep K5 (P4.tkb K5) (by simpa using lp)) (evok2 (by decide +kernel) (by decide +kernel) r0 (by omega)) P5 (K04.trans K5) t nt
        cases z1
        exact ⟨l, ys, y, rfl, z2, z3, z4, z5⟩
      · refine ⟨_, rfl, p, q, ns, bud, 8, rfl, by decide, by decide, P4, fun c H5 c0 c1 P5 K5 => ⟨_, _, rfl, rfl, ?_⟩⟩
        have V5 := V4.keep K5 (P4.tkb K5) (by simpa using lp)
        refine ⟨_, rfl, _, rfl, p, q, ns, bud, 24, rfl, by decide, by decide, P5, fun r H6 r0 r1 P6 K6 => ⟨_, rfl, And.intro (by show 3 ≤ sizeLine; decide) <| fun t1 n1 => ?_⟩⟩
        have V6 := V5.keep K6 (P5.tkb K6) (by simpa using lp)
        have k7 : Keep [] H6 (upd H6 t1 (.tup [.str "move", .int r, .int (1 + c)])) := Keep.new n1
        refine ⟨_, rfl, _, rfl, p, q, ns, bud, 1 + c, rfl, by omega, by omega, P6.new n1, fun r2 H8 s0 s1 P8 K8 => And.intro (by show 2 ≤ sizeLine; decide) <| fun t2 n2 => And.intro (by show 2 ≤ sizeLine; decide) <| fun u nu => ?_⟩
        have h1 : H8 t1 = some (.tup [.str "move", .int r, .int (1 + c)]) := K8 _ _ upd_same (by have := P6.nep n1; simpa using this)
        have V8 := (V6.keep k7 k7.tk (by simp)).keep K8 ((P6.new n1).tkb K8) (by simpa using lp)
        have k9 : Keep [] H8 (upd (upd H8 t2 (.tup [.str "did", .int r2])) u (.lst [.ref t1, .ref t2])) := (Keep.new n2).then_new nu
        obtain ⟨vs, g1, g2⟩ := V8.keep k9 k9.tk (by simp)
        have gl := g2.len
        have K08 := (((K04.trans K5).trans K6).trans (k7.mono (by simp))).trans K8
        refine ⟨l, u, _, _, rfl, rfl, g1, upd_same, smallM (by simp; omega), fun z nz => ?_⟩
        have E2 : Evs (upd (upd H8 t2 (.tup [.str "did", .int r2])) u (.lst [.ref t1, .ref t2])) [.ref t1, .ref t2] ([⟨"move", r, some (1 + c)⟩] ++ [⟨"did", r2, none⟩]) := .cons (k9 _ _ h1 (by simp)) (.cons (Keep.new (W := []) nu _ _ upd_same (by simp)) .nil)
        have kk := K08.trans ((k9.then_new (o := .lst (vs ++ [.ref t1, .ref t2])) nz).mono (by simp))
        refine ⟨z, _, _, _, _, rfl, P8.free K08 (k9.free nz), ⟨_, upd_same, (g2.app E2).tk (TK.new nz)⟩, O3.app ((evok3 (by decide +kernel) r0 (by omega) (by omega) (by omega)).app (evok2 (by decide +kernel) (by decide +kernel) s0 (by omega))), by simp, by rw [List.length_append]; simp; omega, (P8.keep0 k9).new nz, kk⟩
    · rintro σ H3 ⟨l, es, o3, o4, o5, rfl, nl, V3, O3, ne3, len3, P3, K3⟩
      have lp := nep nl
      have lq := neq nl
      refine ⟨fun σ H' => ∃ (es : List Ev), σ = [some (.ref p), some (.ref l), o3, o4, o5] ∧ VL H' l es ∧ EvsOk es ∧ es ≠ [] ∧ es.length ≤ 200 ∧ Pool H' p q ns bud ∧ Keep [p] H H', ?_, ?_⟩
      · refine ⟨_, rfl, p, q, ns, bud, 2, rfl, by decide, by decide, P3, fun r H4 _ _ P4 K4 => ⟨rfl, _, rfl, iteD (fun _ => ?_) (fun _ => ⟨es, rfl, V3.keep K4 (P3.tkb K4) (by simpa using lp), O3, ne3, by omega, P4, K3.trans K4⟩)⟩⟩
        have V4 := V3.keep K4 (P3.tkb K4) (by simpa using lp)
        obtain ⟨vs4, hv4, _⟩ := id V4
        refine ⟨_, rfl, .inl ⟨rfl, _, SqL.of hv4⟩, _, rfl, p, q, ns, bud, 24, rfl, by decide, by decide, P4, fun r1 H5 r0 r1' P5 K5 => ?_⟩
        have V5 := V4.keep K5 (P4.tkb K5) (by simpa using lp)
        refine ⟨_, rfl, p, q, ns, bud, 8, rfl, by decide, by decide, P5, fun c H6 c0 c1 P6 K6 => ⟨_, _, rfl, rfl, And.intro (by show 3 ≤ sizeLine; decide) <| fun t nt => ?_⟩⟩
        have V6 := V5.keep K6 (P5.tkb K6) (by simpa using lp)
        obtain ⟨e, he⟩ : ∃ e : Ev, e = ⟨"move", r1, some (1 + c)⟩ := ⟨_, rfl⟩
        obtain ⟨vs, h1, h2, h3⟩ := V6.push e nt
        have hev : evD e = [V.str "move", V.int r1, V.int (1 + c)] := by rw [he]; rfl
        rw [hev] at h1 h3
        refine ⟨l, vs, _, rfl, rfl, h1, smallL (by omega), es ++ [e], rfl, h3, ?_⟩
        rw [he]
        exact ⟨ O3.app (evok3 (by decide +kernel) r0 (by omega) (by omega) (by omega)), by simp, by rw [List.length_append]; simp; omega, (P6.new nt).own lp lq, ((((K3.trans K4).trans K5).trans K6).then_new nt).then_own nl⟩
      rintro σ H4 ⟨es4, rfl, ⟨vs, g1, g2⟩, O4, ne4, len4, P4, K4⟩
      exact ⟨_, rfl, _, _, rfl, .inl ⟨SqL.of g1, fun t nt => k t _ es4 _ (P4.free K4 nt) upd_same (g2.tk (TK.new nt)) O4 ne4 len4 (P4.new nt) (K4.then_new nt)⟩⟩
end

end Th
theorem allNm_or (n : Str) (h : n ∈ allNm) : n = "push" ∨ n = "load" ∨ n = "store" ∨ n = "sign" ∨ n = "jump" ∨ n = "skip" ∨ n = "lot" ∨ n = "ask" ∨ n = "show" ∨ n = "pay" ∨ n = "take" ∨ n = "view" ∨ n = "long" ∨ n = "unit" ∨ n = "back" ∨ n = "end" := by
  have : ∀ n ∈ allNm, n = "push" ∨ n = "load" ∨ n = "store" ∨ n = "sign" ∨ n = "jump" ∨ n = "skip" ∨ n = "lot" ∨ n = "ask" ∨ n = "show" ∨ n = "pay" ∨ n = "take" ∨ n = "view" ∨ n = "long" ∨ n = "unit" ∨ n = "back" ∨ n = "end" := by decide +kernel
  exact this n h
theorem effOk {K : PySem.W.Frag} {w : World} {TE : Addr} {es : Array DictEntry} {m : Nat} (hl : K.lookup TE = some ⟨.type "dict", none, .dict es m, #[]⟩) (hk : PySem.W.KeysLit w.params es.toList)
    (h : ∀ n ∈ allNm, ∃ tp, PySem.W.nsIn K TE n = some (some (.ref tp)) ∧ ∃ (t u : Tok) (k : Nat) (sl : Array (Option Value)), K.lookup tp = some ⟨.type "tuple", none, .seq #[.int (eff n).1 t, .int (eff n).2 u] k, sl⟩) : EffOk K w TE := fun n hn => by
  obtain ⟨tp, g, t, u, k, sl, l⟩ := h n hn
  exact ⟨tp, ⟨_, _, _, hl, hk, g, rfl⟩, fun H => .inr ⟨_, _, _, l, rfl, rfl, by show 2 ≤ sizeLine; decide, .cons ⟨_, rfl⟩ (.cons ⟨_, rfl⟩ .nil)⟩⟩

abbrev sp_law (K : PySem.W.Frag) : Sp := Th.sp_law K

theorem all_mk {l : PySem.W.OpenLaw} {w : World} {K : PySem.W.Frag} {h : Heap} {mg : Str → Option Value} {fa : Addr} (X : K.In h) (G : h.Ns mainGlobals mg) (hfa : mg "law" = some (.ref fa))
    {f_view_numbers : Addr} {od_view_numbers an_view_numbers : Option Addr} {sl_view_numbers : Array (Option Value)} {oc_view_numbers kV_view_numbers dc_view_numbers pm_view_numbers cd_view_numbers ct_view_numbers : Value}
    {f_think : Addr} {od_think an_think : Option Addr} {sl_think : Array (Option Value)} {oc_think kV_think dc_think pm_think cd_think ct_think : Value}
    {f_combine : Addr} {od_combine an_combine : Option Addr} {sl_combine : Array (Option Value)} {oc_combine kV_combine dc_combine pm_combine cd_combine ct_combine : Value}
    {f_value_of : Addr} {od_value_of an_value_of : Option Addr} {sl_value_of : Array (Option Value)} {oc_value_of kV_value_of dc_value_of pm_value_of cd_value_of ct_value_of : Value}
    {T_value_of : Addr} {oT_value_of : Value} {dT_value_of : Option Addr} {nT_value_of : Nat} {slT_value_of : Array (Option Value)} {E_value_of : Addr}
    {f_think_by_code : Addr} {od_think_by_code an_think_by_code : Option Addr} {sl_think_by_code : Array (Option Value)} {oc_think_by_code kV_think_by_code dc_think_by_code pm_think_by_code cd_think_by_code ct_think_by_code : Value}
    {f_argument_fits : Addr} {od_argument_fits an_argument_fits : Option Addr} {sl_argument_fits : Array (Option Value)} {oc_argument_fits kV_argument_fits dc_argument_fits pm_argument_fits cd_argument_fits ct_argument_fits : Value}
    {f_targets_of : Addr} {od_targets_of an_targets_of : Option Addr} {sl_targets_of : Array (Option Value)} {oc_targets_of kV_targets_of dc_targets_of pm_targets_of cd_targets_of ct_targets_of : Value}
    {f_check_code : Addr} {od_check_code an_check_code : Option Addr} {sl_check_code : Array (Option Value)} {oc_check_code dc_check_code pm_check_code cd_check_code ct_check_code : Value} {KD_check_code : Addr}
    {f_check_mind : Addr} {od_check_mind an_check_mind : Option Addr} {sl_check_mind : Array (Option Value)} {oc_check_mind kV_check_mind dc_check_mind pm_check_mind cd_check_mind ct_check_mind : Value}
    {f_law_pool : Addr} {od_law_pool an_law_pool : Option Addr} {sl_law_pool : Array (Option Value)} {oc_law_pool kV_law_pool dc_law_pool pm_law_pool cd_law_pool ct_law_pool : Value}
    {f_law_draw : Addr} {od_law_draw an_law_draw : Option Addr} {sl_law_draw : Array (Option Value)} {oc_law_draw kV_law_draw dc_law_draw pm_law_draw cd_law_draw ct_law_draw : Value}
    {f_law_spend : Addr} {od_law_spend an_law_spend : Option Addr} {sl_law_spend : Array (Option Value)} {oc_law_spend kV_law_spend dc_law_spend pm_law_spend cd_law_spend ct_law_spend : Value}
    {f_law_few : Addr} {od_law_few an_law_few : Option Addr} {sl_law_few : Array (Option Value)} {oc_law_few kV_law_few dc_law_few pm_law_few cd_law_few ct_law_few : Value}
    {f_law_number : Addr} {od_law_number an_law_number : Option Addr} {sl_law_number : Array (Option Value)} {oc_law_number kV_law_number dc_law_number pm_law_number cd_law_number ct_law_number : Value}
    {f_law_same : Addr} {od_law_same an_law_same : Option Addr} {sl_law_same : Array (Option Value)} {oc_law_same kV_law_same dc_law_same pm_law_same cd_law_same ct_law_same : Value}
    {f_law_names_of_code : Addr} {od_law_names_of_code an_law_names_of_code : Option Addr} {sl_law_names_of_code : Array (Option Value)} {oc_law_names_of_code kV_law_names_of_code dc_law_names_of_code pm_law_names_of_code cd_law_names_of_code ct_law_names_of_code : Value}
    {f_law_takes : Addr} {od_law_takes an_law_takes : Option Addr} {sl_law_takes : Array (Option Value)} {oc_law_takes kV_law_takes dc_law_takes pm_law_takes cd_law_takes ct_law_takes : Value}
    {f_law_argument : Addr} {od_law_argument an_law_argument : Option Addr} {sl_law_argument : Array (Option Value)} {oc_law_argument kV_law_argument dc_law_argument pm_law_argument cd_law_argument ct_law_argument : Value}
    {f_law_targets : Addr} {od_law_targets an_law_targets : Option Addr} {sl_law_targets : Array (Option Value)} {oc_law_targets kV_law_targets dc_law_targets pm_law_targets cd_law_targets ct_law_targets : Value}
    {f_law_checked : Addr} {od_law_checked an_law_checked : Option Addr} {sl_law_checked : Array (Option Value)} {oc_law_checked kV_law_checked dc_law_checked pm_law_checked cd_law_checked ct_law_checked : Value}
    {f_law_told : Addr} {od_law_told an_law_told : Option Addr} {sl_law_told : Array (Option Value)} {oc_law_told kV_law_told dc_law_told pm_law_told cd_law_told ct_law_told : Value}
    {f_law_some_value : Addr} {od_law_some_value an_law_some_value : Option Addr} {sl_law_some_value : Array (Option Value)} {oc_law_some_value kV_law_some_value dc_law_some_value pm_law_some_value cd_law_some_value ct_law_some_value : Value}
    {f_law_some_code : Addr} {od_law_some_code an_law_some_code : Option Addr} {sl_law_some_code : Array (Option Value)} {oc_law_some_code kV_law_some_code dc_law_some_code pm_law_some_code cd_law_some_code ct_law_some_code : Value}
    {f_law_whole_code : Addr} {od_law_whole_code an_law_whole_code : Option Addr} {sl_law_whole_code : Array (Option Value)} {oc_law_whole_code kV_law_whole_code dc_law_whole_code pm_law_whole_code cd_law_whole_code ct_law_whole_code : Value}
    {f_law_any : Addr} {od_law_any an_law_any : Option Addr} {sl_law_any : Array (Option Value)} {oc_law_any kV_law_any dc_law_any pm_law_any cd_law_any ct_law_any : Value}
    {f_law_spoilt : Addr} {od_law_spoilt an_law_spoilt : Option Addr} {sl_law_spoilt : Array (Option Value)} {oc_law_spoilt kV_law_spoilt dc_law_spoilt pm_law_spoilt cd_law_spoilt ct_law_spoilt : Value}
    {f_law_view : Addr} {od_law_view an_law_view : Option Addr} {sl_law_view : Array (Option Value)} {oc_law_view kV_law_view dc_law_view pm_law_view cd_law_view ct_law_view : Value}
    {f_law_count : Addr} {od_law_count an_law_count : Option Addr} {sl_law_count : Array (Option Value)} {oc_law_count kV_law_count dc_law_count pm_law_count cd_law_count ct_law_count : Value}
    {f_law_seen : Addr} {od_law_seen an_law_seen : Option Addr} {sl_law_seen : Array (Option Value)} {oc_law_seen kV_law_seen dc_law_seen pm_law_seen cd_law_seen ct_law_seen : Value}
    {f_law_fall : Addr} {od_law_fall an_law_fall : Option Addr} {sl_law_fall : Array (Option Value)} {oc_law_fall kV_law_fall dc_law_fall pm_law_fall cd_law_fall ct_law_fall : Value}
    {f_law_combine : Addr} {od_law_combine an_law_combine : Option Addr} {sl_law_combine : Array (Option Value)} {oc_law_combine kV_law_combine dc_law_combine pm_law_combine cd_law_combine ct_law_combine : Value}
    {f_law_do : Addr} {od_law_do an_law_do : Option Addr} {sl_law_do : Array (Option Value)} {oc_law_do kV_law_do dc_law_do pm_law_do cd_law_do ct_law_do : Value}
    {f_law_careful : Addr} {od_law_careful an_law_careful : Option Addr} {sl_law_careful : Array (Option Value)} {oc_law_careful kV_law_careful dc_law_careful pm_law_careful cd_law_careful ct_law_careful : Value}
    {f_law_state : Addr} {od_law_state an_law_state : Option Addr} {sl_law_state : Array (Option Value)} {oc_law_state kV_law_state dc_law_state pm_law_state cd_law_state ct_law_state : Value}
    {f_law_long_view : Addr} {od_law_long_view an_law_long_view : Option Addr} {sl_law_long_view : Array (Option Value)} {oc_law_long_view kV_law_long_view dc_law_long_view pm_law_long_view cd_law_long_view ct_law_long_view : Value}
    {f_law : Addr} {od_law an_law : Option Addr} {sl_law : Array (Option Value)} {oc_law kV_law dc_law pm_law cd_law ct_law : Value}
    {C_Tape : Addr}
    {C_Thinker : Addr}
    {C_Brain : Addr}
    {C_Mind : Addr}
    {C_Frame : Addr}
    {C_Thinking : Addr}
    {C_Checker : Addr}
    {f_Tape___init : Addr} {od_Tape___init an_Tape___init : Option Addr} {sl_Tape___init : Array (Option Value)} {oc_Tape___init kV_Tape___init dc_Tape___init pm_Tape___init cd_Tape___init ct_Tape___init : Value}
    {f_Tape_take : Addr} {od_Tape_take an_Tape_take : Option Addr} {sl_Tape_take : Array (Option Value)} {oc_Tape_take kV_Tape_take dc_Tape_take pm_Tape_take cd_Tape_take ct_Tape_take : Value}
    {f_Brain___init : Addr} {od_Brain___init an_Brain___init : Option Addr} {sl_Brain___init : Array (Option Value)} {oc_Brain___init kV_Brain___init dc_Brain___init pm_Brain___init cd_Brain___init ct_Brain___init : Value}
    {f_Mind___init : Addr} {od_Mind___init an_Mind___init : Option Addr} {sl_Mind___init : Array (Option Value)} {oc_Mind___init kV_Mind___init dc_Mind___init pm_Mind___init cd_Mind___init ct_Mind___init : Value}
    {f_Thinker___init : Addr} {od_Thinker___init an_Thinker___init : Option Addr} {sl_Thinker___init : Array (Option Value)} {oc_Thinker___init kV_Thinker___init dc_Thinker___init pm_Thinker___init cd_Thinker___init ct_Thinker___init : Value}
    {f_Thinker_value : Addr} {od_Thinker_value an_Thinker_value : Option Addr} {sl_Thinker_value : Array (Option Value)} {oc_Thinker_value kV_Thinker_value dc_Thinker_value pm_Thinker_value cd_Thinker_value ct_Thinker_value : Value}
    {f_Thinker_unit : Addr} {od_Thinker_unit an_Thinker_unit : Option Addr} {sl_Thinker_unit : Array (Option Value)} {oc_Thinker_unit kV_Thinker_unit dc_Thinker_unit pm_Thinker_unit cd_Thinker_unit ct_Thinker_unit : Value}
    {f_Thinker_run : Addr} {od_Thinker_run an_Thinker_run : Option Addr} {sl_Thinker_run : Array (Option Value)} {oc_Thinker_run kV_Thinker_run dc_Thinker_run pm_Thinker_run cd_Thinker_run ct_Thinker_run : Value}
    {f_Thinker_step : Addr} {od_Thinker_step an_Thinker_step : Option Addr} {sl_Thinker_step : Array (Option Value)} {oc_Thinker_step kV_Thinker_step dc_Thinker_step pm_Thinker_step cd_Thinker_step ct_Thinker_step : Value}
    {f_Thinker_loop : Addr} {od_Thinker_loop an_Thinker_loop : Option Addr} {sl_Thinker_loop : Array (Option Value)} {oc_Thinker_loop kV_Thinker_loop dc_Thinker_loop pm_Thinker_loop cd_Thinker_loop ct_Thinker_loop : Value}
    {f_Frame___init : Addr} {od_Frame___init an_Frame___init : Option Addr} {sl_Frame___init : Array (Option Value)} {oc_Frame___init kV_Frame___init dc_Frame___init pm_Frame___init cd_Frame___init ct_Frame___init : Value}
    {f_Frame_advance : Addr} {od_Frame_advance an_Frame_advance : Option Addr} {sl_Frame_advance : Array (Option Value)} {oc_Frame_advance kV_Frame_advance dc_Frame_advance pm_Frame_advance cd_Frame_advance ct_Frame_advance : Value}
    {f_Thinking_special : Addr} {od_Thinking_special an_Thinking_special : Option Addr} {sl_Thinking_special : Array (Option Value)} {oc_Thinking_special kV_Thinking_special dc_Thinking_special pm_Thinking_special cd_Thinking_special ct_Thinking_special : Value}
    {f_Checker___init : Addr} {od_Checker___init an_Checker___init : Option Addr} {sl_Checker___init : Array (Option Value)} {oc_Checker___init kV_Checker___init dc_Checker___init pm_Checker___init cd_Checker___init ct_Checker___init : Value}
    {f_Checker_reaches : Addr} {od_Checker_reaches an_Checker_reaches : Option Addr} {sl_Checker_reaches : Array (Option Value)} {oc_Checker_reaches kV_Checker_reaches dc_Checker_reaches pm_Checker_reaches cd_Checker_reaches ct_Checker_reaches : Value}
    {f_Checker_returns : Addr} {od_Checker_returns an_Checker_returns : Option Addr} {sl_Checker_returns : Array (Option Value)} {oc_Checker_returns kV_Checker_returns dc_Checker_returns pm_Checker_returns cd_Checker_returns ct_Checker_returns : Value}
    {f_Checker_good : Addr} {od_Checker_good an_Checker_good : Option Addr} {sl_Checker_good : Array (Option Value)} {oc_Checker_good kV_Checker_good dc_Checker_good pm_Checker_good cd_Checker_good ct_Checker_good : Value}
    {f_Thinking___init cda_Thinking___init cc_Thinking___init : Addr} {od_Thinking___init an_Thinking___init cld_Thinking___init cdd_Thinking___init : Option Addr} {sl_Thinking___init csl_Thinking___init ccs_Thinking___init : Array (Option Value)} {vs_Thinking___init : Array Value} {oc_Thinking___init kV_Thinking___init dc_Thinking___init pm_Thinking___init ct_Thinking___init cl_Thinking___init ccl_Thinking___init : Value} {file_Thinking___init : Str} {tf_Thinking___init : Tok}
    {C_GameError : Addr}
    {C_BadCode : Addr}
    {nm_BadCode q_BadCode : Str} {N_BadCode : Addr} {bs_BadCode : List Value} {sn_BadCode : List Str} {sub_BadCode : List Value} {ab_BadCode : Bool} {col_BadCode : Option Bool} {dd_BadCode : Option Addr} {m0_BadCode m1_BadCode m2_BadCode m3_BadCode m5_BadCode : Option Value}
    {f_BadCode___init cda_BadCode___init cc_BadCode___init : Addr} {od_BadCode___init an_BadCode___init cld_BadCode___init cdd_BadCode___init : Option Addr} {sl_BadCode___init csl_BadCode___init ccs_BadCode___init : Array (Option Value)} {vs_BadCode___init : Array Value} {oc_BadCode___init dc_BadCode___init pm_BadCode___init ct_BadCode___init cl_BadCode___init ccl_BadCode___init : Value} {file_BadCode___init : Str} {tf_BadCode___init : Tok}
    {t_GREATEST : Tok}
    {T_EVENTS : Addr} {nn_EVENTS : Nat} {sl_EVENTS : Array (Option Value)} {t_EVENTS0 t_EVENTS1 t_EVENTS2 t_EVENTS3 : Tok}
    {T_SIGNS : Addr} {nn_SIGNS : Nat} {sl_SIGNS : Array (Option Value)} {t_SIGNS0 t_SIGNS1 t_SIGNS2 t_SIGNS3 t_SIGNS4 t_SIGNS5 t_SIGNS6 : Tok}
    {t_HIGHEST : Tok}
    {T_ROUND_NAMES : Addr} {nn_ROUND_NAMES : Nat} {sl_ROUND_NAMES : Array (Option Value)} {t_ROUND_NAMES0 t_ROUND_NAMES1 t_ROUND_NAMES2 t_ROUND_NAMES3 t_ROUND_NAMES4 t_ROUND_NAMES5 t_ROUND_NAMES6 t_ROUND_NAMES7 t_ROUND_NAMES8 t_ROUND_NAMES9 t_ROUND_NAMES10 t_ROUND_NAMES11 : Tok}
    {T_BRAIN_NAMES : Addr} {nn_BRAIN_NAMES : Nat} {sl_BRAIN_NAMES : Array (Option Value)} {t_BRAIN_NAMES0 t_BRAIN_NAMES1 t_BRAIN_NAMES2 t_BRAIN_NAMES3 t_BRAIN_NAMES4 t_BRAIN_NAMES5 t_BRAIN_NAMES6 t_BRAIN_NAMES7 t_BRAIN_NAMES8 t_BRAIN_NAMES9 t_BRAIN_NAMES10 t_BRAIN_NAMES11 : Tok}
    {T_EFFECTS : Addr}
    {es_EFFECTS : Array DictEntry} {nn_EFFECTS : Nat}
    {p_EFFECTS_0 : Addr} {np_EFFECTS_0 : Nat} {sp_EFFECTS_0 : Array (Option Value)} {tp_EFFECTS_0_0 tp_EFFECTS_0_1 : Tok}
    {p_EFFECTS_1 : Addr} {np_EFFECTS_1 : Nat} {sp_EFFECTS_1 : Array (Option Value)} {tp_EFFECTS_1_0 tp_EFFECTS_1_1 : Tok}
    {p_EFFECTS_2 : Addr} {np_EFFECTS_2 : Nat} {sp_EFFECTS_2 : Array (Option Value)} {tp_EFFECTS_2_0 tp_EFFECTS_2_1 : Tok}
    {p_EFFECTS_3 : Addr} {np_EFFECTS_3 : Nat} {sp_EFFECTS_3 : Array (Option Value)} {tp_EFFECTS_3_0 tp_EFFECTS_3_1 : Tok}
    {p_EFFECTS_4 : Addr} {np_EFFECTS_4 : Nat} {sp_EFFECTS_4 : Array (Option Value)} {tp_EFFECTS_4_0 tp_EFFECTS_4_1 : Tok}
    {p_EFFECTS_5 : Addr} {np_EFFECTS_5 : Nat} {sp_EFFECTS_5 : Array (Option Value)} {tp_EFFECTS_5_0 tp_EFFECTS_5_1 : Tok}
    {p_EFFECTS_6 : Addr} {np_EFFECTS_6 : Nat} {sp_EFFECTS_6 : Array (Option Value)} {tp_EFFECTS_6_0 tp_EFFECTS_6_1 : Tok}
    {p_EFFECTS_7 : Addr} {np_EFFECTS_7 : Nat} {sp_EFFECTS_7 : Array (Option Value)} {tp_EFFECTS_7_0 tp_EFFECTS_7_1 : Tok}
    {p_EFFECTS_8 : Addr} {np_EFFECTS_8 : Nat} {sp_EFFECTS_8 : Array (Option Value)} {tp_EFFECTS_8_0 tp_EFFECTS_8_1 : Tok}
    {p_EFFECTS_9 : Addr} {np_EFFECTS_9 : Nat} {sp_EFFECTS_9 : Array (Option Value)} {tp_EFFECTS_9_0 tp_EFFECTS_9_1 : Tok}
    {p_EFFECTS_10 : Addr} {np_EFFECTS_10 : Nat} {sp_EFFECTS_10 : Array (Option Value)} {tp_EFFECTS_10_0 tp_EFFECTS_10_1 : Tok}
    {p_EFFECTS_11 : Addr} {np_EFFECTS_11 : Nat} {sp_EFFECTS_11 : Array (Option Value)} {tp_EFFECTS_11_0 tp_EFFECTS_11_1 : Tok}
    {p_EFFECTS_12 : Addr} {np_EFFECTS_12 : Nat} {sp_EFFECTS_12 : Array (Option Value)} {tp_EFFECTS_12_0 tp_EFFECTS_12_1 : Tok}
    {p_EFFECTS_13 : Addr} {np_EFFECTS_13 : Nat} {sp_EFFECTS_13 : Array (Option Value)} {tp_EFFECTS_13_0 tp_EFFECTS_13_1 : Tok}
    {p_EFFECTS_14 : Addr} {np_EFFECTS_14 : Nat} {sp_EFFECTS_14 : Array (Option Value)} {tp_EFFECTS_14_0 tp_EFFECTS_14_1 : Tok}
    {p_EFFECTS_15 : Addr} {np_EFFECTS_15 : Nat} {sp_EFFECTS_15 : Array (Option Value)} {tp_EFFECTS_15_0 tp_EFFECTS_15_1 : Tok}
    (a_view_numbers : PySem.W.nsIn K mainGlobals "view_numbers" = some (some (.ref f_view_numbers))) (l_view_numbers : K.lookup f_view_numbers = some ⟨oc_view_numbers, od_view_numbers, .func (PySem.W.fnOf "view_numbers" "view_numbers" (fnArgs s_view_numbers) (fnBody s_view_numbers) (fnScope s_view_numbers) .none kV_view_numbers dc_view_numbers pm_view_numbers an_view_numbers cd_view_numbers ct_view_numbers), sl_view_numbers⟩) (c_view_numbers : PySem.W.codeIn K cd_view_numbers "view_numbers" = true) (k_view_numbers : PySem.W.keepIn K (.ref f_view_numbers) = true)
    (a_think : PySem.W.nsIn K mainGlobals "think" = some (some (.ref f_think))) (l_think : K.lookup f_think = some ⟨oc_think, od_think, .func (PySem.W.fnOf "think" "think" (fnArgs s_think) (fnBody s_think) (fnScope s_think) .none kV_think dc_think pm_think an_think cd_think ct_think), sl_think⟩) (c_think : PySem.W.codeIn K cd_think "think" = true) (k_think : PySem.W.keepIn K (.ref f_think) = true)
    (a_combine : PySem.W.nsIn K mainGlobals "combine" = some (some (.ref f_combine))) (l_combine : K.lookup f_combine = some ⟨oc_combine, od_combine, .func (PySem.W.fnOf "combine" "combine" (fnArgs s_combine) (fnBody s_combine) (fnScope s_combine) .none kV_combine dc_combine pm_combine an_combine cd_combine ct_combine), sl_combine⟩) (c_combine : PySem.W.codeIn K cd_combine "combine" = true) (k_combine : PySem.W.keepIn K (.ref f_combine) = true)
    (a_value_of : PySem.W.nsIn K mainGlobals "value_of" = some (some (.ref f_value_of))) (l_value_of : K.lookup f_value_of = some ⟨oc_value_of, od_value_of, .func (PySem.W.fnOf "value_of" "value_of" (fnArgs s_value_of) (fnBody s_value_of) (fnScope s_value_of) (.ref T_value_of) kV_value_of dc_value_of pm_value_of an_value_of cd_value_of ct_value_of), sl_value_of⟩) (c_value_of : PySem.W.codeIn K cd_value_of "value_of" = true) (k_value_of : PySem.W.keepIn K (.ref f_value_of) = true)
    (lT_value_of : K.lookup T_value_of = some ⟨oT_value_of, dT_value_of, .seq #[.ref E_value_of] nT_value_of, slT_value_of⟩)
    (a_think_by_code : PySem.W.nsIn K mainGlobals "think_by_code" = some (some (.ref f_think_by_code))) (l_think_by_code : K.lookup f_think_by_code = some ⟨oc_think_by_code, od_think_by_code, .func (PySem.W.fnOf "think_by_code" "think_by_code" (fnArgs s_think_by_code) (fnBody s_think_by_code) (fnScope s_think_by_code) .none kV_think_by_code dc_think_by_code pm_think_by_code an_think_by_code cd_think_by_code ct_think_by_code), sl_think_by_code⟩) (c_think_by_code : PySem.W.codeIn K cd_think_by_code "think_by_code" = true) (k_think_by_code : PySem.W.keepIn K (.ref f_think_by_code) = true)
    (a_argument_fits : PySem.W.nsIn K mainGlobals "argument_fits" = some (some (.ref f_argument_fits))) (l_argument_fits : K.lookup f_argument_fits = some ⟨oc_argument_fits, od_argument_fits, .func (PySem.W.fnOf "argument_fits" "argument_fits" (fnArgs s_argument_fits) (fnBody s_argument_fits) (fnScope s_argument_fits) .none kV_argument_fits dc_argument_fits pm_argument_fits an_argument_fits cd_argument_fits ct_argument_fits), sl_argument_fits⟩) (c_argument_fits : PySem.W.codeIn K cd_argument_fits "argument_fits" = true) (k_argument_fits : PySem.W.keepIn K (.ref f_argument_fits) = true)
    (a_targets_of : PySem.W.nsIn K mainGlobals "targets_of" = some (some (.ref f_targets_of))) (l_targets_of : K.lookup f_targets_of = some ⟨oc_targets_of, od_targets_of, .func (PySem.W.fnOf "targets_of" "targets_of" (fnArgs s_targets_of) (fnBody s_targets_of) (fnScope s_targets_of) .none kV_targets_of dc_targets_of pm_targets_of an_targets_of cd_targets_of ct_targets_of), sl_targets_of⟩) (c_targets_of : PySem.W.codeIn K cd_targets_of "targets_of" = true) (k_targets_of : PySem.W.keepIn K (.ref f_targets_of) = true)
    (a_check_code : PySem.W.nsIn K mainGlobals "check_code" = some (some (.ref f_check_code))) (l_check_code : K.lookup f_check_code = some ⟨oc_check_code, od_check_code, .func (PySem.W.fnOf "check_code" "check_code" (fnArgs s_check_code) (fnBody s_check_code) (fnScope s_check_code) .none (.ref KD_check_code) dc_check_code pm_check_code an_check_code cd_check_code ct_check_code), sl_check_code⟩) (c_check_code : PySem.W.codeIn K cd_check_code "check_code" = true) (k_check_code : PySem.W.keepIn K (.ref f_check_code) = true)
    (kd_check_code : PySem.W.nsIn K KD_check_code "thinking" = some (some (.bool false)))
    (a_check_mind : PySem.W.nsIn K mainGlobals "check_mind" = some (some (.ref f_check_mind))) (l_check_mind : K.lookup f_check_mind = some ⟨oc_check_mind, od_check_mind, .func (PySem.W.fnOf "check_mind" "check_mind" (fnArgs s_check_mind) (fnBody s_check_mind) (fnScope s_check_mind) .none kV_check_mind dc_check_mind pm_check_mind an_check_mind cd_check_mind ct_check_mind), sl_check_mind⟩) (c_check_mind : PySem.W.codeIn K cd_check_mind "check_mind" = true) (k_check_mind : PySem.W.keepIn K (.ref f_check_mind) = true)
    (a_law_pool : PySem.W.nsIn K mainGlobals "_law_pool" = some (some (.ref f_law_pool))) (l_law_pool : K.lookup f_law_pool = some ⟨oc_law_pool, od_law_pool, .func (PySem.W.fnOf "_law_pool" "_law_pool" (fnArgs s_law_pool) (fnBody s_law_pool) (fnScope s_law_pool) .none kV_law_pool dc_law_pool pm_law_pool an_law_pool cd_law_pool ct_law_pool), sl_law_pool⟩) (c_law_pool : PySem.W.codeIn K cd_law_pool "_law_pool" = true) (k_law_pool : PySem.W.keepIn K (.ref f_law_pool) = true)
    (a_law_draw : PySem.W.nsIn K mainGlobals "_law_draw" = some (some (.ref f_law_draw))) (l_law_draw : K.lookup f_law_draw = some ⟨oc_law_draw, od_law_draw, .func (PySem.W.fnOf "_law_draw" "_law_draw" (fnArgs s_law_draw) (fnBody s_law_draw) (fnScope s_law_draw) .none kV_law_draw dc_law_draw pm_law_draw an_law_draw cd_law_draw ct_law_draw), sl_law_draw⟩) (c_law_draw : PySem.W.codeIn K cd_law_draw "_law_draw" = true) (k_law_draw : PySem.W.keepIn K (.ref f_law_draw) = true)
    (a_law_spend : PySem.W.nsIn K mainGlobals "_law_spend" = some (some (.ref f_law_spend))) (l_law_spend : K.lookup f_law_spend = some ⟨oc_law_spend, od_law_spend, .func (PySem.W.fnOf "_law_spend" "_law_spend" (fnArgs s_law_spend) (fnBody s_law_spend) (fnScope s_law_spend) .none kV_law_spend dc_law_spend pm_law_spend an_law_spend cd_law_spend ct_law_spend), sl_law_spend⟩) (c_law_spend : PySem.W.codeIn K cd_law_spend "_law_spend" = true) (k_law_spend : PySem.W.keepIn K (.ref f_law_spend) = true)
    (a_law_few : PySem.W.nsIn K mainGlobals "_law_few" = some (some (.ref f_law_few))) (l_law_few : K.lookup f_law_few = some ⟨oc_law_few, od_law_few, .func (PySem.W.fnOf "_law_few" "_law_few" (fnArgs s_law_few) (fnBody s_law_few) (fnScope s_law_few) .none kV_law_few dc_law_few pm_law_few an_law_few cd_law_few ct_law_few), sl_law_few⟩) (c_law_few : PySem.W.codeIn K cd_law_few "_law_few" = true) (k_law_few : PySem.W.keepIn K (.ref f_law_few) = true)
    (a_law_number : PySem.W.nsIn K mainGlobals "_law_number" = some (some (.ref f_law_number))) (l_law_number : K.lookup f_law_number = some ⟨oc_law_number, od_law_number, .func (PySem.W.fnOf "_law_number" "_law_number" (fnArgs s_law_number) (fnBody s_law_number) (fnScope s_law_number) .none kV_law_number dc_law_number pm_law_number an_law_number cd_law_number ct_law_number), sl_law_number⟩) (c_law_number : PySem.W.codeIn K cd_law_number "_law_number" = true) (k_law_number : PySem.W.keepIn K (.ref f_law_number) = true)
    (a_law_same : PySem.W.nsIn K mainGlobals "_law_same" = some (some (.ref f_law_same))) (l_law_same : K.lookup f_law_same = some ⟨oc_law_same, od_law_same, .func (PySem.W.fnOf "_law_same" "_law_same" (fnArgs s_law_same) (fnBody s_law_same) (fnScope s_law_same) .none kV_law_same dc_law_same pm_law_same an_law_same cd_law_same ct_law_same), sl_law_same⟩) (c_law_same : PySem.W.codeIn K cd_law_same "_law_same" = true) (k_law_same : PySem.W.keepIn K (.ref f_law_same) = true)
    (a_law_names_of_code : PySem.W.nsIn K mainGlobals "_law_names_of_code" = some (some (.ref f_law_names_of_code))) (l_law_names_of_code : K.lookup f_law_names_of_code = some ⟨oc_law_names_of_code, od_law_names_of_code, .func (PySem.W.fnOf "_law_names_of_code" "_law_names_of_code" (fnArgs s_law_names_of_code) (fnBody s_law_names_of_code) (fnScope s_law_names_of_code) .none kV_law_names_of_code dc_law_names_of_code pm_law_names_of_code an_law_names_of_code cd_law_names_of_code ct_law_names_of_code), sl_law_names_of_code⟩) (c_law_names_of_code : PySem.W.codeIn K cd_law_names_of_code "_law_names_of_code" = true) (k_law_names_of_code : PySem.W.keepIn K (.ref f_law_names_of_code) = true)
    (a_law_takes : PySem.W.nsIn K mainGlobals "_law_takes" = some (some (.ref f_law_takes))) (l_law_takes : K.lookup f_law_takes = some ⟨oc_law_takes, od_law_takes, .func (PySem.W.fnOf "_law_takes" "_law_takes" (fnArgs s_law_takes) (fnBody s_law_takes) (fnScope s_law_takes) .none kV_law_takes dc_law_takes pm_law_takes an_law_takes cd_law_takes ct_law_takes), sl_law_takes⟩) (c_law_takes : PySem.W.codeIn K cd_law_takes "_law_takes" = true) (k_law_takes : PySem.W.keepIn K (.ref f_law_takes) = true)
    (a_law_argument : PySem.W.nsIn K mainGlobals "_law_argument" = some (some (.ref f_law_argument))) (l_law_argument : K.lookup f_law_argument = some ⟨oc_law_argument, od_law_argument, .func (PySem.W.fnOf "_law_argument" "_law_argument" (fnArgs s_law_argument) (fnBody s_law_argument) (fnScope s_law_argument) .none kV_law_argument dc_law_argument pm_law_argument an_law_argument cd_law_argument ct_law_argument), sl_law_argument⟩) (c_law_argument : PySem.W.codeIn K cd_law_argument "_law_argument" = true) (k_law_argument : PySem.W.keepIn K (.ref f_law_argument) = true)
    (a_law_targets : PySem.W.nsIn K mainGlobals "_law_targets" = some (some (.ref f_law_targets))) (l_law_targets : K.lookup f_law_targets = some ⟨oc_law_targets, od_law_targets, .func (PySem.W.fnOf "_law_targets" "_law_targets" (fnArgs s_law_targets) (fnBody s_law_targets) (fnScope s_law_targets) .none kV_law_targets dc_law_targets pm_law_targets an_law_targets cd_law_targets ct_law_targets), sl_law_targets⟩) (c_law_targets : PySem.W.codeIn K cd_law_targets "_law_targets" = true) (k_law_targets : PySem.W.keepIn K (.ref f_law_targets) = true)
    (a_law_checked : PySem.W.nsIn K mainGlobals "_law_checked" = some (some (.ref f_law_checked))) (l_law_checked : K.lookup f_law_checked = some ⟨oc_law_checked, od_law_checked, .func (PySem.W.fnOf "_law_checked" "_law_checked" (fnArgs s_law_checked) (fnBody s_law_checked) (fnScope s_law_checked) .none kV_law_checked dc_law_checked pm_law_checked an_law_checked cd_law_checked ct_law_checked), sl_law_checked⟩) (c_law_checked : PySem.W.codeIn K cd_law_checked "_law_checked" = true) (k_law_checked : PySem.W.keepIn K (.ref f_law_checked) = true)
    (a_law_told : PySem.W.nsIn K mainGlobals "_law_told" = some (some (.ref f_law_told))) (l_law_told : K.lookup f_law_told = some ⟨oc_law_told, od_law_told, .func (PySem.W.fnOf "_law_told" "_law_told" (fnArgs s_law_told) (fnBody s_law_told) (fnScope s_law_told) .none kV_law_told dc_law_told pm_law_told an_law_told cd_law_told ct_law_told), sl_law_told⟩) (c_law_told : PySem.W.codeIn K cd_law_told "_law_told" = true) (k_law_told : PySem.W.keepIn K (.ref f_law_told) = true)
    (a_law_some_value : PySem.W.nsIn K mainGlobals "_law_some_value" = some (some (.ref f_law_some_value))) (l_law_some_value : K.lookup f_law_some_value = some ⟨oc_law_some_value, od_law_some_value, .func (PySem.W.fnOf "_law_some_value" "_law_some_value" (fnArgs s_law_some_value) (fnBody s_law_some_value) (fnScope s_law_some_value) .none kV_law_some_value dc_law_some_value pm_law_some_value an_law_some_value cd_law_some_value ct_law_some_value), sl_law_some_value⟩) (c_law_some_value : PySem.W.codeIn K cd_law_some_value "_law_some_value" = true) (k_law_some_value : PySem.W.keepIn K (.ref f_law_some_value) = true)
    (a_law_some_code : PySem.W.nsIn K mainGlobals "_law_some_code" = some (some (.ref f_law_some_code))) (l_law_some_code : K.lookup f_law_some_code = some ⟨oc_law_some_code, od_law_some_code, .func (PySem.W.fnOf "_law_some_code" "_law_some_code" (fnArgs s_law_some_code) (fnBody s_law_some_code) (fnScope s_law_some_code) .none kV_law_some_code dc_law_some_code pm_law_some_code an_law_some_code cd_law_some_code ct_law_some_code), sl_law_some_code⟩) (c_law_some_code : PySem.W.codeIn K cd_law_some_code "_law_some_code" = true) (k_law_some_code : PySem.W.keepIn K (.ref f_law_some_code) = true)
    (a_law_whole_code : PySem.W.nsIn K mainGlobals "_law_whole_code" = some (some (.ref f_law_whole_code))) (l_law_whole_code : K.lookup f_law_whole_code = some ⟨oc_law_whole_code, od_law_whole_code, .func (PySem.W.fnOf "_law_whole_code" "_law_whole_code" (fnArgs s_law_whole_code) (fnBody s_law_whole_code) (fnScope s_law_whole_code) .none kV_law_whole_code dc_law_whole_code pm_law_whole_code an_law_whole_code cd_law_whole_code ct_law_whole_code), sl_law_whole_code⟩) (c_law_whole_code : PySem.W.codeIn K cd_law_whole_code "_law_whole_code" = true) (k_law_whole_code : PySem.W.keepIn K (.ref f_law_whole_code) = true)
    (a_law_any : PySem.W.nsIn K mainGlobals "_law_any" = some (some (.ref f_law_any))) (l_law_any : K.lookup f_law_any = some ⟨oc_law_any, od_law_any, .func (PySem.W.fnOf "_law_any" "_law_any" (fnArgs s_law_any) (fnBody s_law_any) (fnScope s_law_any) .none kV_law_any dc_law_any pm_law_any an_law_any cd_law_any ct_law_any), sl_law_any⟩) (c_law_any : PySem.W.codeIn K cd_law_any "_law_any" = true) (k_law_any : PySem.W.keepIn K (.ref f_law_any) = true)
    (a_law_spoilt : PySem.W.nsIn K mainGlobals "_law_spoilt" = some (some (.ref f_law_spoilt))) (l_law_spoilt : K.lookup f_law_spoilt = some ⟨oc_law_spoilt, od_law_spoilt, .func (PySem.W.fnOf "_law_spoilt" "_law_spoilt" (fnArgs s_law_spoilt) (fnBody s_law_spoilt) (fnScope s_law_spoilt) .none kV_law_spoilt dc_law_spoilt pm_law_spoilt an_law_spoilt cd_law_spoilt ct_law_spoilt), sl_law_spoilt⟩) (c_law_spoilt : PySem.W.codeIn K cd_law_spoilt "_law_spoilt" = true) (k_law_spoilt : PySem.W.keepIn K (.ref f_law_spoilt) = true)
    (a_law_view : PySem.W.nsIn K mainGlobals "_law_view" = some (some (.ref f_law_view))) (l_law_view : K.lookup f_law_view = some ⟨oc_law_view, od_law_view, .func (PySem.W.fnOf "_law_view" "_law_view" (fnArgs s_law_view) (fnBody s_law_view) (fnScope s_law_view) .none kV_law_view dc_law_view pm_law_view an_law_view cd_law_view ct_law_view), sl_law_view⟩) (c_law_view : PySem.W.codeIn K cd_law_view "_law_view" = true) (k_law_view : PySem.W.keepIn K (.ref f_law_view) = true)
    (a_law_count : PySem.W.nsIn K mainGlobals "_law_count" = some (some (.ref f_law_count))) (l_law_count : K.lookup f_law_count = some ⟨oc_law_count, od_law_count, .func (PySem.W.fnOf "_law_count" "_law_count" (fnArgs s_law_count) (fnBody s_law_count) (fnScope s_law_count) .none kV_law_count dc_law_count pm_law_count an_law_count cd_law_count ct_law_count), sl_law_count⟩) (c_law_count : PySem.W.codeIn K cd_law_count "_law_count" = true) (k_law_count : PySem.W.keepIn K (.ref f_law_count) = true)
    (a_law_seen : PySem.W.nsIn K mainGlobals "_law_seen" = some (some (.ref f_law_seen))) (l_law_seen : K.lookup f_law_seen = some ⟨oc_law_seen, od_law_seen, .func (PySem.W.fnOf "_law_seen" "_law_seen" (fnArgs s_law_seen) (fnBody s_law_seen) (fnScope s_law_seen) .none kV_law_seen dc_law_seen pm_law_seen an_law_seen cd_law_seen ct_law_seen), sl_law_seen⟩) (c_law_seen : PySem.W.codeIn K cd_law_seen "_law_seen" = true) (k_law_seen : PySem.W.keepIn K (.ref f_law_seen) = true)
    (a_law_fall : PySem.W.nsIn K mainGlobals "_law_fall" = some (some (.ref f_law_fall))) (l_law_fall : K.lookup f_law_fall = some ⟨oc_law_fall, od_law_fall, .func (PySem.W.fnOf "_law_fall" "_law_fall" (fnArgs s_law_fall) (fnBody s_law_fall) (fnScope s_law_fall) .none kV_law_fall dc_law_fall pm_law_fall an_law_fall cd_law_fall ct_law_fall), sl_law_fall⟩) (c_law_fall : PySem.W.codeIn K cd_law_fall "_law_fall" = true) (k_law_fall : PySem.W.keepIn K (.ref f_law_fall) = true)
    (a_law_combine : PySem.W.nsIn K mainGlobals "_law_combine" = some (some (.ref f_law_combine))) (l_law_combine : K.lookup f_law_combine = some ⟨oc_law_combine, od_law_combine, .func (PySem.W.fnOf "_law_combine" "_law_combine" (fnArgs s_law_combine) (fnBody s_law_combine) (fnScope s_law_combine) .none kV_law_combine dc_law_combine pm_law_combine an_law_combine cd_law_combine ct_law_combine), sl_law_combine⟩) (c_law_combine : PySem.W.codeIn K cd_law_combine "_law_combine" = true) (k_law_combine : PySem.W.keepIn K (.ref f_law_combine) = true)
    (a_law_do : PySem.W.nsIn K mainGlobals "_law_do" = some (some (.ref f_law_do))) (l_law_do : K.lookup f_law_do = some ⟨oc_law_do, od_law_do, .func (PySem.W.fnOf "_law_do" "_law_do" (fnArgs s_law_do) (fnBody s_law_do) (fnScope s_law_do) .none kV_law_do dc_law_do pm_law_do an_law_do cd_law_do ct_law_do), sl_law_do⟩) (c_law_do : PySem.W.codeIn K cd_law_do "_law_do" = true) (k_law_do : PySem.W.keepIn K (.ref f_law_do) = true)
    (a_law_careful : PySem.W.nsIn K mainGlobals "_law_careful" = some (some (.ref f_law_careful))) (l_law_careful : K.lookup f_law_careful = some ⟨oc_law_careful, od_law_careful, .func (PySem.W.fnOf "_law_careful" "_law_careful" (fnArgs s_law_careful) (fnBody s_law_careful) (fnScope s_law_careful) .none kV_law_careful dc_law_careful pm_law_careful an_law_careful cd_law_careful ct_law_careful), sl_law_careful⟩) (c_law_careful : PySem.W.codeIn K cd_law_careful "_law_careful" = true) (k_law_careful : PySem.W.keepIn K (.ref f_law_careful) = true)
    (a_law_state : PySem.W.nsIn K mainGlobals "_law_state" = some (some (.ref f_law_state))) (l_law_state : K.lookup f_law_state = some ⟨oc_law_state, od_law_state, .func (PySem.W.fnOf "_law_state" "_law_state" (fnArgs s_law_state) (fnBody s_law_state) (fnScope s_law_state) .none kV_law_state dc_law_state pm_law_state an_law_state cd_law_state ct_law_state), sl_law_state⟩) (c_law_state : PySem.W.codeIn K cd_law_state "_law_state" = true) (k_law_state : PySem.W.keepIn K (.ref f_law_state) = true)
    (a_law_long_view : PySem.W.nsIn K mainGlobals "_law_long_view" = some (some (.ref f_law_long_view))) (l_law_long_view : K.lookup f_law_long_view = some ⟨oc_law_long_view, od_law_long_view, .func (PySem.W.fnOf "_law_long_view" "_law_long_view" (fnArgs s_law_long_view) (fnBody s_law_long_view) (fnScope s_law_long_view) .none kV_law_long_view dc_law_long_view pm_law_long_view an_law_long_view cd_law_long_view ct_law_long_view), sl_law_long_view⟩) (c_law_long_view : PySem.W.codeIn K cd_law_long_view "_law_long_view" = true) (k_law_long_view : PySem.W.keepIn K (.ref f_law_long_view) = true)
    (a_law : PySem.W.nsIn K mainGlobals "law" = some (some (.ref f_law))) (l_law : K.lookup f_law = some ⟨oc_law, od_law, .func (PySem.W.fnOf "law" "law" (fnArgs s_law) (fnBody s_law) (fnScope s_law) .none kV_law dc_law pm_law an_law cd_law ct_law), sl_law⟩) (c_law : PySem.W.codeIn K cd_law "law" = true) (k_law : PySem.W.keepIn K (.ref f_law) = true)
    (mc_Tape : PySem.W.nsIn K mainGlobals "Tape" = some (some (.ref C_Tape)))
    (pg_Tape : PySem.W.plainGet K C_Tape Str.empty = true)
    (hd_Tape : PySem.W.hasDictIn K C_Tape = true)
    (po_Tape : PySem.W.plainOver K C_Tape = true)
    (sa_Tape : PySem.W.findIn K (.ref C_Tape) "__setattr__" = some (some (.builtin "object.__setattr__")))
    (mk_Tape : PySem.W.makesIn K C_Tape = true)
    (kc_Tape : PySem.W.keepIn K (.ref C_Tape) = true)
    (ha_Tape : PySem.W.findIn K (.ref C_Tape) "__class__" = some (some (.builtin "object.__class__")))
    (hn_Tape : PySem.W.specialIn K (.builtin "object.__class__") "__get__" = some (some (.builtin "getset_descriptor.__get__")))
    (ht_Tape : PySem.W.takesIn K (.builtin "object.__class__") = some true)
    (hm_Tape : PySem.W.mroIn K C_Tape (.type "object") = some true)
    (nresults_Tape : PySem.W.findIn K (.ref C_Tape) "results" = some none)
    (ntaken_Tape : PySem.W.findIn K (.ref C_Tape) "taken" = some none)
    (mc_Thinker : PySem.W.nsIn K mainGlobals "Thinker" = some (some (.ref C_Thinker)))
    (pg_Thinker : PySem.W.plainGet K C_Thinker Str.empty = true)
    (hd_Thinker : PySem.W.hasDictIn K C_Thinker = true)
    (po_Thinker : PySem.W.plainOver K C_Thinker = true)
    (sa_Thinker : PySem.W.findIn K (.ref C_Thinker) "__setattr__" = some (some (.builtin "object.__setattr__")))
    (mk_Thinker : PySem.W.makesIn K C_Thinker = true)
    (kc_Thinker : PySem.W.keepIn K (.ref C_Thinker) = true)
    (ha_Thinker : PySem.W.findIn K (.ref C_Thinker) "__class__" = some (some (.builtin "object.__class__")))
    (hn_Thinker : PySem.W.specialIn K (.builtin "object.__class__") "__get__" = some (some (.builtin "getset_descriptor.__get__")))
    (ht_Thinker : PySem.W.takesIn K (.builtin "object.__class__") = some true)
    (hm_Thinker : PySem.W.mroIn K C_Thinker (.type "object") = some true)
    (ntable_Thinker : PySem.W.findIn K (.ref C_Thinker) "table" = some none)
    (nleft_Thinker : PySem.W.findIn K (.ref C_Thinker) "left" = some none)
    (nseen_Thinker : PySem.W.findIn K (.ref C_Thinker) "seen" = some none)
    (ntape_Thinker : PySem.W.findIn K (.ref C_Thinker) "tape" = some none)
    (mc_Brain : PySem.W.nsIn K mainGlobals "Brain" = some (some (.ref C_Brain)))
    (pg_Brain : PySem.W.plainGet K C_Brain Str.empty = true)
    (hd_Brain : PySem.W.hasDictIn K C_Brain = true)
    (po_Brain : PySem.W.plainOver K C_Brain = true)
    (sa_Brain : PySem.W.findIn K (.ref C_Brain) "__setattr__" = some (some (.builtin "object.__setattr__")))
    (mk_Brain : PySem.W.makesIn K C_Brain = true)
    (kc_Brain : PySem.W.keepIn K (.ref C_Brain) = true)
    (ha_Brain : PySem.W.findIn K (.ref C_Brain) "__class__" = some (some (.builtin "object.__class__")))
    (hn_Brain : PySem.W.specialIn K (.builtin "object.__class__") "__get__" = some (some (.builtin "getset_descriptor.__get__")))
    (ht_Brain : PySem.W.takesIn K (.builtin "object.__class__") = some true)
    (hm_Brain : PySem.W.mroIn K C_Brain (.type "object") = some true)
    (nunits_Brain : PySem.W.findIn K (.ref C_Brain) "units" = some none)
    (ncells_Brain : PySem.W.findIn K (.ref C_Brain) "cells" = some none)
    (nblock_Brain : PySem.W.findIn K (.ref C_Brain) "block" = some none)
    (nanswer_Brain : PySem.W.findIn K (.ref C_Brain) "answer" = some none)
    (mc_Mind : PySem.W.nsIn K mainGlobals "Mind" = some (some (.ref C_Mind)))
    (pg_Mind : PySem.W.plainGet K C_Mind Str.empty = true)
    (hd_Mind : PySem.W.hasDictIn K C_Mind = true)
    (po_Mind : PySem.W.plainOver K C_Mind = true)
    (sa_Mind : PySem.W.findIn K (.ref C_Mind) "__setattr__" = some (some (.builtin "object.__setattr__")))
    (mk_Mind : PySem.W.makesIn K C_Mind = true)
    (kc_Mind : PySem.W.keepIn K (.ref C_Mind) = true)
    (ha_Mind : PySem.W.findIn K (.ref C_Mind) "__class__" = some (some (.builtin "object.__class__")))
    (hn_Mind : PySem.W.specialIn K (.builtin "object.__class__") "__get__" = some (some (.builtin "getset_descriptor.__get__")))
    (ht_Mind : PySem.W.takesIn K (.builtin "object.__class__") = some true)
    (hm_Mind : PySem.W.mroIn K C_Mind (.type "object") = some true)
    (nunits_Mind : PySem.W.findIn K (.ref C_Mind) "units" = some none)
    (ncells_Mind : PySem.W.findIn K (.ref C_Mind) "cells" = some none)
    (ncode_Mind : PySem.W.findIn K (.ref C_Mind) "code" = some none)
    (mc_Frame : PySem.W.nsIn K mainGlobals "Frame" = some (some (.ref C_Frame)))
    (pg_Frame : PySem.W.plainGet K C_Frame Str.empty = true)
    (hd_Frame : PySem.W.hasDictIn K C_Frame = true)
    (po_Frame : PySem.W.plainOver K C_Frame = true)
    (sa_Frame : PySem.W.findIn K (.ref C_Frame) "__setattr__" = some (some (.builtin "object.__setattr__")))
    (mk_Frame : PySem.W.makesIn K C_Frame = true)
    (kc_Frame : PySem.W.keepIn K (.ref C_Frame) = true)
    (ha_Frame : PySem.W.findIn K (.ref C_Frame) "__class__" = some (some (.builtin "object.__class__")))
    (hn_Frame : PySem.W.specialIn K (.builtin "object.__class__") "__get__" = some (some (.builtin "getset_descriptor.__get__")))
    (ht_Frame : PySem.W.takesIn K (.builtin "object.__class__") = some true)
    (hm_Frame : PySem.W.mroIn K C_Frame (.type "object") = some true)
    (ncode_Frame : PySem.W.findIn K (.ref C_Frame) "code" = some none)
    (ntable_Frame : PySem.W.findIn K (.ref C_Frame) "table" = some none)
    (ntape_Frame : PySem.W.findIn K (.ref C_Frame) "tape" = some none)
    (nat_Frame : PySem.W.findIn K (.ref C_Frame) "at" = some none)
    (nstack_Frame : PySem.W.findIn K (.ref C_Frame) "stack" = some none)
    (nsteps_Frame : PySem.W.findIn K (.ref C_Frame) "steps" = some none)
    (mc_Thinking : PySem.W.nsIn K mainGlobals "Thinking" = some (some (.ref C_Thinking)))
    (pg_Thinking : PySem.W.plainGet K C_Thinking Str.empty = true)
    (hd_Thinking : PySem.W.hasDictIn K C_Thinking = true)
    (po_Thinking : PySem.W.plainOver K C_Thinking = true)
    (sa_Thinking : PySem.W.findIn K (.ref C_Thinking) "__setattr__" = some (some (.builtin "object.__setattr__")))
    (mk_Thinking : PySem.W.makesIn K C_Thinking = true)
    (kc_Thinking : PySem.W.keepIn K (.ref C_Thinking) = true)
    (ha_Thinking : PySem.W.findIn K (.ref C_Thinking) "__class__" = some (some (.builtin "object.__class__")))
    (hn_Thinking : PySem.W.specialIn K (.builtin "object.__class__") "__get__" = some (some (.builtin "getset_descriptor.__get__")))
    (ht_Thinking : PySem.W.takesIn K (.builtin "object.__class__") = some true)
    (hm_Thinking : PySem.W.mroIn K C_Thinking (.type "object") = some true)
    (ncode_Thinking : PySem.W.findIn K (.ref C_Thinking) "code" = some none)
    (ntable_Thinking : PySem.W.findIn K (.ref C_Thinking) "table" = some none)
    (ntape_Thinking : PySem.W.findIn K (.ref C_Thinking) "tape" = some none)
    (nat_Thinking : PySem.W.findIn K (.ref C_Thinking) "at" = some none)
    (nstack_Thinking : PySem.W.findIn K (.ref C_Thinking) "stack" = some none)
    (nsteps_Thinking : PySem.W.findIn K (.ref C_Thinking) "steps" = some none)
    (nleft_Thinking : PySem.W.findIn K (.ref C_Thinking) "left" = some none)
    (nseen_Thinking : PySem.W.findIn K (.ref C_Thinking) "seen" = some none)
    (nsilent_Thinking : PySem.W.findIn K (.ref C_Thinking) "silent" = some none)
    (ndone_Thinking : PySem.W.findIn K (.ref C_Thinking) "done" = some none)
    (mc_Checker : PySem.W.nsIn K mainGlobals "Checker" = some (some (.ref C_Checker)))
    (pg_Checker : PySem.W.plainGet K C_Checker Str.empty = true)
    (hd_Checker : PySem.W.hasDictIn K C_Checker = true)
    (po_Checker : PySem.W.plainOver K C_Checker = true)
    (sa_Checker : PySem.W.findIn K (.ref C_Checker) "__setattr__" = some (some (.builtin "object.__setattr__")))
    (mk_Checker : PySem.W.makesIn K C_Checker = true)
    (kc_Checker : PySem.W.keepIn K (.ref C_Checker) = true)
    (ha_Checker : PySem.W.findIn K (.ref C_Checker) "__class__" = some (some (.builtin "object.__class__")))
    (hn_Checker : PySem.W.specialIn K (.builtin "object.__class__") "__get__" = some (some (.builtin "getset_descriptor.__get__")))
    (ht_Checker : PySem.W.takesIn K (.builtin "object.__class__") = some true)
    (hm_Checker : PySem.W.mroIn K C_Checker (.type "object") = some true)
    (ncode_Checker : PySem.W.findIn K (.ref C_Checker) "code" = some none)
    (nslots_Checker : PySem.W.findIn K (.ref C_Checker) "slots" = some none)
    (nmoves_Checker : PySem.W.findIn K (.ref C_Checker) "moves" = some none)
    (nthinking_Checker : PySem.W.findIn K (.ref C_Checker) "thinking" = some none)
    (nheights_Checker : PySem.W.findIn K (.ref C_Checker) "heights" = some none)
    (nhighest_Checker : PySem.W.findIn K (.ref C_Checker) "highest" = some none)
    (a_Tape___init : PySem.W.findIn K (.ref C_Tape) "__init__" = some (some (.ref f_Tape___init))) (i_Tape___init : PySem.W.isFn K (.ref f_Tape___init) = true) (l_Tape___init : K.lookup f_Tape___init = some ⟨oc_Tape___init, od_Tape___init, .func (PySem.W.fnOf "__init__" "Tape.__init__" (fnArgs s_Tape___init) (fnBody s_Tape___init) (fnScope s_Tape___init) .none kV_Tape___init dc_Tape___init pm_Tape___init an_Tape___init cd_Tape___init ct_Tape___init), sl_Tape___init⟩) (c_Tape___init : PySem.W.codeIn K cd_Tape___init "Tape.__init__" = true) (k_Tape___init : PySem.W.keepIn K (.ref f_Tape___init) = true)
    (a_Tape_take : PySem.W.findIn K (.ref C_Tape) "take" = some (some (.ref f_Tape_take))) (i_Tape_take : PySem.W.isFn K (.ref f_Tape_take) = true) (l_Tape_take : K.lookup f_Tape_take = some ⟨oc_Tape_take, od_Tape_take, .func (PySem.W.fnOf "take" "Tape.take" (fnArgs s_Tape_take) (fnBody s_Tape_take) (fnScope s_Tape_take) .none kV_Tape_take dc_Tape_take pm_Tape_take an_Tape_take cd_Tape_take ct_Tape_take), sl_Tape_take⟩) (c_Tape_take : PySem.W.codeIn K cd_Tape_take "Tape.take" = true) (k_Tape_take : PySem.W.keepIn K (.ref f_Tape_take) = true)
    (a_Brain___init : PySem.W.findIn K (.ref C_Brain) "__init__" = some (some (.ref f_Brain___init))) (i_Brain___init : PySem.W.isFn K (.ref f_Brain___init) = true) (l_Brain___init : K.lookup f_Brain___init = some ⟨oc_Brain___init, od_Brain___init, .func (PySem.W.fnOf "__init__" "Brain.__init__" (fnArgs s_Brain___init) (fnBody s_Brain___init) (fnScope s_Brain___init) .none kV_Brain___init dc_Brain___init pm_Brain___init an_Brain___init cd_Brain___init ct_Brain___init), sl_Brain___init⟩) (c_Brain___init : PySem.W.codeIn K cd_Brain___init "Brain.__init__" = true) (k_Brain___init : PySem.W.keepIn K (.ref f_Brain___init) = true)
    (a_Mind___init : PySem.W.findIn K (.ref C_Mind) "__init__" = some (some (.ref f_Mind___init))) (i_Mind___init : PySem.W.isFn K (.ref f_Mind___init) = true) (l_Mind___init : K.lookup f_Mind___init = some ⟨oc_Mind___init, od_Mind___init, .func (PySem.W.fnOf "__init__" "Mind.__init__" (fnArgs s_Mind___init) (fnBody s_Mind___init) (fnScope s_Mind___init) .none kV_Mind___init dc_Mind___init pm_Mind___init an_Mind___init cd_Mind___init ct_Mind___init), sl_Mind___init⟩) (c_Mind___init : PySem.W.codeIn K cd_Mind___init "Mind.__init__" = true) (k_Mind___init : PySem.W.keepIn K (.ref f_Mind___init) = true)
    (a_Thinker___init : PySem.W.findIn K (.ref C_Thinker) "__init__" = some (some (.ref f_Thinker___init))) (i_Thinker___init : PySem.W.isFn K (.ref f_Thinker___init) = true) (l_Thinker___init : K.lookup f_Thinker___init = some ⟨oc_Thinker___init, od_Thinker___init, .func (PySem.W.fnOf "__init__" "Thinker.__init__" (fnArgs s_Thinker___init) (fnBody s_Thinker___init) (fnScope s_Thinker___init) .none kV_Thinker___init dc_Thinker___init pm_Thinker___init an_Thinker___init cd_Thinker___init ct_Thinker___init), sl_Thinker___init⟩) (c_Thinker___init : PySem.W.codeIn K cd_Thinker___init "Thinker.__init__" = true) (k_Thinker___init : PySem.W.keepIn K (.ref f_Thinker___init) = true)
    (a_Thinker_value : PySem.W.findIn K (.ref C_Thinker) "value" = some (some (.ref f_Thinker_value))) (i_Thinker_value : PySem.W.isFn K (.ref f_Thinker_value) = true) (l_Thinker_value : K.lookup f_Thinker_value = some ⟨oc_Thinker_value, od_Thinker_value, .func (PySem.W.fnOf "value" "Thinker.value" (fnArgs s_Thinker_value) (fnBody s_Thinker_value) (fnScope s_Thinker_value) .none kV_Thinker_value dc_Thinker_value pm_Thinker_value an_Thinker_value cd_Thinker_value ct_Thinker_value), sl_Thinker_value⟩) (c_Thinker_value : PySem.W.codeIn K cd_Thinker_value "Thinker.value" = true) (k_Thinker_value : PySem.W.keepIn K (.ref f_Thinker_value) = true)
    (a_Thinker_unit : PySem.W.findIn K (.ref C_Thinker) "unit" = some (some (.ref f_Thinker_unit))) (i_Thinker_unit : PySem.W.isFn K (.ref f_Thinker_unit) = true) (l_Thinker_unit : K.lookup f_Thinker_unit = some ⟨oc_Thinker_unit, od_Thinker_unit, .func (PySem.W.fnOf "unit" "Thinker.unit" (fnArgs s_Thinker_unit) (fnBody s_Thinker_unit) (fnScope s_Thinker_unit) .none kV_Thinker_unit dc_Thinker_unit pm_Thinker_unit an_Thinker_unit cd_Thinker_unit ct_Thinker_unit), sl_Thinker_unit⟩) (c_Thinker_unit : PySem.W.codeIn K cd_Thinker_unit "Thinker.unit" = true) (k_Thinker_unit : PySem.W.keepIn K (.ref f_Thinker_unit) = true)
    (a_Thinker_run : PySem.W.findIn K (.ref C_Thinker) "run" = some (some (.ref f_Thinker_run))) (i_Thinker_run : PySem.W.isFn K (.ref f_Thinker_run) = true) (l_Thinker_run : K.lookup f_Thinker_run = some ⟨oc_Thinker_run, od_Thinker_run, .func (PySem.W.fnOf "run" "Thinker.run" (fnArgs s_Thinker_run) (fnBody s_Thinker_run) (fnScope s_Thinker_run) .none kV_Thinker_run dc_Thinker_run pm_Thinker_run an_Thinker_run cd_Thinker_run ct_Thinker_run), sl_Thinker_run⟩) (c_Thinker_run : PySem.W.codeIn K cd_Thinker_run "Thinker.run" = true) (k_Thinker_run : PySem.W.keepIn K (.ref f_Thinker_run) = true)
    (a_Thinker_step : PySem.W.findIn K (.ref C_Thinker) "step" = some (some (.ref f_Thinker_step))) (i_Thinker_step : PySem.W.isFn K (.ref f_Thinker_step) = true) (l_Thinker_step : K.lookup f_Thinker_step = some ⟨oc_Thinker_step, od_Thinker_step, .func (PySem.W.fnOf "step" "Thinker.step" (fnArgs s_Thinker_step) (fnBody s_Thinker_step) (fnScope s_Thinker_step) .none kV_Thinker_step dc_Thinker_step pm_Thinker_step an_Thinker_step cd_Thinker_step ct_Thinker_step), sl_Thinker_step⟩) (c_Thinker_step : PySem.W.codeIn K cd_Thinker_step "Thinker.step" = true) (k_Thinker_step : PySem.W.keepIn K (.ref f_Thinker_step) = true)
    (a_Thinker_loop : PySem.W.findIn K (.ref C_Thinker) "loop" = some (some (.ref f_Thinker_loop))) (i_Thinker_loop : PySem.W.isFn K (.ref f_Thinker_loop) = true) (l_Thinker_loop : K.lookup f_Thinker_loop = some ⟨oc_Thinker_loop, od_Thinker_loop, .func (PySem.W.fnOf "loop" "Thinker.loop" (fnArgs s_Thinker_loop) (fnBody s_Thinker_loop) (fnScope s_Thinker_loop) .none kV_Thinker_loop dc_Thinker_loop pm_Thinker_loop an_Thinker_loop cd_Thinker_loop ct_Thinker_loop), sl_Thinker_loop⟩) (c_Thinker_loop : PySem.W.codeIn K cd_Thinker_loop "Thinker.loop" = true) (k_Thinker_loop : PySem.W.keepIn K (.ref f_Thinker_loop) = true)
    (a_Frame___init : PySem.W.findIn K (.ref C_Frame) "__init__" = some (some (.ref f_Frame___init))) (i_Frame___init : PySem.W.isFn K (.ref f_Frame___init) = true) (l_Frame___init : K.lookup f_Frame___init = some ⟨oc_Frame___init, od_Frame___init, .func (PySem.W.fnOf "__init__" "Frame.__init__" (fnArgs s_Frame___init) (fnBody s_Frame___init) (fnScope s_Frame___init) .none kV_Frame___init dc_Frame___init pm_Frame___init an_Frame___init cd_Frame___init ct_Frame___init), sl_Frame___init⟩) (c_Frame___init : PySem.W.codeIn K cd_Frame___init "Frame.__init__" = true) (k_Frame___init : PySem.W.keepIn K (.ref f_Frame___init) = true)
    (a_Frame_advance : PySem.W.findIn K (.ref C_Frame) "advance" = some (some (.ref f_Frame_advance))) (i_Frame_advance : PySem.W.isFn K (.ref f_Frame_advance) = true) (l_Frame_advance : K.lookup f_Frame_advance = some ⟨oc_Frame_advance, od_Frame_advance, .func (PySem.W.fnOf "advance" "Frame.advance" (fnArgs s_Frame_advance) (fnBody s_Frame_advance) (fnScope s_Frame_advance) .none kV_Frame_advance dc_Frame_advance pm_Frame_advance an_Frame_advance cd_Frame_advance ct_Frame_advance), sl_Frame_advance⟩) (c_Frame_advance : PySem.W.codeIn K cd_Frame_advance "Frame.advance" = true) (k_Frame_advance : PySem.W.keepIn K (.ref f_Frame_advance) = true)
    (a_Thinking_special : PySem.W.findIn K (.ref C_Thinking) "special" = some (some (.ref f_Thinking_special))) (i_Thinking_special : PySem.W.isFn K (.ref f_Thinking_special) = true) (l_Thinking_special : K.lookup f_Thinking_special = some ⟨oc_Thinking_special, od_Thinking_special, .func (PySem.W.fnOf "special" "Thinking.special" (fnArgs s_Thinking_special) (fnBody s_Thinking_special) (fnScope s_Thinking_special) .none kV_Thinking_special dc_Thinking_special pm_Thinking_special an_Thinking_special cd_Thinking_special ct_Thinking_special), sl_Thinking_special⟩) (c_Thinking_special : PySem.W.codeIn K cd_Thinking_special "Thinking.special" = true) (k_Thinking_special : PySem.W.keepIn K (.ref f_Thinking_special) = true)
    (a_Checker___init : PySem.W.findIn K (.ref C_Checker) "__init__" = some (some (.ref f_Checker___init))) (i_Checker___init : PySem.W.isFn K (.ref f_Checker___init) = true) (l_Checker___init : K.lookup f_Checker___init = some ⟨oc_Checker___init, od_Checker___init, .func (PySem.W.fnOf "__init__" "Checker.__init__" (fnArgs s_Checker___init) (fnBody s_Checker___init) (fnScope s_Checker___init) .none kV_Checker___init dc_Checker___init pm_Checker___init an_Checker___init cd_Checker___init ct_Checker___init), sl_Checker___init⟩) (c_Checker___init : PySem.W.codeIn K cd_Checker___init "Checker.__init__" = true) (k_Checker___init : PySem.W.keepIn K (.ref f_Checker___init) = true)
    (a_Checker_reaches : PySem.W.findIn K (.ref C_Checker) "reaches" = some (some (.ref f_Checker_reaches))) (i_Checker_reaches : PySem.W.isFn K (.ref f_Checker_reaches) = true) (l_Checker_reaches : K.lookup f_Checker_reaches = some ⟨oc_Checker_reaches, od_Checker_reaches, .func (PySem.W.fnOf "reaches" "Checker.reaches" (fnArgs s_Checker_reaches) (fnBody s_Checker_reaches) (fnScope s_Checker_reaches) .none kV_Checker_reaches dc_Checker_reaches pm_Checker_reaches an_Checker_reaches cd_Checker_reaches ct_Checker_reaches), sl_Checker_reaches⟩) (c_Checker_reaches : PySem.W.codeIn K cd_Checker_reaches "Checker.reaches" = true) (k_Checker_reaches : PySem.W.keepIn K (.ref f_Checker_reaches) = true)
    (a_Checker_returns : PySem.W.findIn K (.ref C_Checker) "returns" = some (some (.ref f_Checker_returns))) (i_Checker_returns : PySem.W.isFn K (.ref f_Checker_returns) = true) (l_Checker_returns : K.lookup f_Checker_returns = some ⟨oc_Checker_returns, od_Checker_returns, .func (PySem.W.fnOf "returns" "Checker.returns" (fnArgs s_Checker_returns) (fnBody s_Checker_returns) (fnScope s_Checker_returns) .none kV_Checker_returns dc_Checker_returns pm_Checker_returns an_Checker_returns cd_Checker_returns ct_Checker_returns), sl_Checker_returns⟩) (c_Checker_returns : PySem.W.codeIn K cd_Checker_returns "Checker.returns" = true) (k_Checker_returns : PySem.W.keepIn K (.ref f_Checker_returns) = true)
    (a_Checker_good : PySem.W.findIn K (.ref C_Checker) "good" = some (some (.ref f_Checker_good))) (i_Checker_good : PySem.W.isFn K (.ref f_Checker_good) = true) (l_Checker_good : K.lookup f_Checker_good = some ⟨oc_Checker_good, od_Checker_good, .func (PySem.W.fnOf "good" "Checker.good" (fnArgs s_Checker_good) (fnBody s_Checker_good) (fnScope s_Checker_good) .none kV_Checker_good dc_Checker_good pm_Checker_good an_Checker_good cd_Checker_good ct_Checker_good), sl_Checker_good⟩) (c_Checker_good : PySem.W.codeIn K cd_Checker_good "Checker.good" = true) (k_Checker_good : PySem.W.keepIn K (.ref f_Checker_good) = true)
    (a_Thinking___init : PySem.W.findIn K (.ref C_Thinking) "__init__" = some (some (.ref f_Thinking___init)))
    (i_Thinking___init : PySem.W.isFn K (.ref f_Thinking___init) = true)
    (l_Thinking___init : K.lookup f_Thinking___init = some ⟨oc_Thinking___init, od_Thinking___init, .func (PySem.W.fnX "__init__" "Thinking.__init__" (fnArgs s_Thinking___init) (fnBody s_Thinking___init) (fnScope s_Thinking___init) [("__class__", cc_Thinking___init)] .none kV_Thinking___init dc_Thinking___init pm_Thinking___init an_Thinking___init (.ref cda_Thinking___init) ct_Thinking___init), sl_Thinking___init⟩)
    (c_Thinking___init : PySem.W.codeIn K (.ref cda_Thinking___init) "Thinking.__init__" = true)
    (k_Thinking___init : PySem.W.keepIn K (.ref f_Thinking___init) = true)
    (lc_Thinking___init : K.lookup cc_Thinking___init = some ⟨cl_Thinking___init, cld_Thinking___init, .cell (some (.ref C_Thinking)), csl_Thinking___init⟩)
    (ld_Thinking___init : K.lookup cda_Thinking___init = some ⟨ccl_Thinking___init, cdd_Thinking___init, .fields vs_Thinking___init, ccs_Thinking___init⟩)
    (vf_Thinking___init : vs_Thinking___init[2]? = some (.str file_Thinking___init tf_Thinking___init))
    (fe_Thinking___init : ((l.prog.main.file : Str) == file_Thinking___init) = true)
    (al_Thinking___init : PySem.W.ks_superIn K C_Thinking C_Thinking "__init__" = some (some (.ref f_Frame___init)))
    (mo_Thinking___init : PySem.W.mroIn K C_Thinking (.ref C_Thinking) = some true)
    (tfb_Thinking___init : PySem.W.typeIn K (.ref f_Frame___init) = some (.type "function"))
    (fib_Thinking___init : PySem.W.fnIn K f_Frame___init = true)
    (ah_Thinking_advance : PySem.W.findIn K (.ref C_Thinking) "advance" = some (some (.ref f_Frame_advance)))
    (mc_GameError : PySem.W.nsIn K mainGlobals "GameError" = some (some (.ref C_GameError)))
    (mc_BadCode : PySem.W.nsIn K mainGlobals "BadCode" = some (some (.ref C_BadCode)))
    (opq : PySem.W.nsIn K PySem.cStatics "thirdparty.any" = some none)
    (zsup : PySem.W.nsIn K mainGlobals "super" = some none)
    (ptop : (l.prog.main.scope.names.lookup ("super" : Str)).isSome = false)
    (xsp : PySem.W.specialIn K (.builtin "object.__class__") "__get__" = some (some (.builtin "getset_descriptor.__get__")))
    (xtk : PySem.W.takesIn K (.builtin "object.__class__") = some true)
    (xL_BadCode : K.lookup C_BadCode = some (excClassObj nm_BadCode q_BadCode C_BadCode N_BadCode bs_BadCode [.ref C_GameError, .type "ValueError", .type "Exception", .type "BaseException", .type "object"] true sn_BadCode sub_BadCode ab_BadCode col_BadCode dd_BadCode m0_BadCode m1_BadCode m2_BadCode m3_BadCode m5_BadCode "ValueError.__new__"))
    (al_BadCode : PySem.W.ks_superIn K C_BadCode C_BadCode "__init__" = some (some (.builtin "ValueError.__init__")))
    (ve_BadCode : PySem.W.subIn K (.ref C_BadCode) (.type "ValueError") = some true)
    (sa_BadCode : PySem.W.findIn K (.ref C_BadCode) "__setattr__" = some (some (.builtin "object.__setattr__")))
    (ga_BadCode : PySem.W.findIn K (.ref C_BadCode) "__getattribute__" = some (some (.builtin "BaseException.__getattribute__")))
    (gg_BadCode : PySem.W.findIn K (.ref C_BadCode) "__getattr__" = some none)
    (nb_BadCode : PySem.W.findIn K (.ref C_BadCode) "at" = some none)
    (iC_BadCode : PySem.W.findIn K (.ref C_BadCode) "__init__" = some (some (.ref f_BadCode___init)))
    (tf_BadCode : PySem.W.typeIn K (.ref f_BadCode___init) = some (.type "function"))
    (kC_BadCode : PySem.W.keepIn K (.ref C_BadCode) = true)
    (eC_BadCode : PySem.W.subIn K (.ref C_BadCode) (.type "BaseException") = some true)
    (tC_BadCode : PySem.W.typeIn K (.ref C_BadCode) = some (.type "type"))
    (hC_BadCode : PySem.W.hasDictIn K C_BadCode = true)
    (mo_BadCode : PySem.W.mroIn K C_BadCode (.ref C_BadCode) = some true)
    (ma_BadCode : PySem.W.mroIn K C_BadCode (.type "object") = some true)
    (ca_BadCode : PySem.W.findIn K (.ref C_BadCode) "__class__" = some (some (.builtin "object.__class__")))
    (ss_BadCode : PySem.W.subIn K (.ref C_BadCode) (.ref C_BadCode) = some true)
    (lf_BadCode : K.lookup f_BadCode___init = some ⟨oc_BadCode___init, od_BadCode___init, .func (PySem.W.fnX "__init__" "BadCode.__init__" (fnArgs s_BadCode___init) (fnBody s_BadCode___init) (fnScope s_BadCode___init) [("__class__", cc_BadCode___init)] .none .none dc_BadCode___init pm_BadCode___init an_BadCode___init (.ref cda_BadCode___init) ct_BadCode___init), sl_BadCode___init⟩)
    (cf_BadCode : PySem.W.codeIn K (.ref cda_BadCode___init) "BadCode.__init__" = true)
    (lc_BadCode : K.lookup cc_BadCode___init = some ⟨cl_BadCode___init, cld_BadCode___init, .cell (some (.ref C_BadCode)), csl_BadCode___init⟩)
    (ld_BadCode : K.lookup cda_BadCode___init = some ⟨ccl_BadCode___init, cdd_BadCode___init, .fields vs_BadCode___init, ccs_BadCode___init⟩)
    (vf_BadCode : vs_BadCode___init[2]? = some (.str file_BadCode___init tf_BadCode___init))
    (fe_BadCode : ((l.prog.main.file : Str) == file_BadCode___init) = true)
    (hkit1 : PySem.W.kitOne K (.ref C_BadCode) (.ref C_GameError) = some true)
    (z_GREATEST : PySem.W.nsIn K mainGlobals "GREATEST" = some (some (.int 65535 t_GREATEST)))
    (z_EVENTS : PySem.W.nsIn K mainGlobals "EVENTS" = some (some (.ref T_EVENTS)))
    (lT_EVENTS : K.lookup T_EVENTS = some ⟨.type "tuple", none, .seq #[.str "round" t_EVENTS0, .str "told" t_EVENTS1, .str "move" t_EVENTS2, .str "did" t_EVENTS3] nn_EVENTS, sl_EVENTS⟩)
    (z_SIGNS : PySem.W.nsIn K mainGlobals "SIGNS" = some (some (.ref T_SIGNS)))
    (lT_SIGNS : K.lookup T_SIGNS = some ⟨.type "tuple", none, .seq #[.str "+" t_SIGNS0, .str "-" t_SIGNS1, .str "*" t_SIGNS2, .str "/" t_SIGNS3, .str "mod" t_SIGNS4, .str "<" t_SIGNS5, .str "=" t_SIGNS6] nn_SIGNS, sl_SIGNS⟩)
    (z_HIGHEST : PySem.W.nsIn K mainGlobals "HIGHEST" = some (some (.int 16 t_HIGHEST)))
    (z_ROUND_NAMES : PySem.W.nsIn K mainGlobals "ROUND_NAMES" = some (some (.ref T_ROUND_NAMES)))
    (lT_ROUND_NAMES : K.lookup T_ROUND_NAMES = some ⟨.type "tuple", none, .seq #[.str "push" t_ROUND_NAMES0, .str "load" t_ROUND_NAMES1, .str "store" t_ROUND_NAMES2, .str "sign" t_ROUND_NAMES3, .str "jump" t_ROUND_NAMES4, .str "skip" t_ROUND_NAMES5, .str "lot" t_ROUND_NAMES6, .str "end" t_ROUND_NAMES7, .str "ask" t_ROUND_NAMES8, .str "show" t_ROUND_NAMES9, .str "pay" t_ROUND_NAMES10, .str "take" t_ROUND_NAMES11] nn_ROUND_NAMES, sl_ROUND_NAMES⟩)
    (z_BRAIN_NAMES : PySem.W.nsIn K mainGlobals "BRAIN_NAMES" = some (some (.ref T_BRAIN_NAMES)))
    (lT_BRAIN_NAMES : K.lookup T_BRAIN_NAMES = some ⟨.type "tuple", none, .seq #[.str "push" t_BRAIN_NAMES0, .str "load" t_BRAIN_NAMES1, .str "store" t_BRAIN_NAMES2, .str "sign" t_BRAIN_NAMES3, .str "jump" t_BRAIN_NAMES4, .str "skip" t_BRAIN_NAMES5, .str "lot" t_BRAIN_NAMES6, .str "end" t_BRAIN_NAMES7, .str "view" t_BRAIN_NAMES8, .str "long" t_BRAIN_NAMES9, .str "unit" t_BRAIN_NAMES10, .str "back" t_BRAIN_NAMES11] nn_BRAIN_NAMES, sl_BRAIN_NAMES⟩)
    (z_EFFECTS : PySem.W.nsIn K mainGlobals "EFFECTS" = some (some (.ref T_EFFECTS)))
    (lT_EFFECTS : K.lookup T_EFFECTS = some ⟨.type "dict", none, .dict es_EFFECTS nn_EFFECTS, #[]⟩)
    (kl_EFFECTS : PySem.W.KeysLit w.params es_EFFECTS.toList)
    (gp_EFFECTS_0 : PySem.W.nsIn K T_EFFECTS "push" = some (some (.ref p_EFFECTS_0)))
    (lp_EFFECTS_0 : K.lookup p_EFFECTS_0 = some ⟨.type "tuple", none, .seq #[.int (0) tp_EFFECTS_0_0, .int (1) tp_EFFECTS_0_1] np_EFFECTS_0, sp_EFFECTS_0⟩)
    (gp_EFFECTS_1 : PySem.W.nsIn K T_EFFECTS "load" = some (some (.ref p_EFFECTS_1)))
    (lp_EFFECTS_1 : K.lookup p_EFFECTS_1 = some ⟨.type "tuple", none, .seq #[.int (0) tp_EFFECTS_1_0, .int (1) tp_EFFECTS_1_1] np_EFFECTS_1, sp_EFFECTS_1⟩)
    (gp_EFFECTS_2 : PySem.W.nsIn K T_EFFECTS "store" = some (some (.ref p_EFFECTS_2)))
    (lp_EFFECTS_2 : K.lookup p_EFFECTS_2 = some ⟨.type "tuple", none, .seq #[.int (1) tp_EFFECTS_2_0, .int (0) tp_EFFECTS_2_1] np_EFFECTS_2, sp_EFFECTS_2⟩)
    (gp_EFFECTS_3 : PySem.W.nsIn K T_EFFECTS "sign" = some (some (.ref p_EFFECTS_3)))
    (lp_EFFECTS_3 : K.lookup p_EFFECTS_3 = some ⟨.type "tuple", none, .seq #[.int (2) tp_EFFECTS_3_0, .int (1) tp_EFFECTS_3_1] np_EFFECTS_3, sp_EFFECTS_3⟩)
    (gp_EFFECTS_4 : PySem.W.nsIn K T_EFFECTS "jump" = some (some (.ref p_EFFECTS_4)))
    (lp_EFFECTS_4 : K.lookup p_EFFECTS_4 = some ⟨.type "tuple", none, .seq #[.int (0) tp_EFFECTS_4_0, .int (0) tp_EFFECTS_4_1] np_EFFECTS_4, sp_EFFECTS_4⟩)
    (gp_EFFECTS_5 : PySem.W.nsIn K T_EFFECTS "skip" = some (some (.ref p_EFFECTS_5)))
    (lp_EFFECTS_5 : K.lookup p_EFFECTS_5 = some ⟨.type "tuple", none, .seq #[.int (1) tp_EFFECTS_5_0, .int (0) tp_EFFECTS_5_1] np_EFFECTS_5, sp_EFFECTS_5⟩)
    (gp_EFFECTS_6 : PySem.W.nsIn K T_EFFECTS "lot" = some (some (.ref p_EFFECTS_6)))
    (lp_EFFECTS_6 : K.lookup p_EFFECTS_6 = some ⟨.type "tuple", none, .seq #[.int (1) tp_EFFECTS_6_0, .int (1) tp_EFFECTS_6_1] np_EFFECTS_6, sp_EFFECTS_6⟩)
    (gp_EFFECTS_7 : PySem.W.nsIn K T_EFFECTS "ask" = some (some (.ref p_EFFECTS_7)))
    (lp_EFFECTS_7 : K.lookup p_EFFECTS_7 = some ⟨.type "tuple", none, .seq #[.int (0) tp_EFFECTS_7_0, .int (1) tp_EFFECTS_7_1] np_EFFECTS_7, sp_EFFECTS_7⟩)
    (gp_EFFECTS_8 : PySem.W.nsIn K T_EFFECTS "show" = some (some (.ref p_EFFECTS_8)))
    (lp_EFFECTS_8 : K.lookup p_EFFECTS_8 = some ⟨.type "tuple", none, .seq #[.int (1) tp_EFFECTS_8_0, .int (0) tp_EFFECTS_8_1] np_EFFECTS_8, sp_EFFECTS_8⟩)
    (gp_EFFECTS_9 : PySem.W.nsIn K T_EFFECTS "pay" = some (some (.ref p_EFFECTS_9)))
    (lp_EFFECTS_9 : K.lookup p_EFFECTS_9 = some ⟨.type "tuple", none, .seq #[.int (1) tp_EFFECTS_9_0, .int (0) tp_EFFECTS_9_1] np_EFFECTS_9, sp_EFFECTS_9⟩)
    (gp_EFFECTS_10 : PySem.W.nsIn K T_EFFECTS "take" = some (some (.ref p_EFFECTS_10)))
    (lp_EFFECTS_10 : K.lookup p_EFFECTS_10 = some ⟨.type "tuple", none, .seq #[.int (1) tp_EFFECTS_10_0, .int (0) tp_EFFECTS_10_1] np_EFFECTS_10, sp_EFFECTS_10⟩)
    (gp_EFFECTS_11 : PySem.W.nsIn K T_EFFECTS "view" = some (some (.ref p_EFFECTS_11)))
    (lp_EFFECTS_11 : K.lookup p_EFFECTS_11 = some ⟨.type "tuple", none, .seq #[.int (1) tp_EFFECTS_11_0, .int (1) tp_EFFECTS_11_1] np_EFFECTS_11, sp_EFFECTS_11⟩)
    (gp_EFFECTS_12 : PySem.W.nsIn K T_EFFECTS "long" = some (some (.ref p_EFFECTS_12)))
    (lp_EFFECTS_12 : K.lookup p_EFFECTS_12 = some ⟨.type "tuple", none, .seq #[.int (0) tp_EFFECTS_12_0, .int (1) tp_EFFECTS_12_1] np_EFFECTS_12, sp_EFFECTS_12⟩)
    (gp_EFFECTS_13 : PySem.W.nsIn K T_EFFECTS "unit" = some (some (.ref p_EFFECTS_13)))
    (lp_EFFECTS_13 : K.lookup p_EFFECTS_13 = some ⟨.type "tuple", none, .seq #[.int (0) tp_EFFECTS_13_0, .int (0) tp_EFFECTS_13_1] np_EFFECTS_13, sp_EFFECTS_13⟩)
    (gp_EFFECTS_14 : PySem.W.nsIn K T_EFFECTS "back" = some (some (.ref p_EFFECTS_14)))
    (lp_EFFECTS_14 : K.lookup p_EFFECTS_14 = some ⟨.type "tuple", none, .seq #[.int (0) tp_EFFECTS_14_0, .int (0) tp_EFFECTS_14_1] np_EFFECTS_14, sp_EFFECTS_14⟩)
    (gp_EFFECTS_15 : PySem.W.nsIn K T_EFFECTS "end" = some (some (.ref p_EFFECTS_15)))
    (lp_EFFECTS_15 : K.lookup p_EFFECTS_15 = some ⟨.type "tuple", none, .seq #[.int (0) tp_EFFECTS_15_0, .int (0) tp_EFFECTS_15_1] np_EFFECTS_15, sp_EFFECTS_15⟩)
    (z_bool : PySem.W.nsIn K mainGlobals "bool" = some none)
    (z_int : PySem.W.nsIn K mainGlobals "int" = some none)
    (z_isinstance : PySem.W.nsIn K mainGlobals "isinstance" = some none)
    (z_len : PySem.W.nsIn K mainGlobals "len" = some none)
    (z_list : PySem.W.nsIn K mainGlobals "list" = some none)
    (z_max : PySem.W.nsIn K mainGlobals "max" = some none)
    (z_min : PySem.W.nsIn K mainGlobals "min" = some none)
    (z_ord : PySem.W.nsIn K mainGlobals "ord" = some none)
    (z_range : PySem.W.nsIn K mainGlobals "range" = some none)
    (z_str : PySem.W.nsIn K mainGlobals "str" = some none)
    (z_tuple : PySem.W.nsIn K mainGlobals "tuple" = some none)
    (z_zip : PySem.W.nsIn K mainGlobals "zip" = some none)
    : ∃ fd : FuncData, (∀ (s : Shared) (v : Value), BindsTo s fd ⟨[v], []⟩ [("script", v)]) ∧ ∀ base : Heap, K.In base → base.Ns mainGlobals mg → FnOk l.prog w K mg base C8.CX0 50 fa fd ["script"] (sp_law K) := by
  have e := hfa.symm.trans (PySem.W.mg_of X G a_law)
  cases e
  have T : Txt K mg C_Tape C_Thinker C_Brain C_Mind C_Frame C_Thinking C_Checker C_GameError C_BadCode T_EVENTS T_SIGNS T_ROUND_NAMES T_BRAIN_NAMES T_EFFECTS := ⟨PySem.W.mg_none_of X G z_bool, PySem.W.mg_none_of X G z_int, PySem.W.mg_none_of X G z_isinstance, PySem.W.mg_none_of X G z_len, PySem.W.mg_none_of X G z_list, PySem.W.mg_none_of X G z_max, PySem.W.mg_none_of X G z_min, PySem.W.mg_none_of X G z_ord, PySem.W.mg_none_of X G z_range, PySem.W.mg_none_of X G z_str, PySem.W.mg_none_of X G z_tuple, PySem.W.mg_none_of X G z_zip, ⟨pg_Tape, hd_Tape, po_Tape, sa_Tape⟩, PySem.W.mg_of X G mc_Tape, ⟨⟨pg_Tape, hd_Tape, po_Tape, sa_Tape⟩, ha_Tape, hn_Tape, ht_Tape, hm_Tape, kitSelf⟩, nresults_Tape, ntaken_Tape, ⟨pg_Thinker, hd_Thinker, po_Thinker, sa_Thinker⟩, PySem.W.mg_of X G mc_Thinker, ⟨⟨pg_Thinker, hd_Thinker, po_Thinker, sa_Thinker⟩, ha_Thinker, hn_Thinker, ht_Thinker, hm_Thinker, kitSelf⟩, ntable_Thinker, nleft_Thinker, nseen_Thinker, ntape_Thinker, ⟨pg_Brain, hd_Brain, po_Brain, sa_Brain⟩, PySem.W.mg_of X G mc_Brain, ⟨⟨pg_Brain, hd_Brain, po_Brain, sa_Brain⟩, ha_Brain, hn_Brain, ht_Brain, hm_Brain, kitSelf⟩, nunits_Brain, ncells_Brain, nblock_Brain, nanswer_Brain, ⟨pg_Mind, hd_Mind, po_Mind, sa_Mind⟩, PySem.W.mg_of X G mc_Mind, ⟨⟨pg_Mind, hd_Mind, po_Mind, sa_Mind⟩, ha_Mind, hn_Mind, ht_Mind, hm_Mind, kitSelf⟩, nunits_Mind, ncells_Mind, ncode_Mind, ⟨pg_Frame, hd_Frame, po_Frame, sa_Frame⟩, PySem.W.mg_of X G mc_Frame, ⟨⟨pg_Frame, hd_Frame, po_Frame, sa_Frame⟩, ha_Frame, hn_Frame, ht_Frame, hm_Frame, kitSelf⟩, ncode_Frame, ntable_Frame, ntape_Frame, nat_Frame, nstack_Frame, nsteps_Frame, ⟨pg_Thinking, hd_Thinking, po_Thinking, sa_Thinking⟩, PySem.W.mg_of X G mc_Thinking, ⟨⟨pg_Thinking, hd_Thinking, po_Thinking, sa_Thinking⟩, ha_Thinking, hn_Thinking, ht_Thinking, hm_Thinking, kitSelf⟩, ncode_Thinking, ntable_Thinking, ntape_Thinking, nat_Thinking, nstack_Thinking, nsteps_Thinking, nleft_Thinking, nseen_Thinking, nsilent_Thinking, ndone_Thinking, ⟨pg_Checker, hd_Checker, po_Checker, sa_Checker⟩, PySem.W.mg_of X G mc_Checker, ⟨⟨pg_Checker, hd_Checker, po_Checker, sa_Checker⟩, ha_Checker, hn_Checker, ht_Checker, hm_Checker, kitSelf⟩, ncode_Checker, nslots_Checker, nmoves_Checker, nthinking_Checker, nheights_Checker, nhighest_Checker, ⟨_, PySem.W.mg_of X G z_GREATEST, ⟨_, rfl⟩⟩, ⟨_, PySem.W.mg_of X G z_EVENTS, rfl⟩, fun H => .inr ⟨_, _, _, lT_EVENTS, rfl, rfl, by show 4 ≤ sizeLine; decide, .cons ⟨_, rfl⟩ (.cons ⟨_, rfl⟩ (.cons ⟨_, rfl⟩ (.cons ⟨_, rfl⟩ (.nil))))⟩, ⟨_, lT_EVENTS, rfl, rfl⟩, ⟨_, PySem.W.mg_of X G z_SIGNS, rfl⟩, fun H => .inr ⟨_, _, _, lT_SIGNS, rfl, rfl, by show 7 ≤ sizeLine; decide, .cons ⟨_, rfl⟩ (.cons ⟨_, rfl⟩ (.cons ⟨_, rfl⟩ (.cons ⟨_, rfl⟩ (.cons ⟨_, rfl⟩ (.cons ⟨_, rfl⟩ (.cons ⟨_, rfl⟩ (.nil)))))))⟩, ⟨_, lT_SIGNS, rfl, rfl⟩, ⟨_, PySem.W.mg_of X G z_HIGHEST, ⟨_, rfl⟩⟩, ⟨_, PySem.W.mg_of X G z_ROUND_NAMES, rfl⟩, fun H => .inr ⟨_, _, _, lT_ROUND_NAMES, rfl, rfl, by show 12 ≤ sizeLine; decide, .cons ⟨_, rfl⟩ (.cons ⟨_, rfl⟩ (.cons ⟨_, rfl⟩ (.cons ⟨_, rfl⟩ (.cons ⟨_, rfl⟩ (.cons ⟨_, rfl⟩ (.cons ⟨_, rfl⟩ (.cons ⟨_, rfl⟩ (.cons ⟨_, rfl⟩ (.cons ⟨_, rfl⟩ (.cons ⟨_, rfl⟩ (.cons ⟨_, rfl⟩ (.nil))))))))))))⟩, ⟨_, lT_ROUND_NAMES, rfl, rfl⟩, ⟨_, PySem.W.mg_of X G z_BRAIN_NAMES, rfl⟩, fun H => .inr ⟨_, _, _, lT_BRAIN_NAMES, rfl, rfl, by show 12 ≤ sizeLine; decide, .cons ⟨_, rfl⟩ (.cons ⟨_, rfl⟩ (.cons ⟨_, rfl⟩ (.cons ⟨_, rfl⟩ (.cons ⟨_, rfl⟩ (.cons ⟨_, rfl⟩ (.cons ⟨_, rfl⟩ (.cons ⟨_, rfl⟩ (.cons ⟨_, rfl⟩ (.cons ⟨_, rfl⟩ (.cons ⟨_, rfl⟩ (.cons ⟨_, rfl⟩ (.nil))))))))))))⟩, ⟨_, lT_BRAIN_NAMES, rfl, rfl⟩, ⟨_, PySem.W.mg_of X G z_EFFECTS, rfl⟩, PySem.W.mg_of X G mc_GameError, PySem.W.mg_of X G mc_BadCode, ⟨ga_BadCode, gg_BadCode, eC_BadCode, hC_BadCode, ca_BadCode, xsp, xtk, ma_BadCode⟩, ⟨ga_BadCode, gg_BadCode, eC_BadCode, hC_BadCode⟩, nb_BadCode, PySem.W.exm_ref eC_BadCode hC_BadCode tC_BadCode ss_BadCode, hkit1, True.intro⟩
  have X_BadCode : SupX_BadCode.Txt l.prog K mg "BadCode" C_BadCode f_BadCode___init := { gC := PySem.W.mg_of X G mc_BadCode, cls := ⟨_, _, _, _, _, _, _, _, _, _, _, _, _, _, _, xL_BadCode, rfl⟩, along := al_BadCode, veC := ve_BadCode, sa := sa_BadCode, ga := ga_BadCode, gg := gg_BadCode, noN := nb_BadCode, iC := iC_BadCode, tC := tf_BadCode, kC := kC_BadCode, exC := eC_BadCode, tyC := tC_BadCode, hdC := hC_BadCode, opq := opq, noS := PySem.W.mg_none_of X G zsup, mroC := mo_BadCode, top := ptop, fn := ⟨_, _, _, _, _, _, _, _, _, _, _, _, _, _, _, _, _, _, lf_BadCode, cf_BadCode, lc_BadCode, ld_BadCode, vf_BadCode, fe_BadCode⟩ }
  have F_Tape___init : C8.Fun K "__init__" "Tape.__init__" s_Tape___init _ _ := ⟨⟨_, _, _, _, _, _, _, _, _, _, rfl, l_Tape___init, c_Tape___init⟩⟩
  have M_Tape : Mk K C_Tape f_Tape___init := ⟨mk_Tape, a_Tape___init, i_Tape___init, kc_Tape⟩
  have b_Tape___init : Binds K _ ["self", "results"] [] := C8.Fun.binds F_Tape___init rfl fun _ _ _ _ _ _ us hl => match us, hl with | [_, _], _ => rfl
  have F_Tape_take : C8.Fun K "take" "Tape.take" s_Tape_take _ _ := ⟨⟨_, _, _, _, _, _, _, _, _, _, rfl, l_Tape_take, c_Tape_take⟩⟩
  have M_Tape_take : Meth K C_Tape "take" f_Tape_take := ⟨a_Tape_take, i_Tape_take, k_Tape_take⟩
  have b_Tape_take : Binds K _ ["self", "count"] [] := C8.Fun.binds F_Tape_take rfl fun _ _ _ _ _ _ us hl => match us, hl with | [_, _], _ => rfl
  have F_Brain___init : C8.Fun K "__init__" "Brain.__init__" s_Brain___init _ _ := ⟨⟨_, _, _, _, _, _, _, _, _, _, rfl, l_Brain___init, c_Brain___init⟩⟩
  have M_Brain : Mk K C_Brain f_Brain___init := ⟨mk_Brain, a_Brain___init, i_Brain___init, kc_Brain⟩
  have b_Brain___init : Binds K _ ["self", "units", "cells", "block", "answer"] [] := C8.Fun.binds F_Brain___init rfl fun _ _ _ _ _ _ us hl => match us, hl with | [_, _, _, _, _], _ => rfl
  have F_Mind___init : C8.Fun K "__init__" "Mind.__init__" s_Mind___init _ _ := ⟨⟨_, _, _, _, _, _, _, _, _, _, rfl, l_Mind___init, c_Mind___init⟩⟩
  have M_Mind : Mk K C_Mind f_Mind___init := ⟨mk_Mind, a_Mind___init, i_Mind___init, kc_Mind⟩
  have b_Mind___init : Binds K _ ["self", "units", "cells", "code"] [] := C8.Fun.binds F_Mind___init rfl fun _ _ _ _ _ _ us hl => match us, hl with | [_, _, _, _], _ => rfl
  have F_Thinker___init : C8.Fun K "__init__" "Thinker.__init__" s_Thinker___init _ _ := ⟨⟨_, _, _, _, _, _, _, _, _, _, rfl, l_Thinker___init, c_Thinker___init⟩⟩
  have M_Thinker : Mk K C_Thinker f_Thinker___init := ⟨mk_Thinker, a_Thinker___init, i_Thinker___init, kc_Thinker⟩
  have b_Thinker___init : Binds K _ ["self", "brain", "cells", "seen", "tape"] [] := C8.Fun.binds F_Thinker___init rfl fun _ _ _ _ _ _ us hl => match us, hl with | [_, _, _, _, _], _ => rfl
  have F_Thinker_value : C8.Fun K "value" "Thinker.value" s_Thinker_value _ _ := ⟨⟨_, _, _, _, _, _, _, _, _, _, rfl, l_Thinker_value, c_Thinker_value⟩⟩
  have M_Thinker_value : Meth K C_Thinker "value" f_Thinker_value := ⟨a_Thinker_value, i_Thinker_value, k_Thinker_value⟩
  have b_Thinker_value : Binds K _ ["self", "expression"] [] := C8.Fun.binds F_Thinker_value rfl fun _ _ _ _ _ _ us hl => match us, hl with | [_, _], _ => rfl
  have F_Thinker_unit : C8.Fun K "unit" "Thinker.unit" s_Thinker_unit _ _ := ⟨⟨_, _, _, _, _, _, _, _, _, _, rfl, l_Thinker_unit, c_Thinker_unit⟩⟩
  have M_Thinker_unit : Meth K C_Thinker "unit" f_Thinker_unit := ⟨a_Thinker_unit, i_Thinker_unit, k_Thinker_unit⟩
  have b_Thinker_unit : Binds K _ ["self"] [] := C8.Fun.binds F_Thinker_unit rfl fun _ _ _ _ _ _ us hl => match us, hl with | [_], _ => rfl
  have F_Thinker_run : C8.Fun K "run" "Thinker.run" s_Thinker_run _ _ := ⟨⟨_, _, _, _, _, _, _, _, _, _, rfl, l_Thinker_run, c_Thinker_run⟩⟩
  have M_Thinker_run : Meth K C_Thinker "run" f_Thinker_run := ⟨a_Thinker_run, i_Thinker_run, k_Thinker_run⟩
  have b_Thinker_run : Binds K _ ["self", "block"] [] := C8.Fun.binds F_Thinker_run rfl fun _ _ _ _ _ _ us hl => match us, hl with | [_, _], _ => rfl
  have F_Thinker_step : C8.Fun K "step" "Thinker.step" s_Thinker_step _ _ := ⟨⟨_, _, _, _, _, _, _, _, _, _, rfl, l_Thinker_step, c_Thinker_step⟩⟩
  have M_Thinker_step : Meth K C_Thinker "step" f_Thinker_step := ⟨a_Thinker_step, i_Thinker_step, k_Thinker_step⟩
  have b_Thinker_step : Binds K _ ["self", "statement"] [] := C8.Fun.binds F_Thinker_step rfl fun _ _ _ _ _ _ us hl => match us, hl with | [_, _], _ => rfl
  have F_Thinker_loop : C8.Fun K "loop" "Thinker.loop" s_Thinker_loop _ _ := ⟨⟨_, _, _, _, _, _, _, _, _, _, rfl, l_Thinker_loop, c_Thinker_loop⟩⟩
  have M_Thinker_loop : Meth K C_Thinker "loop" f_Thinker_loop := ⟨a_Thinker_loop, i_Thinker_loop, k_Thinker_loop⟩
  have b_Thinker_loop : Binds K _ ["self", "test", "block"] [] := C8.Fun.binds F_Thinker_loop rfl fun _ _ _ _ _ _ us hl => match us, hl with | [_, _, _], _ => rfl
  have F_Frame___init : C8.Fun K "__init__" "Frame.__init__" s_Frame___init _ _ := ⟨⟨_, _, _, _, _, _, _, _, _, _, rfl, l_Frame___init, c_Frame___init⟩⟩
  have M_Frame : Mk K C_Frame f_Frame___init := ⟨mk_Frame, a_Frame___init, i_Frame___init, kc_Frame⟩
  have b_Frame___init : Binds K _ ["self", "code", "table", "tape"] [] := C8.Fun.binds F_Frame___init rfl fun _ _ _ _ _ _ us hl => match us, hl with | [_, _, _, _], _ => rfl
  have F_Frame_advance : C8.Fun K "advance" "Frame.advance" s_Frame_advance _ _ := ⟨⟨_, _, _, _, _, _, _, _, _, _, rfl, l_Frame_advance, c_Frame_advance⟩⟩
  have M_Frame_advance : Meth K C_Frame "advance" f_Frame_advance := ⟨a_Frame_advance, i_Frame_advance, k_Frame_advance⟩
  have b_Frame_advance : Binds K _ ["self"] [] := C8.Fun.binds F_Frame_advance rfl fun _ _ _ _ _ _ us hl => match us, hl with | [_], _ => rfl
  have F_Thinking_special : C8.Fun K "special" "Thinking.special" s_Thinking_special _ _ := ⟨⟨_, _, _, _, _, _, _, _, _, _, rfl, l_Thinking_special, c_Thinking_special⟩⟩
  have M_Thinking_special : Meth K C_Thinking "special" f_Thinking_special := ⟨a_Thinking_special, i_Thinking_special, k_Thinking_special⟩
  have b_Thinking_special : Binds K _ ["self", "name", "argument"] [] := C8.Fun.binds F_Thinking_special rfl fun _ _ _ _ _ _ us hl => match us, hl with | [_, _, _], _ => rfl
  have F_Checker___init : C8.Fun K "__init__" "Checker.__init__" s_Checker___init _ _ := ⟨⟨_, _, _, _, _, _, _, _, _, _, rfl, l_Checker___init, c_Checker___init⟩⟩
  have M_Checker : Mk K C_Checker f_Checker___init := ⟨mk_Checker, a_Checker___init, i_Checker___init, kc_Checker⟩
  have b_Checker___init : Binds K _ ["self", "code", "slots", "moves", "thinking"] [] := C8.Fun.binds F_Checker___init rfl fun _ _ _ _ _ _ us hl => match us, hl with | [_, _, _, _, _], _ => rfl
  have F_Checker_reaches : C8.Fun K "reaches" "Checker.reaches" s_Checker_reaches _ _ := ⟨⟨_, _, _, _, _, _, _, _, _, _, rfl, l_Checker_reaches, c_Checker_reaches⟩⟩
  have M_Checker_reaches : Meth K C_Checker "reaches" f_Checker_reaches := ⟨a_Checker_reaches, i_Checker_reaches, k_Checker_reaches⟩
  have b_Checker_reaches : Binds K _ ["self", "targets", "height"] [] := C8.Fun.binds F_Checker_reaches rfl fun _ _ _ _ _ _ us hl => match us, hl with | [_, _, _], _ => rfl
  have F_Checker_returns : C8.Fun K "returns" "Checker.returns" s_Checker_returns _ _ := ⟨⟨_, _, _, _, _, _, _, _, _, _, rfl, l_Checker_returns, c_Checker_returns⟩⟩
  have M_Checker_returns : Meth K C_Checker "returns" f_Checker_returns := ⟨a_Checker_returns, i_Checker_returns, k_Checker_returns⟩
  have b_Checker_returns : Binds K _ ["self", "at", "target"] [] := C8.Fun.binds F_Checker_returns rfl fun _ _ _ _ _ _ us hl => match us, hl with | [_, _, _], _ => rfl
  have F_Checker_good : C8.Fun K "good" "Checker.good" s_Checker_good _ _ := ⟨⟨_, _, _, _, _, _, _, _, _, _, rfl, l_Checker_good, c_Checker_good⟩⟩
  have M_Checker_good : Meth K C_Checker "good" f_Checker_good := ⟨a_Checker_good, i_Checker_good, k_Checker_good⟩
  have b_Checker_good : Binds K _ ["self", "at"] [] := C8.Fun.binds F_Checker_good rfl fun _ _ _ _ _ _ us hl => match us, hl with | [_, _], _ => rfl
  have FS_Thinking___init : FunS l.prog K "Thinking.__init__" s_Thinking___init f_Thinking___init _ C_Thinking := ⟨⟨_, _, _, _, _, _, _, _, _, _, _, _, _, _, _, _, _, _, _, rfl, l_Thinking___init, c_Thinking___init, lc_Thinking___init, ld_Thinking___init, vf_Thinking___init, fe_Thinking___init⟩⟩
  have U_Thinking : SupOk l.prog K mg C_Thinking f_Frame___init := ⟨sup_cls al_Thinking___init, al_Thinking___init, opq, PySem.W.mg_none_of X G zsup, mo_Thinking___init, ptop, tfb_Thinking___init, fib_Thinking___init⟩
  have M_Thinking : Mk K C_Thinking f_Thinking___init := ⟨mk_Thinking, a_Thinking___init, i_Thinking___init, kc_Thinking⟩
  have b_Thinking___init : Binds K _ ["self", "mind", "cells", "view", "tape"] [] := FunS.binds FS_Thinking___init fun _ _ _ _ _ _ _ us hl => match us, hl with | [_, _, _, _, _], _ => rfl
  have M_Thinking_advance : Meth K C_Thinking "advance" f_Frame_advance := ⟨ah_Thinking_advance, i_Frame_advance, k_Frame_advance⟩
  have D_view_numbers : C8.Def K mg "view_numbers" s_view_numbers _ _ := ⟨⟨⟨_, _, _, _, _, _, _, _, _, _, rfl, l_view_numbers, c_view_numbers⟩⟩, PySem.W.mg_of X G a_view_numbers, k_view_numbers⟩
  have b_view_numbers : Binds K _ ["view"] [] := C8.Fun.binds D_view_numbers.fn rfl fun _ _ _ _ _ _ us hl => match us, hl with | [_], _ => rfl
  have D_think : C8.Def K mg "think" s_think _ _ := ⟨⟨⟨_, _, _, _, _, _, _, _, _, _, rfl, l_think, c_think⟩⟩, PySem.W.mg_of X G a_think, k_think⟩
  have b_think : Binds K _ ["brain", "cells", "view", "count", "tape"] [] := C8.Fun.binds D_think.fn rfl fun _ _ _ _ _ _ us hl => match us, hl with | [_, _, _, _, _], _ => rfl
  have D_combine : C8.Def K mg "combine" s_combine _ _ := ⟨⟨⟨_, _, _, _, _, _, _, _, _, _, rfl, l_combine, c_combine⟩⟩, PySem.W.mg_of X G a_combine, k_combine⟩
  have b_combine : Binds K _ ["sign", "left", "right"] [] := C8.Fun.binds D_combine.fn rfl fun _ _ _ _ _ _ us hl => match us, hl with | [_, _, _], _ => rfl
  have D_value_of : C8.Def K mg "value_of" s_value_of _ _ := ⟨⟨⟨_, _, _, _, _, _, _, _, _, _, rfl, l_value_of, c_value_of⟩⟩, PySem.W.mg_of X G a_value_of, k_value_of⟩
  have FD_value_of : FunD K "value_of" "value_of" (fnArgs s_value_of) (fnBody s_value_of) (fnScope s_value_of) [.ref E_value_of] [] f_value_of _ := ⟨⟨_, _, _, _, _, _, _, _, _, _, rfl, l_value_of, c_value_of, .inr ⟨by simp, _, _, [_], _, rfl, lT_value_of, rfl, .cons rfl .nil⟩, .inl rfl⟩, k_value_of⟩
  obtain ⟨ds2_value_of, v2_value_of, b2_value_of⟩ := FD_value_of.binds1 (ps := ["expression", "table", "on", "seen"]) 4 1 (by simp) rfl (fun _ _ _ _ _ _ _ us its hu hi => match us, hu, its, hi with | [_, _, _, _], _, [_], _ => ⟨_, rfl, rfl⟩)
  obtain ⟨ds1_value_of, v1_value_of, b1_value_of⟩ := FD_value_of.binds1 (ps := ["expression", "table", "on", "seen"]) 3 0 (by simp) rfl (fun _ _ _ _ _ _ _ us its hu hi => match us, hu, its, hi with | [_, _, _], _, [_], _ => ⟨_, rfl, rfl⟩)
  have D_think_by_code : C8.Def K mg "think_by_code" s_think_by_code _ _ := ⟨⟨⟨_, _, _, _, _, _, _, _, _, _, rfl, l_think_by_code, c_think_by_code⟩⟩, PySem.W.mg_of X G a_think_by_code, k_think_by_code⟩
  have b_think_by_code : Binds K _ ["mind", "cells", "view", "count", "tape"] [] := C8.Fun.binds D_think_by_code.fn rfl fun _ _ _ _ _ _ us hl => match us, hl with | [_, _, _, _, _], _ => rfl
  have D_argument_fits : C8.Def K mg "argument_fits" s_argument_fits _ _ := ⟨⟨⟨_, _, _, _, _, _, _, _, _, _, rfl, l_argument_fits, c_argument_fits⟩⟩, PySem.W.mg_of X G a_argument_fits, k_argument_fits⟩
  have b_argument_fits : Binds K _ ["instruction", "slots", "moves"] [] := C8.Fun.binds D_argument_fits.fn rfl fun _ _ _ _ _ _ us hl => match us, hl with | [_, _, _], _ => rfl
  have D_targets_of : C8.Def K mg "targets_of" s_targets_of _ _ := ⟨⟨⟨_, _, _, _, _, _, _, _, _, _, rfl, l_targets_of, c_targets_of⟩⟩, PySem.W.mg_of X G a_targets_of, k_targets_of⟩
  have b_targets_of : Binds K _ ["at", "instruction"] [] := C8.Fun.binds D_targets_of.fn rfl fun _ _ _ _ _ _ us hl => match us, hl with | [_, _], _ => rfl
  have D_check_code : C8.Def K mg "check_code" s_check_code _ _ := ⟨⟨⟨_, _, _, _, _, _, _, _, _, _, rfl, l_check_code, c_check_code⟩⟩, PySem.W.mg_of X G a_check_code, k_check_code⟩
  have FD_check_code : FunD K "check_code" "check_code" (fnArgs s_check_code) (fnBody s_check_code) (fnScope s_check_code) [] [("thinking", .bl false)] f_check_code _ := ⟨⟨_, _, _, _, _, _, _, _, _, _, rfl, l_check_code, c_check_code, .inl ⟨rfl, rfl⟩, .inr ⟨_, rfl, fun q hq => by rw [List.mem_singleton] at hq; subst hq; exact ⟨_, kd_check_code, rfl⟩⟩⟩, k_check_code⟩
  obtain ⟨ds1_check_code, v1_check_code, b1_check_code⟩ := FD_check_code.binds0 (ps := ["code", "slots", "moves", "thinking"]) 3 (by simp) rfl (fun _ _ _ _ _ _ us ks hu hk => match us, hu, ks, hk with | [_, _, _], _, [_], _ => ⟨_, _, _, _, _, _, rfl, rfl, rfl⟩)
  obtain ⟨its_check_code, kb_check_code⟩ := FD_check_code.kbinds0 (ps := ["code", "slots", "moves", "thinking"]) 3 ["thinking"] [] (fun us _ ws => us ++ ws) (by simp) (fun _ h => nomatch h) (fun h1 _ h3 => h1.append h3) (fun _ _ _ _ _ _ us mv ws hu hm hw => match us, hu, mv, hm, ws, hw with | [_, _, _], _, [], _, [_], _ => rfl)
  have D_check_mind : C8.Def K mg "check_mind" s_check_mind _ _ := ⟨⟨⟨_, _, _, _, _, _, _, _, _, _, rfl, l_check_mind, c_check_mind⟩⟩, PySem.W.mg_of X G a_check_mind, k_check_mind⟩
  have b_check_mind : Binds K _ ["mind"] [] := C8.Fun.binds D_check_mind.fn rfl fun _ _ _ _ _ _ us hl => match us, hl with | [_], _ => rfl
  have D_law_pool : C8.Def K mg "_law_pool" s_law_pool _ _ := ⟨⟨⟨_, _, _, _, _, _, _, _, _, _, rfl, l_law_pool, c_law_pool⟩⟩, PySem.W.mg_of X G a_law_pool, k_law_pool⟩
  have b_law_pool : Binds K _ ["script", "budget"] [] := C8.Fun.binds D_law_pool.fn rfl fun _ _ _ _ _ _ us hl => match us, hl with | [_, _], _ => rfl
  have D_law_draw : C8.Def K mg "_law_draw" s_law_draw _ _ := ⟨⟨⟨_, _, _, _, _, _, _, _, _, _, rfl, l_law_draw, c_law_draw⟩⟩, PySem.W.mg_of X G a_law_draw, k_law_draw⟩
  have b_law_draw : Binds K _ ["pool", "size"] [] := C8.Fun.binds D_law_draw.fn rfl fun _ _ _ _ _ _ us hl => match us, hl with | [_, _], _ => rfl
  have D_law_spend : C8.Def K mg "_law_spend" s_law_spend _ _ := ⟨⟨⟨_, _, _, _, _, _, _, _, _, _, rfl, l_law_spend, c_law_spend⟩⟩, PySem.W.mg_of X G a_law_spend, k_law_spend⟩
  have b_law_spend : Binds K _ ["pool"] [] := C8.Fun.binds D_law_spend.fn rfl fun _ _ _ _ _ _ us hl => match us, hl with | [_], _ => rfl
  have D_law_few : C8.Def K mg "_law_few" s_law_few _ _ := ⟨⟨⟨_, _, _, _, _, _, _, _, _, _, rfl, l_law_few, c_law_few⟩⟩, PySem.W.mg_of X G a_law_few, k_law_few⟩
  have b_law_few : Binds K _ ["pool", "most"] [] := C8.Fun.binds D_law_few.fn rfl fun _ _ _ _ _ _ us hl => match us, hl with | [_, _], _ => rfl
  have D_law_number : C8.Def K mg "_law_number" s_law_number _ _ := ⟨⟨⟨_, _, _, _, _, _, _, _, _, _, rfl, l_law_number, c_law_number⟩⟩, PySem.W.mg_of X G a_law_number, k_law_number⟩
  have b_law_number : Binds K _ ["pool"] [] := C8.Fun.binds D_law_number.fn rfl fun _ _ _ _ _ _ us hl => match us, hl with | [_], _ => rfl
  have D_law_same : C8.Def K mg "_law_same" s_law_same _ _ := ⟨⟨⟨_, _, _, _, _, _, _, _, _, _, rfl, l_law_same, c_law_same⟩⟩, PySem.W.mg_of X G a_law_same, k_law_same⟩
  have b_law_same : Binds K _ ["actual", "due"] [] := C8.Fun.binds D_law_same.fn rfl fun _ _ _ _ _ _ us hl => match us, hl with | [_, _], _ => rfl
  have D_law_names_of_code : C8.Def K mg "_law_names_of_code" s_law_names_of_code _ _ := ⟨⟨⟨_, _, _, _, _, _, _, _, _, _, rfl, l_law_names_of_code, c_law_names_of_code⟩⟩, PySem.W.mg_of X G a_law_names_of_code, k_law_names_of_code⟩
  have b_law_names_of_code : Binds K _ [] [] := C8.Fun.binds D_law_names_of_code.fn rfl fun _ _ _ _ _ _ us hl => match us, hl with | [], _ => rfl
  have D_law_takes : C8.Def K mg "_law_takes" s_law_takes _ _ := ⟨⟨⟨_, _, _, _, _, _, _, _, _, _, rfl, l_law_takes, c_law_takes⟩⟩, PySem.W.mg_of X G a_law_takes, k_law_takes⟩
  have b_law_takes : Binds K _ ["name"] [] := C8.Fun.binds D_law_takes.fn rfl fun _ _ _ _ _ _ us hl => match us, hl with | [_], _ => rfl
  have D_law_argument : C8.Def K mg "_law_argument" s_law_argument _ _ := ⟨⟨⟨_, _, _, _, _, _, _, _, _, _, rfl, l_law_argument, c_law_argument⟩⟩, PySem.W.mg_of X G a_law_argument, k_law_argument⟩
  have b_law_argument : Binds K _ ["pair", "slots", "moves"] [] := C8.Fun.binds D_law_argument.fn rfl fun _ _ _ _ _ _ us hl => match us, hl with | [_, _, _], _ => rfl
  have D_law_targets : C8.Def K mg "_law_targets" s_law_targets _ _ := ⟨⟨⟨_, _, _, _, _, _, _, _, _, _, rfl, l_law_targets, c_law_targets⟩⟩, PySem.W.mg_of X G a_law_targets, k_law_targets⟩
  have b_law_targets : Binds K _ ["at", "pair"] [] := C8.Fun.binds D_law_targets.fn rfl fun _ _ _ _ _ _ us hl => match us, hl with | [_, _], _ => rfl
  have D_law_checked : C8.Def K mg "_law_checked" s_law_checked _ _ := ⟨⟨⟨_, _, _, _, _, _, _, _, _, _, rfl, l_law_checked, c_law_checked⟩⟩, PySem.W.mg_of X G a_law_checked, k_law_checked⟩
  have b_law_checked : Binds K _ ["code", "slots", "moves", "brain"] [] := C8.Fun.binds D_law_checked.fn rfl fun _ _ _ _ _ _ us hl => match us, hl with | [_, _, _, _], _ => rfl
  have D_law_told : C8.Def K mg "_law_told" s_law_told _ _ := ⟨⟨⟨_, _, _, _, _, _, _, _, _, _, rfl, l_law_told, c_law_told⟩⟩, PySem.W.mg_of X G a_law_told, k_law_told⟩
  have b_law_told : Binds K _ ["code", "slots", "moves", "brain"] [] := C8.Fun.binds D_law_told.fn rfl fun _ _ _ _ _ _ us hl => match us, hl with | [_, _, _, _], _ => rfl
  have D_law_some_value : C8.Def K mg "_law_some_value" s_law_some_value _ _ := ⟨⟨⟨_, _, _, _, _, _, _, _, _, _, rfl, l_law_some_value, c_law_some_value⟩⟩, PySem.W.mg_of X G a_law_some_value, k_law_some_value⟩
  have b_law_some_value : Binds K _ ["pool", "slots", "moves", "brain", "deep"] [] := C8.Fun.binds D_law_some_value.fn rfl fun _ _ _ _ _ _ us hl => match us, hl with | [_, _, _, _, _], _ => rfl
  have D_law_some_code : C8.Def K mg "_law_some_code" s_law_some_code _ _ := ⟨⟨⟨_, _, _, _, _, _, _, _, _, _, rfl, l_law_some_code, c_law_some_code⟩⟩, PySem.W.mg_of X G a_law_some_code, k_law_some_code⟩
  have b_law_some_code : Binds K _ ["pool", "slots", "moves", "brain", "deep"] [] := C8.Fun.binds D_law_some_code.fn rfl fun _ _ _ _ _ _ us hl => match us, hl with | [_, _, _, _, _], _ => rfl
  have D_law_whole_code : C8.Def K mg "_law_whole_code" s_law_whole_code _ _ := ⟨⟨⟨_, _, _, _, _, _, _, _, _, _, rfl, l_law_whole_code, c_law_whole_code⟩⟩, PySem.W.mg_of X G a_law_whole_code, k_law_whole_code⟩
  have b_law_whole_code : Binds K _ ["pool", "slots", "moves", "brain"] [] := C8.Fun.binds D_law_whole_code.fn rfl fun _ _ _ _ _ _ us hl => match us, hl with | [_, _, _, _], _ => rfl
  have D_law_any : C8.Def K mg "_law_any" s_law_any _ _ := ⟨⟨⟨_, _, _, _, _, _, _, _, _, _, rfl, l_law_any, c_law_any⟩⟩, PySem.W.mg_of X G a_law_any, k_law_any⟩
  have b_law_any : Binds K _ ["pool"] [] := C8.Fun.binds D_law_any.fn rfl fun _ _ _ _ _ _ us hl => match us, hl with | [_], _ => rfl
  have D_law_spoilt : C8.Def K mg "_law_spoilt" s_law_spoilt _ _ := ⟨⟨⟨_, _, _, _, _, _, _, _, _, _, rfl, l_law_spoilt, c_law_spoilt⟩⟩, PySem.W.mg_of X G a_law_spoilt, k_law_spoilt⟩
  have b_law_spoilt : Binds K _ ["pool", "code"] [] := C8.Fun.binds D_law_spoilt.fn rfl fun _ _ _ _ _ _ us hl => match us, hl with | [_, _], _ => rfl
  have D_law_view : C8.Def K mg "_law_view" s_law_view _ _ := ⟨⟨⟨_, _, _, _, _, _, _, _, _, _, rfl, l_law_view, c_law_view⟩⟩, PySem.W.mg_of X G a_law_view, k_law_view⟩
  have b_law_view : Binds K _ ["pool"] [] := C8.Fun.binds D_law_view.fn rfl fun _ _ _ _ _ _ us hl => match us, hl with | [_], _ => rfl
  have D_law_count : C8.Def K mg "_law_count" s_law_count _ _ := ⟨⟨⟨_, _, _, _, _, _, _, _, _, _, rfl, l_law_count, c_law_count⟩⟩, PySem.W.mg_of X G a_law_count, k_law_count⟩
  have b_law_count : Binds K _ ["pool", "view"] [] := C8.Fun.binds D_law_count.fn rfl fun _ _ _ _ _ _ us hl => match us, hl with | [_, _], _ => rfl
  have D_law_seen : C8.Def K mg "_law_seen" s_law_seen _ _ := ⟨⟨⟨_, _, _, _, _, _, _, _, _, _, rfl, l_law_seen, c_law_seen⟩⟩, PySem.W.mg_of X G a_law_seen, k_law_seen⟩
  have b_law_seen : Binds K _ ["view"] [] := C8.Fun.binds D_law_seen.fn rfl fun _ _ _ _ _ _ us hl => match us, hl with | [_], _ => rfl
  have D_law_fall : C8.Def K mg "_law_fall" s_law_fall _ _ := ⟨⟨⟨_, _, _, _, _, _, _, _, _, _, rfl, l_law_fall, c_law_fall⟩⟩, PySem.W.mg_of X G a_law_fall, k_law_fall⟩
  have b_law_fall : Binds K _ ["results", "taken", "count"] [] := C8.Fun.binds D_law_fall.fn rfl fun _ _ _ _ _ _ us hl => match us, hl with | [_, _, _], _ => rfl
  have D_law_combine : C8.Def K mg "_law_combine" s_law_combine _ _ := ⟨⟨⟨_, _, _, _, _, _, _, _, _, _, rfl, l_law_combine, c_law_combine⟩⟩, PySem.W.mg_of X G a_law_combine, k_law_combine⟩
  have b_law_combine : Binds K _ ["sign", "a", "b"] [] := C8.Fun.binds D_law_combine.fn rfl fun _ _ _ _ _ _ us hl => match us, hl with | [_, _, _], _ => rfl
  have D_law_do : C8.Def K mg "_law_do" s_law_do _ _ := ⟨⟨⟨_, _, _, _, _, _, _, _, _, _, rfl, l_law_do, c_law_do⟩⟩, PySem.W.mg_of X G a_law_do, k_law_do⟩
  have b_law_do : Binds K _ ["state", "name", "argument"] [] := C8.Fun.binds D_law_do.fn rfl fun _ _ _ _ _ _ us hl => match us, hl with | [_, _, _], _ => rfl
  have D_law_careful : C8.Def K mg "_law_careful" s_law_careful _ _ := ⟨⟨⟨_, _, _, _, _, _, _, _, _, _, rfl, l_law_careful, c_law_careful⟩⟩, PySem.W.mg_of X G a_law_careful, k_law_careful⟩
  have b_law_careful : Binds K _ ["state", "code", "most"] [] := C8.Fun.binds D_law_careful.fn rfl fun _ _ _ _ _ _ us hl => match us, hl with | [_, _, _], _ => rfl
  have D_law_state : C8.Def K mg "_law_state" s_law_state _ _ := ⟨⟨⟨_, _, _, _, _, _, _, _, _, _, rfl, l_law_state, c_law_state⟩⟩, PySem.W.mg_of X G a_law_state, k_law_state⟩
  have b_law_state : Binds K _ ["table", "sizes", "answers", "seen", "left", "results"] [] := C8.Fun.binds D_law_state.fn rfl fun _ _ _ _ _ _ us hl => match us, hl with | [_, _, _, _, _, _], _ => rfl
  have D_law_long_view : C8.Def K mg "_law_long_view" s_law_long_view _ _ := ⟨⟨⟨_, _, _, _, _, _, _, _, _, _, rfl, l_law_long_view, c_law_long_view⟩⟩, PySem.W.mg_of X G a_law_long_view, k_law_long_view⟩
  have b_law_long_view : Binds K _ ["many"] [] := C8.Fun.binds D_law_long_view.fn rfl fun _ _ _ _ _ _ us hl => match us, hl with | [_], _ => rfl
  have F_law : C8.Fun K "law" "law" s_law _ _ := ⟨⟨_, _, _, _, _, _, _, _, _, _, rfl, l_law, c_law⟩⟩
  refine ⟨PySem.W.fnOf "law" "law" (fnArgs s_law) (fnBody s_law) (fnScope s_law) .none kV_law dc_law pm_law an_law cd_law ct_law, fun s v => .of_eq rfl, fun base _ _ => ?_⟩
  have c_law_pool := ok_law_pool (P := l.prog) (w := w) (base := base) D_law_pool b_law_pool T
  have c_law_draw := ok_law_draw (P := l.prog) (w := w) (base := base) D_law_draw b_law_draw T
  have c_law_spend := ok_law_spend (P := l.prog) (w := w) (base := base) D_law_spend b_law_spend T
  have c_law_few := ok_law_few D_law_few b_law_few T c_law_draw
  have c_law_number := ok_law_number D_law_number b_law_number T c_law_draw
  have c_argument_fits := ok_fits (P := l.prog) (w := w) (base := base) D_argument_fits b_argument_fits T
  have c_targets_of := ok_tgts (P := l.prog) (w := w) (base := base) D_targets_of b_targets_of T
  have c_Checker := ok_chk_init (P := l.prog) (w := w) (base := base) M_Checker F_Checker___init b_Checker___init T
  have c_Checker_reaches := ok_reaches (P := l.prog) (w := w) (base := base) M_Checker_reaches F_Checker_reaches b_Checker_reaches T
  have c_Checker_returns := ok_returns (P := l.prog) (w := w) (base := base) M_Checker_returns F_Checker_returns b_Checker_returns T
  have hE : EffOk K w T_EFFECTS := effOk lT_EFFECTS kl_EFFECTS fun n hn => by
    have hn' : n = "push" ∨ n = "load" ∨ n = "store" ∨ n = "sign" ∨ n = "jump" ∨ n = "skip" ∨ n = "lot" ∨ n = "ask" ∨ n = "show" ∨ n = "pay" ∨ n = "take" ∨ n = "view" ∨ n = "long" ∨ n = "unit" ∨ n = "back" ∨ n = "end" := allNm_or n hn
    rcases hn' with rfl | rfl | rfl | rfl | rfl | rfl | rfl | rfl | rfl | rfl | rfl | rfl | rfl | rfl | rfl | rfl
    · exact ⟨_, gp_EFFECTS_0, _, _, _, _, lp_EFFECTS_0⟩
    · exact ⟨_, gp_EFFECTS_1, _, _, _, _, lp_EFFECTS_1⟩
    · exact ⟨_, gp_EFFECTS_2, _, _, _, _, lp_EFFECTS_2⟩
    · exact ⟨_, gp_EFFECTS_3, _, _, _, _, lp_EFFECTS_3⟩
    · exact ⟨_, gp_EFFECTS_4, _, _, _, _, lp_EFFECTS_4⟩
    · exact ⟨_, gp_EFFECTS_5, _, _, _, _, lp_EFFECTS_5⟩
    · exact ⟨_, gp_EFFECTS_6, _, _, _, _, lp_EFFECTS_6⟩
    · exact ⟨_, gp_EFFECTS_7, _, _, _, _, lp_EFFECTS_7⟩
    · exact ⟨_, gp_EFFECTS_8, _, _, _, _, lp_EFFECTS_8⟩
    · exact ⟨_, gp_EFFECTS_9, _, _, _, _, lp_EFFECTS_9⟩
    · exact ⟨_, gp_EFFECTS_10, _, _, _, _, lp_EFFECTS_10⟩
    · exact ⟨_, gp_EFFECTS_11, _, _, _, _, lp_EFFECTS_11⟩
    · exact ⟨_, gp_EFFECTS_12, _, _, _, _, lp_EFFECTS_12⟩
    · exact ⟨_, gp_EFFECTS_13, _, _, _, _, lp_EFFECTS_13⟩
    · exact ⟨_, gp_EFFECTS_14, _, _, _, _, lp_EFFECTS_14⟩
    · exact ⟨_, gp_EFFECTS_15, _, _, _, _, lp_EFFECTS_15⟩
  have c_Checker_good := ok_good (P := l.prog) (w := w) (base := base) M_Checker_good F_Checker_good b_Checker_good T hE c_argument_fits c_targets_of c_Checker_returns c_Checker_reaches
  have fn_check := ok_check D_check_code T X_BadCode c_Checker c_Checker_good
  have c_check_code := CalX.of (dvs := [.bl false]) D_check_code fn_check b1_check_code v1_check_code
  have c_check_code_thinking : CalXK l.prog w K mg base 3 "check_code" (sp_check C_BadCode) 3 ["thinking"] (fun vs zs => vs ++ zs) := ⟨_, _, _, _, fn_check, D_check_code.mgf, D_check_code.kp, kb_check_code⟩
  have c_law_names_of_code := ok_law_names (P := l.prog) (w := w) (base := base) D_law_names_of_code b_law_names_of_code T
  have c_law_takes := ok_law_takes (P := l.prog) (w := w) (base := base) D_law_takes b_law_takes T
  have c_law_argument := ok_law_argument (P := l.prog) (w := w) (base := base) D_law_argument b_law_argument T
  have c_law_targets := ok_law_targets (P := l.prog) (w := w) (base := base) D_law_targets b_law_targets T
  have c_law_checked := ok_law_checked D_law_checked b_law_checked T c_law_takes c_law_argument c_law_names_of_code c_law_targets
  have c_law_told := ok_law_told D_law_told b_law_told T c_check_code c_check_code_thinking
  have c_value0 := ok_value0 (P := l.prog) (w := w) (base := base) (k := 2) D_law_some_value b_law_some_value
  have c_value1 := ok_value D_law_some_value b_law_some_value T c_value0 (calUp c_law_draw (by decide)) (calUp c_law_spend (by decide)) (calUp c_law_number (by decide))
  have c_value2 := ok_value D_law_some_value b_law_some_value T c_value1 (calUp c_law_draw (by decide)) (calUp c_law_spend (by decide)) (calUp c_law_number (by decide))
  have c_value3 := ok_value D_law_some_value b_law_some_value T c_value2 (calUp c_law_draw (by decide)) (calUp c_law_spend (by decide)) (calUp c_law_number (by decide))
  have c_value4 := ok_value D_law_some_value b_law_some_value T c_value3 (calUp c_law_draw (by decide)) (calUp c_law_spend (by decide)) (calUp c_law_number (by decide))
  have c_law_some_value := ok_value D_law_some_value b_law_some_value T c_value4 (calUp c_law_draw (by decide)) (calUp c_law_spend (by decide)) (calUp c_law_number (by decide))
  have c_law_some_code := code_all D_law_some_code b_law_some_code T c_law_some_value c_law_draw c_law_spend c_law_few 41
  have c_law_whole_code := ok_whole D_law_whole_code b_law_whole_code T c_law_some_code c_law_some_value
  have c_law_any := ok_any D_law_any b_law_any T c_law_names_of_code c_law_draw c_law_few
  have c_law_spoilt := ok_spoilt D_law_spoilt b_law_spoilt T c_law_any c_law_draw
  have c_law_same := Th.same_all (P := l.prog) (w := w) (base := base) D_law_same b_law_same T 5
  have c_law_same10 := Th.same_all (P := l.prog) (w := w) (base := base) D_law_same b_law_same T 10
  have c_combine := Th.ok_combine (P := l.prog) (w := w) (base := base) D_combine b_combine T (k := 0)
  have c_value_of := Th.value_all D_value_of v2_value_of b2_value_of T c_combine 12
  have c_Tape := Th.ok_tape_init (P := l.prog) (w := w) (base := base) M_Tape F_Tape___init b_Tape___init T
  have c_Tape_take := Th.ok_tape_take (P := l.prog) (w := w) (base := base) M_Tape_take F_Tape_take b_Tape_take T
  have c_view_numbers := Th.ok_views (P := l.prog) (w := w) (base := base) D_view_numbers b_view_numbers T
  have c_Thinker := Th.ok_thinit (P := l.prog) (w := w) (base := base) M_Thinker F_Thinker___init b_Thinker___init T
  have c_Thinker_value := Th.ok_tval M_Thinker_value F_Thinker_value b_Thinker_value T c_value_of
  have c_Thinker_unit := Th.ok_tunit (P := l.prog) (w := w) (base := base) M_Thinker_unit F_Thinker_unit b_Thinker_unit T
  have c_Thinker_run := Th.trun_all M_Thinker_run F_Thinker_run b_Thinker_run M_Thinker_step F_Thinker_step b_Thinker_step M_Thinker_loop F_Thinker_loop b_Thinker_loop T c_Thinker_value c_Thinker_unit c_Tape_take 9
  have c_think := Th.ok_think D_think b_think T c_view_numbers c_Thinker c_Thinker_run c_Thinker_value
  have c_Brain := Th.ok_brinit (P := l.prog) (w := w) (base := base) M_Brain F_Brain___init b_Brain___init T
  have c_law_view := Th.ok_view D_law_view b_law_view T c_law_draw c_law_few c_law_number
  have c_law_count := Th.ok_count D_law_count b_law_count T c_law_draw
  have c_Mind := Th.ok_minit (P := l.prog) (w := w) (base := base) M_Mind F_Mind___init b_Mind___init T
  have c_Frame := Th.ok_frinit (P := l.prog) (w := w) (mg := mg) (base := base) F_Frame___init T
  have c_Thinking := Th.ok_tkinit M_Thinking FS_Thinking___init b_Thinking___init U_Thinking c_Frame b_Frame___init T c_view_numbers
  have c_Thinking_special := Th.ok_special M_Thinking_special F_Thinking_special b_Thinking_special T c_Tape_take
  have c_Thinking_advance := Th.ok_adv M_Thinking_advance F_Frame_advance b_Frame_advance T c_Thinking_special c_combine
  have c_think_by_code := Th.ok_tbc D_think_by_code b_think_by_code T c_Thinking c_Thinking_advance
  have fn_mind := Th.ok_cmindX D_check_mind T c_check_code_thinking
  have c_check_mind := CalX.of (dvs := []) D_check_mind fn_mind b_check_mind .nil
  have c_law_seen := Th.ok_lseen (P := l.prog) (w := w) (base := base) D_law_seen b_law_seen T
  have c_law_fall := Th.ok_lfall (P := l.prog) (w := w) (base := base) D_law_fall b_law_fall T
  have c_law_combine := Th.ok_law_combine (P := l.prog) (w := w) (base := base) D_law_combine b_law_combine T (k := 0)
  have c_law_state := Th.ok_state (P := l.prog) (w := w) (base := base) D_law_state b_law_state T
  have c_law_do := Th.ok_do D_law_do b_law_do T c_law_combine c_law_fall
  have c_law_careful := Th.ok_careful D_law_careful b_law_careful T c_law_takes c_law_do
  have c_law_long_view := Th.ok_long D_law_long_view b_law_long_view T c_law_same10 c_Mind c_Brain c_Tape c_think c_think_by_code
  exact Th.ok_law F_law T c_law_pool c_law_draw c_law_number c_law_whole_code c_law_spoilt c_law_checked c_law_told c_check_mind c_law_same c_law_long_view c_law_view c_law_count c_law_state c_law_seen c_law_careful c_Mind c_Tape c_think_by_code
theorem walk {l : PySem.W.OpenLaw} {q : Program} {loose : List Str} {XP : (Str → Option Value) → Heap → Prop} {YP : World → Heap → Prop} {d : DefRec} {K : Params → PySem.W.Frag} (hn : l.most = some 63) (hdf : d.params.defaults = [])
    (hY : ∀ (w : World) (h : Heap), YP w h → (K w.params).In h)
    (F : ∀ (w : World) (mg : Str → Option Value) (fa : Addr) (h : Heap), (K w.params).In h → h.Ns mainGlobals mg → mg d.name = some (.ref fa) →
      ∃ fd : FuncData, (∀ (s : Shared) (u : Value), BindsTo s fd ⟨[u], []⟩ [("script", u)]) ∧ ∀ base : Heap, (K w.params).In base → base.Ns mainGlobals mg → FnOk l.prog w (K w.params) mg base C8.CX0 50 fa fd ["script"] (sp_law (K w.params))) :
    PySem.W.WalkO q loose XP YP l.row.toRowW d [] (fun f vs => PySem.call f vs) :=
  L2.walk_ofB (n := 63) (k := 50) (x := "script") (CX := fun _ => C8.CX0) (sp := fun w => sp_law (K w.params)) hn (by decide) hdf ⟨rfl, by decide, by decide⟩ hY F (fun _ _ a ns hl hb _ hS => ⟨a, ns, rfl, hS, fun _ => rfl⟩) fun _ _ _ _ _ z => z
end My
open PySem PySem.W PyProof.Rows
set_option maxRecDepth 100000 in
set_option maxHeartbeats 0 in
theorem PySem.Challenge.cw_bothgain_k74_whole_checked_brains_never_holds : PySem.Challenge.rw_bothgain_k74_whole_checked_brains_never.Holds := by
  w_on; o_law; k_head; (case hw => w_witness2)
  k_fill
  refine My.walk (l := PySem.Challenge.rw_bothgain_k74_whole_checked_brains_never) rfl rfl (fun w h Y => PySem.W.kIn_of Y) ?F
  case F =>
    intro w mg fa h KX G hmg
    refine' My.all_mk KX G hmg ?a_view_numbers ?l_view_numbers ?c_view_numbers ?k_view_numbers ?a_think ?l_think ?c_think ?k_think ?a_combine ?l_combine ?c_combine ?k_combine ?a_value_of ?l_value_of ?c_value_of ?k_value_of ?lT_value_of ?a_think_by_code ?l_think_by_code ?c_think_by_code ?k_think_by_code ?a_argument_fits ?l_argument_fits ?c_argument_fits ?k_argument_fits ?a_targets_of ?l_targets_of ?c_targets_of ?k_targets_of ?a_check_code ?l_check_code ?c_check_code ?k_check_code ?kd_check_code ?a_check_mind ?l_check_mind ?c_check_mind ?k_check_mind ?a_law_pool ?l_law_pool ?c_law_pool ?k_law_pool ?a_law_draw ?l_law_draw ?c_law_draw ?k_law_draw ?a_law_spend ?l_law_spend ?c_law_spend ?k_law_spend ?a_law_few ?l_law_few ?c_law_few ?k_law_few ?a_law_number ?l_law_number ?c_law_number ?k_law_number ?a_law_same ?l_law_same ?c_law_same ?k_law_same ?a_law_names_of_code ?l_law_names_of_code ?c_law_names_of_code ?k_law_names_of_code ?a_law_takes ?l_law_takes ?c_law_takes ?k_law_takes ?a_law_argument ?l_law_argument ?c_law_argument ?k_law_argument ?a_law_targets ?l_law_targets ?c_law_targets ?k_law_targets ?a_law_checked ?l_law_checked ?c_law_checked ?k_law_checked ?a_law_told ?l_law_told ?c_law_told ?k_law_told ?a_law_some_value ?l_law_some_value ?c_law_some_value ?k_law_some_value ?a_law_some_code ?l_law_some_code ?c_law_some_code ?k_law_some_code ?a_law_whole_code ?l_law_whole_code ?c_law_whole_code ?k_law_whole_code ?a_law_any ?l_law_any ?c_law_any ?k_law_any ?a_law_spoilt ?l_law_spoilt ?c_law_spoilt ?k_law_spoilt ?a_law_view ?l_law_view ?c_law_view ?k_law_view ?a_law_count ?l_law_count ?c_law_count ?k_law_count ?a_law_seen ?l_law_seen ?c_law_seen ?k_law_seen ?a_law_fall ?l_law_fall ?c_law_fall ?k_law_fall ?a_law_combine ?l_law_combine ?c_law_combine ?k_law_combine ?a_law_do ?l_law_do ?c_law_do ?k_law_do ?a_law_careful ?l_law_careful ?c_law_careful ?k_law_careful ?a_law_state ?l_law_state ?c_law_state ?k_law_state ?a_law_long_view ?l_law_long_view ?c_law_long_view ?k_law_long_view ?a_law ?l_law ?c_law ?k_law ?mc_Tape ?pg_Tape ?hd_Tape ?po_Tape ?sa_Tape ?mk_Tape ?kc_Tape ?ha_Tape ?hn_Tape ?ht_Tape ?hm_Tape ?nresults_Tape ?ntaken_Tape ?mc_Thinker ?pg_Thinker ?hd_Thinker ?po_Thinker ?sa_Thinker ?mk_Thinker ?kc_Thinker ?ha_Thinker ?hn_Thinker ?ht_Thinker ?hm_Thinker ?ntable_Thinker ?nleft_Thinker ?nseen_Thinker ?ntape_Thinker ?mc_Brain ?pg_Brain ?hd_Brain ?po_Brain ?sa_Brain ?mk_Brain ?kc_Brain ?ha_Brain ?hn_Brain ?ht_Brain ?hm_Brain ?nunits_Brain ?ncells_Brain ?nblock_Brain ?nanswer_Brain ?mc_Mind ?pg_Mind ?hd_Mind ?po_Mind ?sa_Mind ?mk_Mind ?kc_Mind ?ha_Mind ?hn_Mind ?ht_Mind ?hm_Mind ?nunits_Mind ?ncells_Mind ?ncode_Mind ?mc_Frame ?pg_Frame ?hd_Frame ?po_Frame ?sa_Frame ?mk_Frame ?kc_Frame ?ha_Frame ?hn_Frame ?ht_Frame ?hm_Frame ?ncode_Frame ?ntable_Frame ?ntape_Frame ?nat_Frame ?nstack_Frame ?nsteps_Frame ?mc_Thinking ?pg_Thinking ?hd_Thinking ?po_Thinking ?sa_Thinking ?mk_Thinking ?kc_Thinking ?ha_Thinking ?hn_Thinking ?ht_Thinking ?hm_Thinking ?ncode_Thinking ?ntable_Thinking ?ntape_Thinking ?nat_Thinking ?nstack_Thinking ?nsteps_Thinking ?nleft_Thinking ?nseen_Thinking ?nsilent_Thinking ?ndone_Thinking ?mc_Checker ?pg_Checker ?hd_Checker ?po_Checker ?sa_Checker ?mk_Checker ?kc_Checker ?ha_Checker ?hn_Checker ?ht_Checker ?hm_Checker ?ncode_Checker ?nslots_Checker ?nmoves_Checker ?nthinking_Checker ?nheights_Checker ?nhighest_Checker ?a_Tape___init ?i_Tape___init ?l_Tape___init ?c_Tape___init ?k_Tape___init ?a_Tape_take ?i_Tape_take ?l_Tape_take ?c_Tape_take ?k_Tape_take ?a_Brain___init ?i_Brain___init ?l_Brain___init ?c_Brain___init ?k_Brain___init ?a_Mind___init ?i_Mind___init ?l_Mind___init ?c_Mind___init ?k_Mind___init ?a_Thinker___init ?i_Thinker___init ?l_Thinker___init ?c_Thinker___init ?k_Thinker___init ?a_Thinker_value ?i_Thinker_value ?l_Thinker_value ?c_Thinker_value ?k_Thinker_value ?a_Thinker_unit ?i_Thinker_unit ?l_Thinker_unit ?c_Thinker_unit ?k_Thinker_unit ?a_Thinker_run ?i_Thinker_run ?l_Thinker_run ?c_Thinker_run ?k_Thinker_run ?a_Thinker_step ?i_Thinker_step ?l_Thinker_step ?c_Thinker_step ?k_Thinker_step ?a_Thinker_loop ?i_Thinker_loop ?l_Thinker_loop ?c_Thinker_loop ?k_Thinker_loop ?a_Frame___init ?i_Frame___init ?l_Frame___init ?c_Frame___init ?k_Frame___init ?a_Frame_advance ?i_Frame_advance ?l_Frame_advance ?c_Frame_advance ?k_Frame_advance ?a_Thinking_special ?i_Thinking_special ?l_Thinking_special ?c_Thinking_special ?k_Thinking_special ?a_Checker___init ?i_Checker___init ?l_Checker___init ?c_Checker___init ?k_Checker___init ?a_Checker_reaches ?i_Checker_reaches ?l_Checker_reaches ?c_Checker_reaches ?k_Checker_reaches ?a_Checker_returns ?i_Checker_returns ?l_Checker_returns ?c_Checker_returns ?k_Checker_returns ?a_Checker_good ?i_Checker_good ?l_Checker_good ?c_Checker_good ?k_Checker_good ?a_Thinking___init ?i_Thinking___init ?l_Thinking___init ?c_Thinking___init ?k_Thinking___init ?lc_Thinking___init ?ld_Thinking___init ?vf_Thinking___init ?fe_Thinking___init ?al_Thinking___init ?mo_Thinking___init ?tfb_Thinking___init ?fib_Thinking___init ?ah_Thinking_advance ?mc_GameError ?mc_BadCode ?opq ?zsup ?ptop ?xsp ?xtk ?xL_BadCode ?al_BadCode ?ve_BadCode ?sa_BadCode ?ga_BadCode ?gg_BadCode ?nb_BadCode ?iC_BadCode ?tf_BadCode ?kC_BadCode ?eC_BadCode ?tC_BadCode ?hC_BadCode ?mo_BadCode ?ma_BadCode ?ca_BadCode ?ss_BadCode ?lf_BadCode ?cf_BadCode ?lc_BadCode ?ld_BadCode ?vf_BadCode ?fe_BadCode ?hkit1 ?z_GREATEST ?z_EVENTS ?lT_EVENTS ?z_SIGNS ?lT_SIGNS ?z_HIGHEST ?z_ROUND_NAMES ?lT_ROUND_NAMES ?z_BRAIN_NAMES ?lT_BRAIN_NAMES ?z_EFFECTS ?lT_EFFECTS ?kl_EFFECTS ?gp_EFFECTS_0 ?lp_EFFECTS_0 ?gp_EFFECTS_1 ?lp_EFFECTS_1 ?gp_EFFECTS_2 ?lp_EFFECTS_2 ?gp_EFFECTS_3 ?lp_EFFECTS_3 ?gp_EFFECTS_4 ?lp_EFFECTS_4 ?gp_EFFECTS_5 ?lp_EFFECTS_5 ?gp_EFFECTS_6 ?lp_EFFECTS_6 ?gp_EFFECTS_7 ?lp_EFFECTS_7 ?gp_EFFECTS_8 ?lp_EFFECTS_8 ?gp_EFFECTS_9 ?lp_EFFECTS_9 ?gp_EFFECTS_10 ?lp_EFFECTS_10 ?gp_EFFECTS_11 ?lp_EFFECTS_11 ?gp_EFFECTS_12 ?lp_EFFECTS_12 ?gp_EFFECTS_13 ?lp_EFFECTS_13 ?gp_EFFECTS_14 ?lp_EFFECTS_14 ?gp_EFFECTS_15 ?lp_EFFECTS_15 ?z_bool ?z_int ?z_isinstance ?z_len ?z_list ?z_max ?z_min ?z_ord ?z_range ?z_str ?z_tuple ?z_zip
    (case a_view_numbers => k_is)
    (case l_view_numbers => k_is)
    (case c_view_numbers => k_is)
    (case k_view_numbers => k_is)
    (case a_think => k_is)
    (case l_think => k_is)
    (case c_think => k_is)
    (case k_think => k_is)
    (case a_combine => k_is)
    (case l_combine => k_is)
    (case c_combine => k_is)
    (case k_combine => k_is)
    (case a_value_of => k_is)
    (case l_value_of => k_is)
    (case c_value_of => k_is)
    (case k_value_of => k_is)
    (case lT_value_of => k_is)
    (case a_think_by_code => k_is)
    (case l_think_by_code => k_is)
    (case c_think_by_code => k_is)
    (case k_think_by_code => k_is)
    (case a_argument_fits => k_is)
    (case l_argument_fits => k_is)
    (case c_argument_fits => k_is)
    (case k_argument_fits => k_is)
    (case a_targets_of => k_is)
    (case l_targets_of => k_is)
    (case c_targets_of => k_is)
    (case k_targets_of => k_is)
    (case a_check_code => k_is)
    (case l_check_code => k_is)
    (case c_check_code => k_is)
    (case k_check_code => k_is)
    (case kd_check_code => k_is)
    (case a_check_mind => k_is)
    (case l_check_mind => k_is)
    (case c_check_mind => k_is)
    (case k_check_mind => k_is)
    (case a_law_pool => k_is)
    (case l_law_pool => k_is)
    (case c_law_pool => k_is)
    (case k_law_pool => k_is)
    (case a_law_draw => k_is)
    (case l_law_draw => k_is)
    (case c_law_draw => k_is)
    (case k_law_draw => k_is)
    (case a_law_spend => k_is)
    (case l_law_spend => k_is)
    (case c_law_spend => k_is)
    (case k_law_spend => k_is)
    (case a_law_few => k_is)
    (case l_law_few => k_is)
    (case c_law_few => k_is)
    (case k_law_few => k_is)
    (case a_law_number => k_is)
    (case l_law_number => k_is)
    (case c_law_number => k_is)
    (case k_law_number => k_is)
    (case a_law_same => k_is)
    (case l_law_same => k_is)
    (case c_law_same => k_is)
    (case k_law_same => k_is)
    (case a_law_names_of_code => k_is)
    (case l_law_names_of_code => k_is)
    (case c_law_names_of_code => k_is)
    (case k_law_names_of_code => k_is)
    (case a_law_takes => k_is)
    (case l_law_takes => k_is)
    (case c_law_takes => k_is)
    (case k_law_takes => k_is)
    (case a_law_argument => k_is)
    (case l_law_argument => k_is)
    (case c_law_argument => k_is)
    (case k_law_argument => k_is)
    (case a_law_targets => k_is)
    (case l_law_targets => k_is)
    (case c_law_targets => k_is)
    (case k_law_targets => k_is)
    (case a_law_checked => k_is)
    (case l_law_checked => k_is)
    (case c_law_checked => k_is)
    (case k_law_checked => k_is)
    (case a_law_told => k_is)
    (case l_law_told => k_is)
    (case c_law_told => k_is)
    (case k_law_told => k_is)
    (case a_law_some_value => k_is)
    (case l_law_some_value => k_is)
    (case c_law_some_value => k_is)
    (case k_law_some_value => k_is)
    (case a_law_some_code => k_is)
    (case l_law_some_code => k_is)
    (case c_law_some_code => k_is)
    (case k_law_some_code => k_is)
    (case a_law_whole_code => k_is)
    (case l_law_whole_code => k_is)
    (case c_law_whole_code => k_is)
    (case k_law_whole_code => k_is)
    (case a_law_any => k_is)
    (case l_law_any => k_is)
    (case c_law_any => k_is)
    (case k_law_any => k_is)
    (case a_law_spoilt => k_is)
    (case l_law_spoilt => k_is)
    (case c_law_spoilt => k_is)
    (case k_law_spoilt => k_is)
    (case a_law_view => k_is)
    (case l_law_view => k_is)
    (case c_law_view => k_is)
    (case k_law_view => k_is)
    (case a_law_count => k_is)
    (case l_law_count => k_is)
    (case c_law_count => k_is)
    (case k_law_count => k_is)
    (case a_law_seen => k_is)
    (case l_law_seen => k_is)
    (case c_law_seen => k_is)
    (case k_law_seen => k_is)
    (case a_law_fall => k_is)
    (case l_law_fall => k_is)
    (case c_law_fall => k_is)
    (case k_law_fall => k_is)
    (case a_law_combine => k_is)
    (case l_law_combine => k_is)
    (case c_law_combine => k_is)
    (case k_law_combine => k_is)
    (case a_law_do => k_is)
    (case l_law_do => k_is)
    (case c_law_do => k_is)
    (case k_law_do => k_is)
    (case a_law_careful => k_is)
    (case l_law_careful => k_is)
    (case c_law_careful => k_is)
    (case k_law_careful => k_is)
    (case a_law_state => k_is)
    (case l_law_state => k_is)
    (case c_law_state => k_is)
    (case k_law_state => k_is)
    (case a_law_long_view => k_is)
    (case l_law_long_view => k_is)
    (case c_law_long_view => k_is)
    (case k_law_long_view => k_is)
    (case a_law => k_is)
    (case l_law => k_is)
    (case c_law => k_is)
    (case k_law => k_is)
    (case mc_Tape => k_is)
    (case pg_Tape => k_is)
    (case hd_Tape => k_is)
    (case po_Tape => k_is)
    (case sa_Tape => k_is)
    (case mk_Tape => k_is)
    (case kc_Tape => k_is)
    (case ha_Tape => k_is)
    (case hn_Tape => k_is)
    (case ht_Tape => k_is)
    (case hm_Tape => k_is)
    (case nresults_Tape => k_is)
    (case ntaken_Tape => k_is)
    (case mc_Thinker => k_is)
    (case pg_Thinker => k_is)
    (case hd_Thinker => k_is)
    (case po_Thinker => k_is)
    (case sa_Thinker => k_is)
    (case mk_Thinker => k_is)
    (case kc_Thinker => k_is)
    (case ha_Thinker => k_is)
    (case hn_Thinker => k_is)
    (case ht_Thinker => k_is)
    (case hm_Thinker => k_is)
    (case ntable_Thinker => k_is)
    (case nleft_Thinker => k_is)
    (case nseen_Thinker => k_is)
    (case ntape_Thinker => k_is)
    (case mc_Brain => k_is)
    (case pg_Brain => k_is)
    (case hd_Brain => k_is)
    (case po_Brain => k_is)
    (case sa_Brain => k_is)
    (case mk_Brain => k_is)
    (case kc_Brain => k_is)
    (case ha_Brain => k_is)
    (case hn_Brain => k_is)
    (case ht_Brain => k_is)
    (case hm_Brain => k_is)
    (case nunits_Brain => k_is)
    (case ncells_Brain => k_is)
    (case nblock_Brain => k_is)
    (case nanswer_Brain => k_is)
    (case mc_Mind => k_is)
    (case pg_Mind => k_is)
    (case hd_Mind => k_is)
    (case po_Mind => k_is)
    (case sa_Mind => k_is)
    (case mk_Mind => k_is)
    (case kc_Mind => k_is)
    (case ha_Mind => k_is)
    (case hn_Mind => k_is)
    (case ht_Mind => k_is)
    (case hm_Mind => k_is)
    (case nunits_Mind => k_is)
    (case ncells_Mind => k_is)
    (case ncode_Mind => k_is)
    (case mc_Frame => k_is)
    (case pg_Frame => k_is)
    (case hd_Frame => k_is)
    (case po_Frame => k_is)
    (case sa_Frame => k_is)
    (case mk_Frame => k_is)
    (case kc_Frame => k_is)
    (case ha_Frame => k_is)
    (case hn_Frame => k_is)
    (case ht_Frame => k_is)
    (case hm_Frame => k_is)
    (case ncode_Frame => k_is)
    (case ntable_Frame => k_is)
    (case ntape_Frame => k_is)
    (case nat_Frame => k_is)
    (case nstack_Frame => k_is)
    (case nsteps_Frame => k_is)
    (case mc_Thinking => k_is)
    (case pg_Thinking => k_is)
    (case hd_Thinking => k_is)
    (case po_Thinking => k_is)
    (case sa_Thinking => k_is)
    (case mk_Thinking => k_is)
    (case kc_Thinking => k_is)
    (case ha_Thinking => k_is)
    (case hn_Thinking => k_is)
    (case ht_Thinking => k_is)
    (case hm_Thinking => k_is)
    (case ncode_Thinking => k_is)
    (case ntable_Thinking => k_is)
    (case ntape_Thinking => k_is)
    (case nat_Thinking => k_is)
    (case nstack_Thinking => k_is)
    (case nsteps_Thinking => k_is)
    (case nleft_Thinking => k_is)
    (case nseen_Thinking => k_is)
    (case nsilent_Thinking => k_is)
    (case ndone_Thinking => k_is)
    (case mc_Checker => k_is)
    (case pg_Checker => k_is)
    (case hd_Checker => k_is)
    (case po_Checker => k_is)
    (case sa_Checker => k_is)
    (case mk_Checker => k_is)
    (case kc_Checker => k_is)
    (case ha_Checker => k_is)
    (case hn_Checker => k_is)
    (case ht_Checker => k_is)
    (case hm_Checker => k_is)
    (case ncode_Checker => k_is)
    (case nslots_Checker => k_is)
    (case nmoves_Checker => k_is)
    (case nthinking_Checker => k_is)
    (case nheights_Checker => k_is)
    (case nhighest_Checker => k_is)
    (case a_Tape___init => k_is)
    (case i_Tape___init => k_is)
    (case l_Tape___init => k_is)
    (case c_Tape___init => k_is)
    (case k_Tape___init => k_is)
    (case a_Tape_take => k_is)
    (case i_Tape_take => k_is)
    (case l_Tape_take => k_is)
    (case c_Tape_take => k_is)
    (case k_Tape_take => k_is)
    (case a_Brain___init => k_is)
    (case i_Brain___init => k_is)
    (case l_Brain___init => k_is)
    (case c_Brain___init => k_is)
    (case k_Brain___init => k_is)
    (case a_Mind___init => k_is)
    (case i_Mind___init => k_is)
    (case l_Mind___init => k_is)
    (case c_Mind___init => k_is)
    (case k_Mind___init => k_is)
    (case a_Thinker___init => k_is)
    (case i_Thinker___init => k_is)
    (case l_Thinker___init => k_is)
    (case c_Thinker___init => k_is)
    (case k_Thinker___init => k_is)
    (case a_Thinker_value => k_is)
    (case i_Thinker_value => k_is)
    (case l_Thinker_value => k_is)
    (case c_Thinker_value => k_is)
    (case k_Thinker_value => k_is)
    (case a_Thinker_unit => k_is)
    (case i_Thinker_unit => k_is)
    (case l_Thinker_unit => k_is)
    (case c_Thinker_unit => k_is)
    (case k_Thinker_unit => k_is)
    (case a_Thinker_run => k_is)
    (case i_Thinker_run => k_is)
    (case l_Thinker_run => k_is)
    (case c_Thinker_run => k_is)
    (case k_Thinker_run => k_is)
    (case a_Thinker_step => k_is)
    (case i_Thinker_step => k_is)
    (case l_Thinker_step => k_is)
    (case c_Thinker_step => k_is)
    (case k_Thinker_step => k_is)
    (case a_Thinker_loop => k_is)
    (case i_Thinker_loop => k_is)
    (case l_Thinker_loop => k_is)
    (case c_Thinker_loop => k_is)
    (case k_Thinker_loop => k_is)
    (case a_Frame___init => k_is)
    (case i_Frame___init => k_is)
    (case l_Frame___init => k_is)
    (case c_Frame___init => k_is)
    (case k_Frame___init => k_is)
    (case a_Frame_advance => k_is)
    (case i_Frame_advance => k_is)
    (case l_Frame_advance => k_is)
    (case c_Frame_advance => k_is)
    (case k_Frame_advance => k_is)
    (case a_Thinking_special => k_is)
    (case i_Thinking_special => k_is)
    (case l_Thinking_special => k_is)
    (case c_Thinking_special => k_is)
    (case k_Thinking_special => k_is)
    (case a_Checker___init => k_is)
    (case i_Checker___init => k_is)
    (case l_Checker___init => k_is)
    (case c_Checker___init => k_is)
    (case k_Checker___init => k_is)
    (case a_Checker_reaches => k_is)
    (case i_Checker_reaches => k_is)
    (case l_Checker_reaches => k_is)
    (case c_Checker_reaches => k_is)
    (case k_Checker_reaches => k_is)
    (case a_Checker_returns => k_is)
    (case i_Checker_returns => k_is)
    (case l_Checker_returns => k_is)
    (case c_Checker_returns => k_is)
    (case k_Checker_returns => k_is)
    (case a_Checker_good => k_is)
    (case i_Checker_good => k_is)
    (case l_Checker_good => k_is)
    (case c_Checker_good => k_is)
    (case k_Checker_good => k_is)
    (case a_Thinking___init => k_is)
    (case i_Thinking___init => k_is)
    (case l_Thinking___init => k_is)
    (case c_Thinking___init => k_is)
    (case k_Thinking___init => k_is)
    (case lc_Thinking___init => k_is)
    (case ld_Thinking___init => k_is)
    (case vf_Thinking___init => first | k_is | rfl | decide +kernel)
    (case fe_Thinking___init => first | k_is | rfl | decide +kernel)
    (case al_Thinking___init => first | k_is | rfl | decide +kernel)
    (case mo_Thinking___init => k_is)
    (case tfb_Thinking___init => first | k_is | rfl | decide +kernel)
    (case fib_Thinking___init => first | k_is | rfl | decide +kernel)
    (case ah_Thinking_advance => k_is)
    (case mc_GameError => k_is)
    (case mc_BadCode => k_is)
    (case opq => first | k_is | rfl | decide +kernel)
    (case zsup => k_is)
    (case ptop => first | k_is | rfl | decide +kernel)
    (case xsp => k_is)
    (case xtk => k_is)
    (case xL_BadCode => k_is)
    (case al_BadCode => first | k_is | rfl | decide +kernel)
    (case ve_BadCode => k_is)
    (case sa_BadCode => k_is)
    (case ga_BadCode => k_is)
    (case gg_BadCode => k_is)
    (case nb_BadCode => k_is)
    (case iC_BadCode => k_is)
    (case tf_BadCode => k_is)
    (case kC_BadCode => k_is)
    (case eC_BadCode => k_is)
    (case tC_BadCode => k_is)
    (case hC_BadCode => k_is)
    (case mo_BadCode => k_is)
    (case ma_BadCode => k_is)
    (case ca_BadCode => k_is)
    (case ss_BadCode => first | k_is | rfl | decide +kernel)
    (case lf_BadCode => k_is)
    (case cf_BadCode => k_is)
    (case lc_BadCode => k_is)
    (case ld_BadCode => k_is)
    (case vf_BadCode => first | k_is | rfl | decide +kernel)
    (case fe_BadCode => first | k_is | rfl | decide +kernel)
    (case hkit1 => first | k_is | kit_is | rfl | decide +kernel)
    (case z_GREATEST => k_is)
    (case z_EVENTS => k_is)
    (case lT_EVENTS => k_is)
    (case z_SIGNS => k_is)
    (case lT_SIGNS => k_is)
    (case z_HIGHEST => k_is)
    (case z_ROUND_NAMES => k_is)
    (case lT_ROUND_NAMES => k_is)
    (case z_BRAIN_NAMES => k_is)
    (case lT_BRAIN_NAMES => k_is)
    (case z_EFFECTS => k_is)
    (case lT_EFFECTS => k_is)
    (case kl_EFFECTS => exact ⟨⟨_, _, rfl, rfl⟩, ⟨_, _, rfl, rfl⟩, ⟨_, _, rfl, rfl⟩, ⟨_, _, rfl, rfl⟩, ⟨_, _, rfl, rfl⟩, ⟨_, _, rfl, rfl⟩, ⟨_, _, rfl, rfl⟩, ⟨_, _, rfl, rfl⟩, ⟨_, _, rfl, rfl⟩, ⟨_, _, rfl, rfl⟩, ⟨_, _, rfl, rfl⟩, ⟨_, _, rfl, rfl⟩, ⟨_, _, rfl, rfl⟩, ⟨_, _, rfl, rfl⟩, ⟨_, _, rfl, rfl⟩, ⟨_, _, rfl, rfl⟩, trivial⟩)
    (case gp_EFFECTS_0 => k_is)
    (case lp_EFFECTS_0 => k_is)
    (case gp_EFFECTS_1 => k_is)
    (case lp_EFFECTS_1 => k_is)
    (case gp_EFFECTS_2 => k_is)
    (case lp_EFFECTS_2 => k_is)
    (case gp_EFFECTS_3 => k_is)
    (case lp_EFFECTS_3 => k_is)
    (case gp_EFFECTS_4 => k_is)
    (case lp_EFFECTS_4 => k_is)
    (case gp_EFFECTS_5 => k_is)
    (case lp_EFFECTS_5 => k_is)
    (case gp_EFFECTS_6 => k_is)
    (case lp_EFFECTS_6 => k_is)
    (case gp_EFFECTS_7 => k_is)
    (case lp_EFFECTS_7 => k_is)
    (case gp_EFFECTS_8 => k_is)
    (case lp_EFFECTS_8 => k_is)
    (case gp_EFFECTS_9 => k_is)
    (case lp_EFFECTS_9 => k_is)
    (case gp_EFFECTS_10 => k_is)
    (case lp_EFFECTS_10 => k_is)
    (case gp_EFFECTS_11 => k_is)
    (case lp_EFFECTS_11 => k_is)
    (case gp_EFFECTS_12 => k_is)
    (case lp_EFFECTS_12 => k_is)
    (case gp_EFFECTS_13 => k_is)
    (case lp_EFFECTS_13 => k_is)
    (case gp_EFFECTS_14 => k_is)
    (case lp_EFFECTS_14 => k_is)
    (case gp_EFFECTS_15 => k_is)
    (case lp_EFFECTS_15 => k_is)
    (case z_bool => k_is)
    (case z_int => k_is)
    (case z_isinstance => k_is)
    (case z_len => k_is)
    (case z_list => k_is)
    (case z_max => k_is)
    (case z_min => k_is)
    (case z_ord => k_is)
    (case z_range => k_is)
    (case z_str => k_is)
    (case z_tuple => k_is)
    (case z_zip => k_is)

