import PyProof.Rows.All
import Wide.All
import OpenK.AllK
import Wide.FinOn
import HandS.ForMost
import HandS.ForExc
import HandS.Evl
import HandS.Strs
import HandS.SetFor
import HandS.IsInst
import HandS.Conv
import HandS.Zip
import HandS.Style
import HandS.StrMore
import KE.KEqDeep
import HandS.ExcIs
import KE.GoesRaise
import KE.GoesComp
import PySem.Challenge.RW_sumrests_k13_lists_read_or_refused
set_option Elab.async false
set_option linter.all false
set_option maxRecDepth 100000
set_option maxHeartbeats 4000000
namespace SrSet
open PySem PySem.Spec PyProof.Rows L2
/-! ### set(xs) of a list of ints, told as SetR tells it -/
/-- the object that a new set is -/
abbrev fresh (w : World) : Obj := { cls := .type "set", dict := none, data := .set #[] 0 (.fresh 0 0 (!w.params.followText "set-order")) }
section
variable {P : Program} {w : World} {A : Around} {E : Value → Shared → Prop} {s : Shared}
/-- what filling leaves of a new set at p -/
def Filled (w : World) (s s2 : Shared) (p : Addr) (ns : List Int) : Prop :=
  ∃ (h' : Heap) (tk c : Nat), s2 = { s with heap := h', toks := tk } ∧ SetR w h' p (fun j => decide (j ∈ ns)) c ∧ ∀ b o, s.heap.get? b = some o → h'.get? b = some o
/-- the items are walked into the new set, which stands at the heap's end ahead of the iterator -/
theorem fill {l : Addr} {items : Array Value} {ns : List Int} (hh : A.handled = none) (hl : s.heap.IsList l items) (hi : IntsAre items.toList ns) (hb : ns.length + 1 < scanBound)
    {R : Result → Shared → Prop} (k : ∀ s2, Filled w s s2 s.heap.objs.size ns → R (.ok (.ret .none)) s2) {h1 : Heap} {tk1 : Nat} {it : Addr} (ei : it = s.heap.objs.size + 1)
    (e1 : h1 = (s.heap.push (fresh w)).push { cls := .type "list_iterator", data := .fields #[.ref l, .int 0 0] }) :
    codeAny (model P w) A (.builtin "set.update.loop" ⟨[.ref s.heap.objs.size, .ref it], []⟩) R { s with heap := h1, toks := tk1 } := by
  subst ei
  have len : items.size = ns.length := by
    have q := IntsAre.length hi
    rwa [Array.length_toList] at q
  have lt : l < s.heap.objs.size := by
    obtain ⟨o, ho, _⟩ := hl
    exact Heap.lt_size ho
  have z1 : (s.heap.push (fresh w)).objs.size = s.heap.objs.size + 1 := Heap.size_push ..
  have at0 : h1.get? s.heap.objs.size = some (fresh w) := by
    rw [e1]
    exact Heap.get?_push_of_some _ (Heap.get?_push_size _ rfl)
  have vals : ∀ (i : Nat) (v : Value), items[i]? = some v → ∃ k t, ns[i]? = some k ∧ v = .int k t := fun i v hv => by
    have hlt : i < ns.length := by
      rw [← len]
      exact (Array.getElem?_eq_some_iff.mp hv).1
    obtain ⟨t, e⟩ := IntsAre.int_at hi i v (by rw [Array.getElem?_toList]; exact hv)
    have g : ns[i]? = some (ns.getD i 0) := by
      rw [List.getD_eq_getElem?_getD, List.getElem?_eq_getElem hlt]
      rfl
    exact ⟨_, t, g, e⟩
  have apart : l ≠ s.heap.objs.size + 1 := Nat.ne_of_lt (Nat.lt_succ_of_lt lt)
  refine set_update_ints ((Walks.list (by simpa using hh) _ l apart items).toS) s.heap.objs.size (fun m => ?_) ns len hb vals (items.size - 0) 0 { s with heap := h1, toks := tk1 } rfl (Nat.zero_le _) ?_ ⟨0, Nat.le_refl 0, setR_new_at at0⟩ fun s' c hm hc hS => ?_
  · rcases List.mem_cons.mp m with z | z
    · exact absurd z (Nat.ne_of_lt (Nat.lt_succ_self _))
    · exact absurd (List.mem_singleton.mp z).symm (Nat.ne_of_lt lt)
  · subst e1
    have g : ((s.heap.push (fresh w)).push { cls := .type "list_iterator", data := .fields #[.ref l, .int 0 0] }).get? (s.heap.objs.size + 1) = some { cls := .type "list_iterator", data := .fields #[.ref l, .int 0 0] } := by
      rw [← z1]
      exact Heap.get?_push_size _ rfl
    exact ⟨⟨_, g, rfl, rfl⟩, (hl.push _).push _⟩
  · refine k s' ⟨s'.heap, s'.toks, c, ?_, hS, fun b o e => ?_⟩
    · obtain ⟨h', g2, d', tk', os'⟩ := s'
      have eg : g2 = s.gens := hm.gens
      have ed : d' = s.drawn := hm.drawn
      have eo : os' = s.os := hm.os
      rw [eg, ed, eo]
    · have hb0 : b < s.heap.objs.size := Heap.lt_size e
      refine hm.heap b o (fun m => ?_) ?_
      · rcases List.mem_cons.mp m with z | z
        · exact absurd z (Nat.ne_of_lt hb0)
        · exact absurd (List.mem_singleton.mp z) (Nat.ne_of_lt (Nat.lt_succ_of_lt hb0))
      · rw [e1]
        exact Heap.get?_push_of_some _ (Heap.get?_push_of_some _ e)
theorem made {l : Addr} {items : Array Value} {ns : List Int} {Q : Value → Shared → Prop} (hh : A.handled = none) (hl : s.heap.IsList l items) (hi : IntsAre items.toList ns) (hb : ns.length + 1 < scanBound)
    (k : ∀ s2, Filled w s s2 s.heap.objs.size ns → Q (.ref s.heap.objs.size) s2) : wpAny (model P w) A (call (.type "set") [.ref l]) Q E s := by
  obtain ⟨c, tl, hmro⟩ := F.called_set.mro
  have m1 := F.called_set.made
  have m2 := F.called_set.sub
  refine wpAny_call (codeAny_of_tree ?_)
  show wpAny _ _ (callAny (.type "set") _) _ _ _
  refine wpAny_pure ⟨Code.quiet_builtin _ (by decide +kernel), codeAny_builtin F.entry_type_call ?_⟩
  rw [Around.under_plain (weight_type_call_type "set" [.ref l] []) rfl]
  have t1 := F.called_set.notType
  have t2 := F.called_set.canCreate
  have t3 := F.typeCall_set_1 (.ref l)
  repeat (any_goals (first | assumption | wp_step))
  refine codeAny_mono (code_set_led1 (.ref l) (E := E) (Q₁ := fun obj s₁ => obj = .ref s.heap.objs.size ∧ s₁ = { s with heap := s.heap.push (fresh w) }) ⟨rfl, rfl⟩) fun r s₁ hr => ?_
  match r, hr with
  | .error e, hr => exact hr
  | .ok (.ret obj), hr =>
    obtain ⟨rfl, rfl⟩ := hr
    have g0 : (s.heap.push (fresh w)).get? s.heap.objs.size = some (fresh w) := Heap.get?_push_size _ rfl
    have hT : Shared.TypeIs { s with heap := s.heap.push (fresh w) } (.ref s.heap.objs.size) "set" := ⟨_, g0, rfl⟩
    have i1 := F.called_set.init.lookup
    have i2 := F.called_set.init.bind (.ref s.heap.objs.size)
    repeat (any_goals (first | assumption | wp_step))
    refine codeAny_mono (codeAny_call_builtin (R := wants (fun r s2 => r = .none ∧ Filled w s s2 s.heap.objs.size ns) E) F.called_set.init.plain F.entry_set_init (check_set_init_1 hT ?_)) fun r₂ s₂ h₂ => ?_
    · have b1 := F.sub_list_set
      have b2 := F.sub_list_frozenset
      have b3 : (Value.type "list" == Value.type "dict") = false := by decide
      obtain ⟨⟨oc, od, dt, sl⟩, ho, hc, n, hd⟩ := id hl
      simp only at hc hd
      subst hc hd
      have g1 : (s.heap.push (fresh w)).get? l = some ⟨.type "list", od, .seq items n, sl⟩ := Heap.get?_push_of_some _ ho
      unfold Builtin.«set.__init__» noKeywords Builtin.Frozenset.updateFrom
      generalize eI : pyIter = It
      wp_walk
      subst eI
      refine wpAny_pyIter_list (hl.push _) ?_
      refine wpAny_bind (wpAny_runValue ?_)
      refine fill (A := A.in1.in1) (tk1 := s.toks) (by simpa using hh) hl hi hb (fun s2 hF => ?_) (Heap.size_push ..) rfl
      show wpAny _ _ _ _ _ _
      refine wpAny_pure ?_
      show wpAny _ _ (ret Value.none) _ _ _
      exact wpAny_pure ⟨rfl, hF⟩
    · match r₂, h₂ with
      | .error e, h₂ => exact h₂
      | .ok (.ret v), h₂ =>
        obtain ⟨rfl, hF⟩ := h₂
        repeat (any_goals (first | assumption | wp_step))
        exact k _ hF
      | .ok .next, h₂ => exact h₂.elim
      | .ok .brk, h₂ => exact h₂.elim
      | .ok .cont, h₂ => exact h₂.elim
  | .ok .next, hr => exact hr.elim
  | .ok .brk, hr => exact hr.elim
  | .ok .cont, hr => exact hr.elim
end
/-! ### over the layer -/
theorem nodup_len : ∀ (xs ys : List Int), xs.Nodup → (∀ x ∈ xs, x ∈ ys) → xs.length ≤ ys.length
  | [], _, _, _ => Nat.zero_le _
  | x :: xs, ys, h, m => by
    obtain ⟨h1, h2⟩ := List.nodup_cons.mp h
    have hx : x ∈ ys := m x List.mem_cons_self
    have e := List.length_erase_of_mem hx
    have hp : 0 < ys.length := List.length_pos_of_mem hx
    have ih := nodup_len xs (ys.erase x) h2 fun y hy => (List.mem_erase_of_ne fun z => h1 (by rw [← z]; exact hy)).mpr (m y (List.mem_cons_of_mem _ hy))
    rw [List.length_cons]
    omega
theorem sortedEq : ∀ (xs ys : List Int), xs.Pairwise (· < ·) → ys.Pairwise (· < ·) → (∀ k, k ∈ xs ↔ k ∈ ys) → xs = ys
  | [], [], _, _, _ => rfl
  | [], y :: ys, _, _, m => absurd ((m y).mpr List.mem_cons_self) (by simp)
  | x :: xs, [], _, _, m => absurd ((m x).mp List.mem_cons_self) (by simp)
  | x :: xs, y :: ys, hx, hy, m => by
    obtain ⟨x1, x2⟩ := List.pairwise_cons.mp hx
    obtain ⟨y1, y2⟩ := List.pairwise_cons.mp hy
    have e : x = y := by
      rcases List.mem_cons.mp ((m x).mp List.mem_cons_self) with e | e
      · exact e
      · rcases List.mem_cons.mp ((m y).mpr List.mem_cons_self) with z | z
        · exact z.symm
        · have a := y1 x e
          have b := x1 y z
          omega
    subst e
    rw [sortedEq xs ys x2 y2 fun k => ?_]
    constructor
    · intro hk
      rcases List.mem_cons.mp ((m k).mp (List.mem_cons_of_mem _ hk)) with z | z
      · exact absurd (x1 k hk) (by omega)
      · exact z
    · intro hk
      rcases List.mem_cons.mp ((m k).mpr (List.mem_cons_of_mem _ hk)) with z | z
      · exact absurd (y1 k hk) (by omega)
      · exact z
section
variable {X : Cx}
/-- set(xs), xs a list of ints; c: how many differ -/
def rSetOfL (K : PySem.W.Frag) (w : World) : List V → Hp → VK → Prop := fun xs H Q => ∃ (l : Addr) (ns : List Int), xs = [.ref l] ∧ SqL K H l (ns.map V.int) ∧ ns.length ≤ 2000 ∧
  ∀ (p : Addr) (ks : List Int), ks.Nodup → (∀ k, k ∈ ks ↔ k ∈ ns) → H p = none → Q (.ref p) (upd H p (SetO w p (fun j => decide (j ∈ ns)) ks.length))
theorem cr_setOfL (hc : X.calm = true) : CallR X (.type "set") (rSetOfL X.K X.w) := by
  intro pins s σ H xs us Q I r h
  obtain ⟨l, ns, rfl, hq, hl, q⟩ := h
  rw [Vals.ref1 r]
  obtain ⟨its, rv, pl, hz⟩ := I.list hq
  have hi : IntsAre its.toArray.toList ns := ints_of_vals (by simpa using rv)
  refine made (I.ok.hd hc) pl.isList hi (by unfold scanBound; omega) fun s2 hF => ?_
  obtain ⟨h', tk, c, rfl, hS, k⟩ := hF
  obtain ⟨o, es, ep, t, ho, hex, hdt, g, nd, hm, hb, hf, hn, hr, hl2⟩ := id hS
  have hlen : (es.toList.map keyOf).length = c := by rw [List.length_map, Array.length_toList]; exact hn
  have hmem : ∀ j, j ∈ es.toList.map keyOf ↔ j ∈ ns := fun j => by
    rw [← hm j, decide_eq_true_eq]
  have q2 := q s.heap.objs.size (es.toList.map keyOf) nd hmem (I.hok.fresh (Nat.le_refl _))
  rw [hlen] at q2
  exact ⟨.ref _, _, I.laid (t' := tk) k (Nat.le_refl _) (setO_new hS), rfl, q2⟩
open Evl in
/-- sorted(set(xs)) of a new list of ints below a bound -/
theorem el_sortedSet {K : PySem.W.Frag} {w : World} {te : TE} {σ : L2.St} {H : Hp} {ns ys : List Int} {b : Nat} (h : EvL te σ H (ns.map V.int)) (hl : ns.length ≤ 2000) (hb : b < 64) (hk : ∀ k ∈ ns, 0 ≤ k ∧ k < (b : Int)) (hy : ys.Pairwise (· < ·)) (hm : ∀ k, k ∈ ys ↔ k ∈ ns) :
    EvL (tCB (rSortedSet w) (tCons (tCB (rSetOfL K w) (tCons te tNil)) tNil)) σ H (ys.map V.int) := fun H1 e Q q =>
  h H1 e _ fun p H2 hp e2 h2 => ⟨p, ns, rfl, sq_of h2, hl, fun s ks nd hks hs => ⟨s, _, ks.length, rfl, upd_same, by
      refine Nat.lt_of_le_of_lt (nodup_len ks ((List.range b).map fun i : Nat => (i : Int)) nd fun x hx => ?_) (by rw [List.length_map, List.length_range]; exact hb)
      obtain ⟨h0, h1⟩ := hk x ((hks x).mp hx)
      exact List.mem_map.mpr ⟨x.toNat, List.mem_range.mpr (by omega), by omega⟩,
    fun zs r hz hzm hzl hr => by
      have e3 : Ex H2 (upd H2 s (SetO w s (fun j => decide (j ∈ ns)) ks.length)) := Ex.new hs
      have ez : zs = ys := sortedEq zs ys hz hy fun k => by rw [hzm, hm, decide_eq_true_eq]
      subst ez
      exact q r _ (fresh_back (e2.trans e3) hr) ((e2.trans e3).trans (Ex.new hr)) upd_same⟩⟩
end
end SrSet
namespace Sr
open PySem PySem.Spec PyProof.Rows L2 Evl
/-! ### what a def of the text is worth to its callers: by its name in the module -/
def CalX (CX : CXT) (P : Program) (w : World) (K : PySem.W.Frag) (mg : Str → Option Value) (base : Heap) (x : Str) (k : Nat) (ps : List Str) (sp : Sp) : Prop :=
  ∃ (f : Addr) (fd : FuncData), FnOk P w K mg base CX k f fd ps sp ∧ mg x = some (.ref f) ∧ PySem.W.keepIn K (.ref f) = true ∧ Binds K fd ps []
/-- no exception leaves it; one may -/
abbrev Cal0 (P : Program) (w : World) := CalX CX0 P w
abbrev CalE (P : Program) (w : World) := CalX (L2.CX P w) P w
/-- a def as the top has left it -/
def Top (K : PySem.W.Frag) (mg : Str → Option Value) (x : Str) (st : Stmt) (ps : List Str) : Prop := ∃ (f : Addr) (fd : FuncData), Fun K x x st f fd ∧ mg x = some (.ref f) ∧ Binds K fd ps []
/-- the built-in names stand for themselves -/
structure NB (mg : Str → Option Value) : Prop where
  len : mg "len" = none
  range : mg "range" = none
  sorted : mg "sorted" = none
  set : mg "set" = none
  list : mg "list" = none
  dict : mg "dict" = none
  sum : mg "sum" = none
  min : mg "min" = none
  max : mg "max" = none
  abs : mg "abs" = none
  isinstance : mg "isinstance" = none
  str : mg "str" = none
  int : mg "int" = none
  bool : mg "bool" = none
  tuple : mg "tuple" = none
/-- a constant of the module -/
structure Cst (mg : Str → Option Value) (x : Str) (v : V) (u : Value) : Prop where
  gm : mg x = some u
  rel : RelV v u
/-- an own exception class over ValueError, without an __init__ -/
structure Exc (K : PySem.W.Frag) (mg : Str → Option Value) (x : Str) (C : Addr) : Prop where
  gC : mg x = some (.ref C)
  x : PySem.W.excIn K C [.type "ValueError", .type "Exception", .type "BaseException", .type "object"] "ValueError.__new__" = true
  k : PySem.W.keepIn K (.ref C) = true
  b : PySem.W.subIn K (.ref C) (.type "BaseException") = some true
  t : PySem.W.typeIn K (.ref C) = some (.type "type")
section
variable {X : Cx}
theorem pe_cal {CX : CXT} {x : Str} {k : Nat} {ps : List Str} {sp : Sp} {E : XK} {e : Expr} {es : List Expr} {t : TA} {p pos : Pos} (C : CalX CX X.prog X.w X.K X.mg X.base x k ps sp) (hr : Room k X.A) (hx : Passes CX X E) (ha : PA X (e :: es) t) (hg : Gl X x := by rfl)
    (hdb : (x == ("__debug__" : Str)) = false := by decide) (he : starEach (e :: es) X.env = (false, eval e X.env) :: starEach es X.env := by rfl) (hpl : (backTo pos (starEach es X.env)).any (·.1) = false := by rfl) :
    PE X (.Call (.Name x p) (e :: es) [] pos) (tCall sp [] E t) := by
  obtain ⟨f, fd, F, hm, hk, hb⟩ := C
  exact pe_call F hr hg hm hk hb .nil hx ha hdb he hpl
/-- // by a positive number below 2 ^ 30 -/
theorem op_fdivP : OpR X (binaryOp .FloorDiv) (rI CDiv fun i j => .int (i / j)) := op_fdiv
/-- a op1 b op2 c op3 d, as a test -/
def tCh3 (r1 r2 r3 : R2) (ta tb tc td : TE) : TT := fun σ H Q => ta σ H fun x H1 => tb σ H1 fun y H2 => r1 x y H2 fun z H3 => ∃ k, z = .bl k ∧
  (if k = true then tc σ H3 fun u H4 => r2 y u H4 fun z2 H5 => ∃ k2, z2 = .bl k2 ∧ (if k2 = true then td σ H5 fun v H6 => r3 u v H6 fun z3 H7 => ∃ k3, z3 = .bl k3 ∧ Q k3 H7 else Q false H5) else Q false H3)
theorem pt_chain3 {o1 o2 o3 : CmpOp} {r1 r2 r3 : R2} {a b c d : Expr} {ta tb tc td : TE} {pos : Pos} (h1 : OpR X (compareOp o1) r1) (h2 : OpR X (compareOp o2) r2) (h3 : OpR X (compareOp o3) r3) (ha : PE X a ta) (hb : PE X b tb) (hc : PE X c tc) (hd : PE X d td)
    (hm : lastMarks [o1, o2, o3] [b, c, d] = false := by with_unfolding_all rfl) : PT X (.Compare a [o1, o2, o3] [b, c, d] pos) (tCh3 r1 r2 r3 ta tb tc td) := by
  refine ⟨fun pins s σ H Q I h => ?_⟩
  refine isTrue_chain (thn (ha.run pins s σ H _ I h) fun v s1 ⟨x, H1, I1, rx, q1⟩ => ?_) hm
  refine test_link (thn (hb.run pins s1 σ H1 _ I1 q1) fun u s2 ⟨y, H2, I2, ry, q2⟩ => thn (h1 pins s2 σ H2 x y v u _ I2 rx ry q2) fun e s3 hh => ?_)
  obtain ⟨z, H3, I3, rz, k, ez, q3⟩ := hh
  subst ez
  cases rz
  refine wpAny_truthy_bool ?_
  cases k with
  | false => exact ite_ff ⟨H3, I3, q3⟩
  | true =>
    refine ite_tt (test_link (thn (hc.run pins s3 σ H3 _ I3 q3) fun u4 s4 ⟨y4, H4, I4, r4, q4⟩ => thn (h2 pins s4 σ H4 y y4 u u4 _ I4 ry r4 q4) fun e5 s5 hh => ?_))
    obtain ⟨z5, H5, I5, r5, k5, e5, q5⟩ := hh
    subst e5
    cases r5
    refine wpAny_truthy_bool ?_
    cases k5 with
    | false => exact ite_ff ⟨H5, I5, q5⟩
    | true =>
      refine ite_tt (test_last (thn (hd.run pins s5 σ H5 _ I5 q5) fun u6 s6 ⟨y6, H6, I6, r6, q6⟩ => thn (h3 pins s6 σ H6 y4 y6 u4 u6 _ I6 r4 r6 q6) fun e7 s7 hh => ?_))
      obtain ⟨z7, H7, I7, r7, k7, e7, q7⟩ := hh
      subst e7
      cases r7
      exact wpAny_truthy_bool ⟨H7, I7, q7⟩
end
/-! the layer's rules that speak of the written part, by its own name (so that they serve within a comprehension's block) -/
section
variable {X : Cx} (K : PySem.W.Frag)
theorem k_len (hK : X.K = K := by rfl) : CallR X (.builtin "len") (fun xs H Q => ∃ p ys, xs = [.ref p] ∧ (SqL K H p ys ∨ SqT K H p ys) ∧ Q (.int ys.length) H) := by
  subst hK
  exact call_len_seq
theorem k_listof (hK : X.K = K := by rfl) : CallR X (.type "list") (fun xs H Q => ∃ p ys, xs = [.ref p] ∧ (SqL K H p ys ∨ SqT K H p ys) ∧ ∀ l, H l = none → Q (.ref l) (upd H l (.lst ys))) := by
  subst hK
  exact call_list_of
theorem k_isi (hK : X.K = K := by rfl) : CallR X (.builtin "isinstance") (rIsi K) := by
  subst hK
  exact call_isi
theorem k_sorted (hK : X.K = K := by rfl) : CallR X (.builtin "sorted") (rSorted K) := by
  subst hK
  exact cr_sorted
theorem k_sum (hc : X.calm = true := by rfl) (hK : X.K = K := by rfl) : CallR X (.builtin "sum") (rSum K) := by
  subst hK
  exact cr_sum hc
theorem k_set (w : World) (hc : X.calm = true := by rfl) (hK : X.K = K := by rfl) (hw : X.w = w := by rfl) : CallR X (.type "set") (SrSet.rSetOfL K w) := by
  subst hK hw
  exact SrSet.cr_setOfL hc
theorem k_sortedSet (w : World) (hc : X.calm = true := by rfl) (hw : X.w = w := by rfl) : CallR X (.builtin "sorted") (rSortedSet w) := by
  subst hw
  exact cr_sortedSet hc
theorem k_ixL (hK : X.K = K := by rfl) : IxR X (rIxL K) := by
  subst hK
  exact ix_list
theorem k_ixT (hK : X.K = K := by rfl) : IxR X (rIxT K) := by
  subst hK
  exact ix_tup
theorem k_in (hK : X.K = K := by rfl) : OpR X (compareOp .In) (rIn K false) := by
  subst hK
  exact op_in_seq
theorem k_notIn (hK : X.K = K := by rfl) : OpR X (compareOp .NotIn) (rIn K true) := by
  subst hK
  exact op_notIn_seq
theorem k_eqD (hu : X.A.units + 64 < cLine) (hK : X.K = K := by rfl) : OpR X (compareOp .Eq) (rEqD K) := by
  subst hK
  exact op_eqD hu
theorem k_neD (hu : X.A.units + 64 < cLine) (hK : X.K = K := by rfl) : OpR X (compareOp .NotEq) (rNeD K) := by
  subst hK
  exact op_neD hu
theorem k_slL (hK : X.K = K := by rfl) : SlR X (rSlL K) := by
  subst hK
  exact sl_list
theorem k_rev {e : Expr} {te : TE} {k : Nat} {p1 p2 p3 pos : Pos} (he : PE X e te) (hK : X.K = K := by rfl) : PE X (.Subscript e (.Slice none none (some (.UnaryOp .USub (.Constant (.int 1) k p1) p2)) p3) pos) (tRevL K te) := by
  subst hK
  exact pe_revL he
theorem k_list {tg l : Expr} {tl : TE} (hl : PE X l tl) (hK : X.K = K := by rfl) : PI X tg l (iList K tl) := by
  subst hK
  exact pi_list hl
end
/-! ### more of Evl: what evaluates to what -/
section
variable {K : PySem.W.Frag} {σ : L2.St} {H H' : Hp} {ta tb te tx : TE} {t u : TT} {x y z v : V} {D : Ends} {tu tw tz : TS}
/-- comparisons as tests -/
theorem et_op {r : R2} {b : Bool} (ha : Ev ta σ H x) (hb : Ev tb σ H y) (hr : RV r x y H (.bl b)) : EvT (tTest (tOp r ta tb)) σ H b := et_test (ev_op ha hb hr)
theorem et_lt {i j : Int} (ha : Ev ta σ H (.int i)) (hb : Ev tb σ H (.int j)) : EvT (tTest (tOp (rI0 fun i j => .bl (decide (i < j))) ta tb)) σ H (decide (i < j)) := et_op ha hb rv_I0
theorem et_gt {i j : Int} (ha : Ev ta σ H (.int i)) (hb : Ev tb σ H (.int j)) : EvT (tTest (tOp (rI0 fun i j => .bl (decide (j < i))) ta tb)) σ H (decide (j < i)) := et_op ha hb rv_I0
theorem et_le {i j : Int} (ha : Ev ta σ H (.int i)) (hb : Ev tb σ H (.int j)) : EvT (tTest (tOp (rI0 fun i j => .bl (decide (i ≤ j))) ta tb)) σ H (decide (i ≤ j)) := et_op ha hb rv_I0
theorem et_ge {i j : Int} (ha : Ev ta σ H (.int i)) (hb : Ev tb σ H (.int j)) : EvT (tTest (tOp (rI0 fun i j => .bl (decide (j ≤ i))) ta tb)) σ H (decide (j ≤ i)) := et_op ha hb rv_I0
theorem decInt {i j : Int} : decide (V.int i = V.int j) = decide (i = j) := by
  rw [Bool.eq_iff_iff]
  simp
theorem et_eq {i j : Int} (ha : Ev ta σ H (.int i)) (hb : Ev tb σ H (.int j)) : EvT (tTest (tOp rEq ta tb)) σ H (decide (i = j)) := by
  have h := et_op ha hb (rv_eq (H := H) (x := .int i) (y := .int j) rfl)
  rw [decInt] at h
  exact h
theorem et_ne {i j : Int} (ha : Ev ta σ H (.int i)) (hb : Ev tb σ H (.int j)) : EvT (tTest (tOp rNe ta tb)) σ H (!decide (i = j)) := by
  have h := et_op ha hb (rv_ne (H := H) (x := .int i) (y := .int j) rfl)
  rw [decInt] at h
  exact h
theorem ev_eqI {i j : Int} (ha : Ev ta σ H (.int i)) (hb : Ev tb σ H (.int j)) : Ev (tOp rEq ta tb) σ H (.bl (decide (i = j))) := by
  have h := ev_op ha hb (rv_eq (H := H) (x := .int i) (y := .int j) rfl)
  rw [decInt] at h
  exact h
/-- arithmetic -/
theorem ev_mod {i j : Int} (ha : Ev ta σ H (.int i)) (hb : Ev tb σ H (.int j)) (hj : 0 < j) : Ev (tOp (rI (fun _ j => 0 < j) fun i j => .int (i % j)) ta tb) σ H (.int (i % j)) := ev_op ha hb (rv_I (C := fun _ j => 0 < j) hj)
theorem ev_add {i j : Int} (ha : Ev ta σ H (.int i)) (hb : Ev tb σ H (.int j)) : Ev (tOp (rI0 fun i j => .int (i + j)) ta tb) σ H (.int (i + j)) := ev_op ha hb rv_I0
theorem ev_sub {i j : Int} (ha : Ev ta σ H (.int i)) (hb : Ev tb σ H (.int j)) : Ev (tOp (rI0 fun i j => .int (i - j)) ta tb) σ H (.int (i - j)) := ev_op ha hb rv_I0
theorem ev_div {i j : Int} (ha : Ev ta σ H (.int i)) (hb : Ev tb σ H (.int j)) (hj : 0 < j) (hj' : j < 1073741824) : Ev (tOp (rI CDiv fun i j => .int (i / j)) ta tb) σ H (.int (i / j)) := ev_op ha hb (rv_I (C := CDiv) ⟨hj, hj'⟩)
theorem ev_mul {i j : Int} (ha : Ev ta σ H (.int i)) (hb : Ev tb σ H (.int j)) (h : CMul i j) : Ev (tOp (rI CMul fun i j => .int (i * j)) ta tb) σ H (.int (i * j)) := ev_op ha hb (rv_I (C := CMul) h)
theorem ev_pow {i j : Int} (ha : Ev ta σ H (.int i)) (hb : Ev tb σ H (.int j)) (h : CPow i j) : Ev (tOp (rI CPow fun i j => .int (i ^ j.toNat)) ta tb) σ H (.int (i ^ j.toNat)) := ev_op ha hb (rv_I (C := CPow) h)
theorem ev_negI {i : Int} (ha : Ev ta σ H (.int i)) : Ev (tUn (rU fun i => .int (-i)) ta) σ H (.int (-i)) := ev_un ha ru_neg
theorem ev_int {i j : Int} (h : Ev te σ H (.int i)) (e : i = j) : Ev te σ H (.int j) := by
  rw [← e]
  exact h
theorem ev_min {i j : Int} (ha : Ev ta σ H (.int i)) (hb : Ev tb σ H (.int j)) : Ev (tCB (fun xs H Q => ∃ i j, xs = [.int i, .int j] ∧ Q (.int (if j < i then j else i)) H) (tCons ta (tCons tb tNil))) σ H (.int (if j < i then j else i)) := fun H1 e Q q =>
  ha H1 e _ fun H2 e2 => hb H2 (e.trans e2) _ fun H3 e3 => ⟨i, j, rfl, q H3 (e2.trans e3)⟩
theorem ev_max {i j : Int} (ha : Ev ta σ H (.int i)) (hb : Ev tb σ H (.int j)) : Ev (tCB (fun xs H Q => ∃ i j, xs = [.int i, .int j] ∧ Q (.int (if j > i then j else i)) H) (tCons ta (tCons tb tNil))) σ H (.int (if j > i then j else i)) := fun H1 e Q q =>
  ha H1 e _ fun H2 e2 => hb H2 (e.trans e2) _ fun H3 e3 => ⟨i, j, rfl, q H3 (e2.trans e3)⟩
theorem ev_abs {i : Int} (ha : Ev ta σ H (.int i)) : Ev (tCB (fun xs H Q => ∃ i, xs = [.int i] ∧ Q (.int (if i < 0 then -i else i)) H) (tCons ta tNil)) σ H (.int (if i < 0 then -i else i)) := fun H1 e Q q =>
  ha H1 e _ fun H2 e2 => ⟨i, rfl, q H2 e2⟩
/-- len, list(..) of a list, an item: as the rules of the layer print them -/
theorem ev_lenL {p : Addr} {xs : List V} (ha : Ev ta σ H (.ref p)) (h : SqL K H p xs) : Ev (tCB (fun xs H Q => ∃ p ys, xs = [.ref p] ∧ (SqL K H p ys ∨ SqT K H p ys) ∧ Q (.int ys.length) H) (tCons ta tNil)) σ H (.int (xs.length : Int)) := ev_len ha h
theorem ev_lenNL {xs : List V} (ha : EvL ta σ H xs) : Ev (tCB (fun xs H Q => ∃ p ys, xs = [.ref p] ∧ (SqL K H p ys ∨ SqT K H p ys) ∧ Q (.int ys.length) H) (tCons ta tNil)) σ H (.int (xs.length : Int)) := ev_lenN ha
theorem el_listL {p : Addr} {xs : List V} (ha : Ev ta σ H (.ref p)) (h : SqL K H p xs) : EvL (tCB (fun xs H Q => ∃ p ys, xs = [.ref p] ∧ (SqL K H p ys ∨ SqT K H p ys) ∧ ∀ l, H l = none → Q (.ref l) (upd H l (.lst ys))) (tCons ta tNil)) σ H xs := el_list ha h
theorem ev_itemL {p : Addr} {xs : List V} {i : Int} (ha : Ev ta σ H (.ref p)) (hb : Ev tb σ H (.int i)) (h : SqL K H p xs) (hi : atI xs i = some v) : Ev (tOp (rIxL K) ta tb) σ H v := ev_op ha hb (rv_ixL h hi)
theorem ev_itemNL {xs : List V} {i : Int} (ha : EvL ta σ H xs) (hb : Ev tb σ H (.int i)) (hi : atI xs i = some v) : Ev (tOp (rIxL K) ta tb) σ H v :=
  ev_opL1 ha (fun _ e => hb.mono e) fun _ _ h _ => rv_ixL (sq_of h) hi
theorem atI_map {xs : List Int} {k : Int} (h0 : 0 ≤ k) (h1 : k < xs.length) : atI (xs.map V.int) k = some (.int (xs.getD k.toNat 0)) := by
  have e : k = ((k.toNat : Nat) : Int) := by omega
  have hlt : k.toNat < xs.length := by omega
  rw [e]
  refine atI_nat ?_
  rw [List.getElem?_map, List.getElem?_eq_getElem hlt]
  show some (V.int xs[k.toNat]) = some (V.int (xs.getD ((k.toNat : Nat) : Int).toNat 0))
  rw [Int.toNat_natCast, List.getD_eq_getElem?_getD, List.getElem?_eq_getElem hlt]
  rfl
/-- a call in an assignment, by its promise as it stands -/
theorem q_call {i : Nat} {sp : Sp} {E : XK} {ta : TA} {vs : List V} (h : EvA ta σ H vs) (k : ∀ H1, Ex H H1 → sp vs H1 (fun x H2 => tz D (σ.set i (some x)) H2) E) : tSeq (tAsg (tCall sp [] E ta) (gName i)) tz D σ H := h H (Ex.refl H) _ fun H1 e1 => by
  show sp (vs ++ []) H1 (fun x H2 => tz D (σ.set i (some x)) H2) E
  rw [List.append_nil]
  exact k H1 e1
theorem inV_int (k : Int) (ns : List Int) : inV (.int k) (ns.map V.int) = decide (k ∈ ns) := by
  unfold inV
  rw [Bool.eq_iff_iff, List.any_eq_true, decide_eq_true_eq]
  constructor
  · rintro ⟨x, hx, e⟩
    obtain ⟨z, hz, rfl⟩ := List.mem_map.mp hx
    have : z = k := by
      have e : (z == k) = true := e
      exact eq_of_beq e
    rw [← this]
    exact hz
  · intro h
    refine ⟨.int k, List.mem_map.mpr ⟨k, h, rfl⟩, ?_⟩
    show (k == k) = true
    exact beq_self_eq_true k
theorem q_callS {i : Nat} {sp : Sp} {E : XK} {ta : TA} {vs : List V} (h : EvA ta σ H vs) (k : ∀ H1, Ex H H1 → sp vs H1 (fun x H2 => D.nx (σ.set i (some x)) H2) E) : tAsg (tCall sp [] E ta) (gName i) D σ H := h H (Ex.refl H) _ fun H1 e1 => by
  show sp (vs ++ []) H1 (fun x H2 => D.nx (σ.set i (some x)) H2) E
  rw [List.append_nil]
  exact k H1 e1
theorem flat_ints (ns : List Int) : (ns.map V.int).all flatV = true := by
  rw [List.all_eq_true]
  intro x hx
  obtain ⟨z, _, rfl⟩ := List.mem_map.mp hx
  rfl
theorem s_rcall {sp : Sp} {E : XK} {ta : TA} {vs : List V} (h : EvA ta σ H vs) (k : ∀ H1, Ex H H1 → sp vs H1 D.rt E) : tRet (tCall sp [] E ta) D σ H := h H (Ex.refl H) _ fun H1 e1 => by
  show sp (vs ++ []) H1 D.rt E
  rw [List.append_nil]
  exact k H1 e1
/-- dicts with whole numbers as keys -/
theorem et_din {p : Addr} {kvs : List (Key × V)} {k : Int} (ha : Ev ta σ H (.int k)) (hb : Ev tb σ H (.ref p)) (hp : H p = some (.dK kvs)) : EvT (tB (tDIn ta tb)) σ H (valV kvs (Sum.inl k : Key)).isSome := fun H1 e _ q =>
  ha H1 e _ fun H2 e2 => hb H2 (e.trans e2) _ fun H3 e3 => ⟨p, _, rfl, DGet.k (k := Sum.inl k) (((e.trans e2).trans e3) _ _ hp), _, rfl, q H3 (e2.trans e3)⟩
theorem et_dnotin {p : Addr} {kvs : List (Key × V)} {k : Int} (ha : Ev ta σ H (.int k)) (hb : Ev tb σ H (.ref p)) (hp : H p = some (.dK kvs)) : EvT (tB (tDNotIn ta tb)) σ H (!(valV kvs (Sum.inl k : Key)).isSome) := fun H1 e _ q =>
  ha H1 e _ fun H2 e2 => hb H2 (e.trans e2) _ fun H3 e3 => ⟨p, _, rfl, DGet.k (k := Sum.inl k) (((e.trans e2).trans e3) _ _ hp), _, rfl, q H3 (e2.trans e3)⟩
theorem ev_dnotin {p : Addr} {kvs : List (Key × V)} {k : Int} (ha : Ev ta σ H (.int k)) (hb : Ev tb σ H (.ref p)) (hp : H p = some (.dK kvs)) : Ev (tDNotIn ta tb) σ H (.bl (!(valV kvs (Sum.inl k : Key)).isSome)) := fun H1 e _ q =>
  ha H1 e _ fun H2 e2 => hb H2 (e.trans e2) _ fun H3 e3 => ⟨p, _, rfl, DGet.k (k := Sum.inl k) (((e.trans e2).trans e3) _ _ hp), q H3 (e2.trans e3)⟩
theorem ev_dget {p : Addr} {kvs : List (Key × V)} {k : Int} (ha : Ev ta σ H (.ref p)) (hb : Ev tb σ H (.int k)) (hp : H p = some (.dK kvs)) (hv : valV kvs (Sum.inl k : Key) = some v) : Ev (tDGet ta tb) σ H v := fun H1 e _ q =>
  ha H1 e _ fun H2 e2 => hb H2 (e.trans e2) _ fun H3 e3 => ⟨p, v, rfl, by
    have g := DGet.k (k := (Sum.inl k : Key)) (((e.trans e2).trans e3) _ _ hp)
    rw [hv] at g
    exact g, q H3 (e2.trans e3)⟩
theorem s_dput {p : Addr} {kvs : List (Key × V)} {k : Int} (hp : H p = some (.dK kvs)) (hl : kvs.length < 100000) (hv : Ev te σ H v) (ha : Ev ta σ H (.ref p)) (hb : Ev tb σ H (.int k)) (q : ∀ H1, Ex H H1 → D.nx σ (upd H1 p (.dK (putK kvs (Sum.inl k : Key) v)))) : sDPut ta tb te D σ H :=
  hv H (Ex.refl H) _ fun H1 e1 => ha H1 e1 _ fun H2 e2 => hb H2 (e1.trans e2) _ fun H3 e3 => ⟨p, _, rfl, DPut.k (k := Sum.inl k) (((e1.trans e2).trans e3) _ _ hp) (sz_lt hl), q H3 ((e1.trans e2).trans e3)⟩
theorem q_dput {p : Addr} {kvs : List (Key × V)} {k : Int} (hp : H p = some (.dK kvs)) (hl : kvs.length < 100000) (hv : Ev te σ H v) (ha : Ev ta σ H (.ref p)) (hb : Ev tb σ H (.int k)) (q : ∀ H1, Ex H H1 → tz D σ (upd H1 p (.dK (putK kvs (Sum.inl k : Key) v)))) : tSeq (sDPut ta tb te) tz D σ H :=
  s_dput (D := { D with nx := tz D }) hp hl hv ha hb q
/-- x = {k: v}, a whole number as the key -/
theorem q_disp1 {i : Nat} {k : Int} (e1 : Ev ta σ H (.int k)) (e2 : Ev tb σ H v) (q : ∀ p H2, H p = none → Ex H H2 → H2 p = some (.dK [((Sum.inl k : Key), v)]) → tz D (σ.set i (some (.ref p))) H2) :
    tSeq (tAsg (tDisp [(ta, tb)]) (gName i)) tz D σ H := fun p hp => by
  have s1 : Ex H (upd H p (.dK [])) := Ex.new hp
  refine e1 _ s1 _ fun H2 h2 => e2 _ (s1.trans h2) _ fun H3 h3 => ⟨(h2.trans h3) p _ upd_same, [((Sum.inl k : Key), v)], rfl, by show 1 ≤ 15; decide, ?_⟩
  refine q p _ hp (Ex.mut ((s1.trans h2).trans h3) hp) ?_
  rw [upd_same]
  rfl
/-- is None, is not None -/
theorem et_isN (ha : Ev ta σ H x) : EvT (tTest (tOp (fun x y H Q => y = .non ∧ Q (.bl (decide (x = .non))) H) ta (tC .non))) σ H (decide (x = .non)) := fun H1 e _ q => ha H1 e _ fun H2 e2 => ⟨rfl, _, rfl, q H2 e2⟩
theorem ev_isNV (ha : Ev ta σ H x) : Ev (tOp (fun x y H Q => y = .non ∧ Q (.bl (decide (x = .non))) H) ta (tC .non)) σ H (.bl (decide (x = .non))) := fun H1 e _ q => ha H1 e _ fun H2 e2 => ⟨rfl, q H2 e2⟩
theorem ev_notNV (ha : Ev ta σ H x) : Ev (tOp (fun x y H Q => y = .non ∧ Q (.bl (!decide (x = .non))) H) ta (tC .non)) σ H (.bl (!decide (x = .non))) := fun H1 e _ q => ha H1 e _ fun H2 e2 => ⟨rfl, q H2 e2⟩
/-- tuples -/
theorem ev_lenT {p : Addr} {xs : List V} (ha : Ev ta σ H (.ref p)) (h : SqT K H p xs) : Ev (tCB (fun xs H Q => ∃ p ys, xs = [.ref p] ∧ (SqL K H p ys ∨ SqT K H p ys) ∧ Q (.int ys.length) H) (tCons ta tNil)) σ H (.int (xs.length : Int)) := fun H1 e Q q =>
  ha H1 e _ fun H2 e2 => ⟨p, xs, rfl, Or.inr (ex_t (e.trans e2) h), q H2 e2⟩
theorem ev_itemT {p : Addr} {xs : List V} {i : Int} (ha : Ev ta σ H (.ref p)) (hb : Ev tb σ H (.int i)) (h : SqT K H p xs) (hi : atI xs i = some v) : Ev (tOp (rIxT K) ta tb) σ H v := ev_op ha hb (rv_ixT h hi)
theorem et_ch3 {p1 p2 p3 : Int → Int → Bool} {i j k l : Int} {tc td : TE} (ha : Ev ta σ H (.int i)) (hb : Ev tb σ H (.int j)) (hc : Ev tc σ H (.int k)) (hd : Ev td σ H (.int l)) (h1 : p1 i j = true) (h2 : p2 j k = true) (h3 : p3 k l = true) :
    EvT (tCh3 (rI0 fun i j => .bl (p1 i j)) (rI0 fun i j => .bl (p2 i j)) (rI0 fun i j => .bl (p3 i j)) ta tb tc td) σ H true := fun H1 e Q q =>
  ha H1 e _ fun H2 e2 => hb H2 (e.trans e2) _ fun H3 e3 => ⟨i, j, rfl, rfl, true, congrArg V.bl h1, by
    show tc σ H3 _
    refine hc H3 ((e.trans e2).trans e3) _ fun H4 e4 => ⟨j, k, rfl, rfl, true, congrArg V.bl h2, ?_⟩
    show td σ H4 _
    exact hd H4 (((e.trans e2).trans e3).trans e4) _ fun H5 e5 => ⟨k, l, rfl, rfl, true, congrArg V.bl h3, q H5 (((e2.trans e3).trans e4).trans e5)⟩⟩
/-- len(set(xs)) of a list in which no number is twice -/
theorem ev_lenSet {a : Addr} {ns : List Int} (ha : Ev ta σ H (.ref a)) (h : SqL K H a (ns.map V.int)) (hd : ns.Nodup) (hl : ns.length ≤ 4000) : Ev (RZ.tLenSetI K ta) σ H (.int (ns.length : Int)) := fun H1 e Q q =>
  ha H1 e _ fun H2 e2 => ⟨a, ns, rfl, ex_l (e.trans e2) h, hd, hl, q H2 e2⟩
/-- sum(xs) of a new list -/
theorem ev_sumN {ns : List Int} (ha : EvL ta σ H (ns.map V.int)) : Ev (tCB (rSum K) (tCons ta tNil)) σ H (.int ns.sum) := fun H1 e Q q => ha H1 e _ fun p H2 _ e2 h2 => ⟨p, ns, rfl, sq_of h2, q H2 e2⟩
/-- isinstance(x, T), T a built-in type -/
theorem ev_isi {m n : String} {b : Bool} (ha : Ev ta σ H x) (hb : Ev tb σ H (.ty n)) (ty : ∀ H1, Ex H H1 → TyX K H1 x (.type m)) (hk : kitB m n = some b) : Ev (tCB (rIsi K) (tCons ta (tCons tb tNil))) σ H (.bl b) := fun H1 e Q q =>
  ha H1 e _ fun H2 e2 => hb H2 (e.trans e2) _ fun H3 e3 => ⟨x, .ty n, .type m, .type n, b, rfl, .ty n, ty H3 ((e.trans e2).trans e3), kit_ty hk, q H3 (e2.trans e3)⟩
theorem ty_int (i : Int) : ∀ H1, Ex H H1 → TyX K H1 (.int i) (.type "int") := fun _ _ => .base (.int i)
theorem ty_lst {a : Addr} {xs : List V} (h : H a = some (.lst xs)) : ∀ H1, Ex H H1 → TyX K H1 (.ref a) (.type "list") := fun _ e => .base (.lst (e a _ h))
theorem ty_tup {a : Addr} {xs : List V} (h : H a = some (.tup xs)) : ∀ H1, Ex H H1 → TyX K H1 (.ref a) (.type "tuple") := fun _ e => .base (.tup (e a _ h))
theorem ty_str (z : Str) : ∀ H1, Ex H H1 → TyX K H1 (.str z) (.type "str") := fun _ _ => .base (.str z)
/-- xs + ys -/
theorem el_cat {p : Addr} {xs ys : List V} (ha : Ev ta σ H (.ref p)) (hp : H p = some (.lst xs)) (hb : EvL tb σ H ys) (hz : xs.length + ys.length ≤ 100000) : EvL (tOp rCat ta tb) σ H (xs ++ ys) := fun H1 e Q q =>
  ha H1 e _ fun H2 e2 => hb H2 (e.trans e2) _ fun b H3 hb3 e3 h3 => ⟨p, b, xs, ys, rfl, rfl, ((e.trans e2).trans e3) _ _ hp, h3, sz_of hz, fun r hr => q r _ (fresh_back (e2.trans e3) hr) ((e2.trans e3).trans (Ex.new hr)) upd_same⟩
theorem el_catLL {xs ys : List V} (ha : EvL ta σ H xs) (hb : EvL tb σ H ys) (hz : xs.length + ys.length ≤ 100000) : EvL (tOp rCat ta tb) σ H (xs ++ ys) := fun H1 e Q q =>
  ha H1 e _ fun p H2 hp2 e2 h2 => hb H2 (e.trans e2) _ fun b H3 hb3 e3 h3 => ⟨p, b, xs, ys, rfl, rfl, e3 _ _ h2, h3, sz_of hz, fun r hr => q r _ (fresh_back (e2.trans e3) hr) ((e2.trans e3).trans (Ex.new hr)) upd_same⟩
theorem el_catVV {p q : Addr} {xs ys : List V} (ha : Ev ta σ H (.ref p)) (hp : H p = some (.lst xs)) (hb : Ev tb σ H (.ref q)) (hq : H q = some (.lst ys)) (hz : xs.length + ys.length ≤ 100000) : EvL (tOp rCat ta tb) σ H (xs ++ ys) := fun H1 e Q k =>
  ha H1 e _ fun H2 e2 => hb H2 (e.trans e2) _ fun H3 e3 => ⟨p, q, xs, ys, rfl, rfl, ((e.trans e2).trans e3) _ _ hp, ((e.trans e2).trans e3) _ _ hq, sz_of hz, fun r hr => k r _ (fresh_back (e2.trans e3) hr) ((e2.trans e3).trans (Ex.new hr)) upd_same⟩
/-- calls some of whose arguments are new lists -/
theorem ev_callL {sp : Sp} {E : XK} {ys : List V} (ha : Ev ta σ H x) (hb : EvL tb σ H ys) (hs : ∀ b H1, Ex H H1 → H1 b = some (.lst ys) → SpV sp [x, .ref b] H1 z) : Ev (tCall sp [] E (tCons ta (tCons tb tNil))) σ H z := fun H1 e Q q =>
  ha H1 e _ fun H2 e2 => hb H2 (e.trans e2) _ fun b H3 _ e3 h3 => hs b H3 ((e.trans e2).trans e3) h3 H3 (Ex.refl H3) Q (fun H4 e4 => q H4 ((e2.trans e3).trans e4)) E
theorem ev_callL1 {sp : Sp} {E : XK} {ys : List V} (ha : EvL ta σ H ys) (hb : Ev tb σ H y) (hs : ∀ a H1, Ex H H1 → H1 a = some (.lst ys) → SpV sp [.ref a, y] H1 z) : Ev (tCall sp [] E (tCons ta (tCons tb tNil))) σ H z := fun H1 e Q q =>
  ha H1 e _ fun a H2 _ e2 h2 => hb H2 (e.trans e2) _ fun H3 e3 => hs a H3 ((e.trans e2).trans e3) (e3 _ _ h2) H3 (Ex.refl H3) Q (fun H4 e4 => q H4 ((e2.trans e3).trans e4)) E
theorem ev_callLL {sp : Sp} {E : XK} {xs ys : List V} (ha : EvL ta σ H xs) (hb : EvL tb σ H ys) (hs : ∀ a b H1, Ex H H1 → H1 a = some (.lst xs) → H1 b = some (.lst ys) → SpV sp [.ref a, .ref b] H1 z) : Ev (tCall sp [] E (tCons ta (tCons tb tNil))) σ H z := fun H1 e Q q =>
  ha H1 e _ fun a H2 _ e2 h2 => hb H2 (e.trans e2) _ fun b H3 _ e3 h3 => hs a b H3 ((e.trans e2).trans e3) (e3 _ _ h2) h3 H3 (Ex.refl H3) Q (fun H4 e4 => q H4 ((e2.trans e3).trans e4)) E
theorem el_callL {sp : Sp} {E : XK} {xs zs : List V} (ha : EvL ta σ H xs) (hb : Ev tb σ H y) (hs : ∀ a H1, Ex H H1 → H1 a = some (.lst xs) → SpL sp [.ref a, y] H1 zs) : EvL (tCall sp [] E (tCons ta (tCons tb tNil))) σ H zs := fun H1 e Q q =>
  ha H1 e _ fun a H2 _ e2 h2 => hb H2 (e.trans e2) _ fun H3 e3 => hs a H3 ((e.trans e2).trans e3) (e3 _ _ h2) H3 (Ex.refl H3) Q (fun p H4 hp e4 h4 => q p H4 (fresh_back (e2.trans e3) hp) ((e2.trans e3).trans e4) h4) E
/-- three arguments, the first two new lists -/
theorem el_call3 {sp : Sp} {E : XK} {tc : TE} {xs ys zs : List V} (ha : EvL ta σ H xs) (hb : EvL tb σ H ys) (hc : Ev tc σ H z) (hs : ∀ a b H1, Ex H H1 → H1 a = some (.lst xs) → H1 b = some (.lst ys) → SpL sp [.ref a, .ref b, z] H1 zs) :
    EvL (tCall sp [] E (tCons ta (tCons tb (tCons tc tNil)))) σ H zs := fun H1 e Q q =>
  ha H1 e _ fun a H2 _ e2 h2 => hb H2 (e.trans e2) _ fun b H3 _ e3 h3 => hc H3 ((e.trans e2).trans e3) _ fun H4 e4 => hs a b H4 (((e.trans e2).trans e3).trans e4) (e4 _ _ (e3 _ _ h2)) (e4 _ _ h3) H4 (Ex.refl H4) Q
    (fun p H5 hp e5 h5 => q p H5 (fresh_back ((e2.trans e3).trans e4) hp) (((e2.trans e3).trans e4).trans e5) h5) E
/-- xs[::-1] of a new list -/
theorem el_rev {xs : List V} (ha : EvL ta σ H xs) : EvL (tRevL K ta) σ H xs.reverse := fun H1 e Q q => ha H1 e _ fun a H2 _ e2 h2 => ⟨a, xs, rfl, sq_of h2, fun p hp => q p _ (fresh_back e2 hp) (e2.trans (Ex.new hp)) upd_same⟩
/-- x = [xs, ys], both new -/
theorem q_lst2 {i : Nat} {xs ys : List V} (ha : EvL ta σ H xs) (hb : EvL tb σ H ys) (q : ∀ p a b H2, H p = none → H a = none → H b = none → Ex H H2 → H2 p = some (.lst [.ref a, .ref b]) → H2 a = some (.lst xs) → H2 b = some (.lst ys) → tz D (σ.set i (some (.ref p))) H2) :
    tSeq (tAsg (tLst (tCons ta (tCons tb tNil))) (gName i)) tz D σ H := ha H (Ex.refl H) _ fun a H2 na e2 h2 => hb H2 e2 _ fun b H3 nb e3 h3 => ⟨by show 2 ≤ sizeLine; decide, fun p hp =>
  q p a b _ (fresh_back (e2.trans e3) hp) na (fresh_back e2 nb) ((e2.trans e3).trans (Ex.new hp)) upd_same (Ex.new hp _ _ (e3 _ _ h2)) (Ex.new hp _ _ h3)⟩
theorem et_yes : EvT tYes σ H true := fun H1 _ _ q => q H1 (Ex.refl H1)
theorem int_at {xs : List Int} {i : Nat} {x : V} (h : (xs.map V.int)[i]? = some x) : ∃ z, xs[i]? = some z ∧ x = .int z := by
  rw [List.getElem?_map] at h
  cases e : xs[i]? with
  | none =>
    rw [e] at h
    cases h
  | some z =>
    rw [e] at h
    exact ⟨z, rfl, (Option.some.inj h).symm⟩
theorem range_getD (xs : List Int) : (List.range xs.length).map (fun i => xs.getD i 0) = xs := by
  refine List.ext_getElem? fun i => ?_
  rw [List.getElem?_map]
  by_cases h : i < xs.length
  · rw [List.getElem?_range h, List.getElem?_eq_getElem h]
    show some (xs.getD i 0) = _
    rw [List.getD_eq_getElem?_getD, List.getElem?_eq_getElem h]
    rfl
  · rw [List.getElem?_eq_none (by rw [List.length_range]; omega), List.getElem?_eq_none (by omega)]
    rfl
/-- a comprehension over range(a, b) -/
theorem el_lcR2 {ta : TA} {j : Nat} {vs : List Nat} {lo n : Int} (f : Nat → Bool) (v : Nat → V) (h : EvA ta σ H [.int lo, .int n]) (hn : 0 ≤ lo ∧ lo ≤ 1000 ∧ -1000 ≤ n ∧ n ≤ 30000) (hw : ∀ x, wipe ((wipe σ vs).set j (some x)) vs = wipe σ vs)
    (ht : ∀ (i : Nat) H1, Ex H H1 → lo + (i : Int) < n → EvT t ((wipe σ vs).set j (some (.int (lo + (i : Int))))) H1 (f i)) (he : ∀ (i : Nat) H1, Ex H H1 → lo + (i : Int) < n → f i = true → Ev te ((wipe σ vs).set j (some (.int (lo + (i : Int))))) H1 (v i)) :
    EvL (tLc (iRng2 ta) (gName j) t te vs) σ H (given (n - lo).toNat f v) := fun H0 e Q q => h H0 e _ fun H1 e1 => ⟨lo, n, rfl, ⟨by omega, by omega, by omega, by omega⟩, fun Dl hD =>
  lc_range (lo := lo) (n := (n - lo).toNat) (Cw H1 f v Dl) ⟨hD, Ex.new hD, upd_same⟩ (fun i H' hi p => ⟨hw _, cw_turn p (by omega) (ht i H1 (e.trans e1) (by omega)) (fun hf => he i H1 (e.trans e1) (by omega) hf)⟩)
    (fun H' p => q Dl H' (fresh_back e1 p.1) (e1.trans p.2.1) p.2.2)⟩
theorem given_mem {n : Nat} {f : Nat → Bool} {v : Nat → V} {j : Nat} {x : V} (h : (given n f v)[j]? = some x) : ∃ i, i < n ∧ f i = true ∧ x = v i := by
  have hx := List.mem_of_getElem? h
  unfold given at hx
  obtain ⟨i, hi, e⟩ := List.mem_map.mp hx
  obtain ⟨h1, h2⟩ := List.mem_filter.mp hi
  exact ⟨i, List.mem_range.mp h1, h2, e.symm⟩
/-- a comprehension without a test -/
theorem given_all (xs : List Int) (g : Int → Int) : given xs.length (fun _ => true) (fun i => V.int (g (xs.getD i 0))) = (xs.map g).map V.int := by
  unfold given
  rw [List.filter_eq_self.mpr fun _ _ => rfl]
  have e := congrArg (List.map fun x => V.int (g x)) (range_getD xs)
  rw [List.map_map] at e
  rw [List.map_map]
  exact e
/-- .. with one -/
theorem given_if (xs : List Int) (p : Int → Bool) (g : Int → Int) : given xs.length (fun i => p (xs.getD i 0)) (fun i => V.int (g (xs.getD i 0))) = ((xs.filter p).map g).map V.int := by
  unfold given
  have e : xs.filter p = ((List.range xs.length).filter fun i => p (xs.getD i 0)).map fun i => xs.getD i 0 := by
    have h := congrArg (List.filter p) (range_getD xs)
    rw [List.filter_map] at h
    exact h.symm
  rw [e, List.map_map, List.map_map]
  rfl
theorem given_pos (xs : List Int) (p : Int → Bool) : decide ((0 : Int) < ((given xs.length (fun i => p (xs.getD i 0)) (fun i => V.int (xs.getD i 0))).length : Int)) = xs.any p := by
  have e0 : given xs.length (fun i => p (xs.getD i 0)) (fun i => V.int (xs.getD i 0)) = ((xs.filter p).map id).map V.int := given_if xs p id
  rw [e0, List.length_map, List.length_map]
  by_cases h : xs.any p = true
  · rw [h]
    obtain ⟨x, hx, px⟩ := List.any_eq_true.mp h
    exact decide_eq_true (Int.ofNat_lt.mpr (List.length_pos_of_mem (List.mem_filter.mpr ⟨hx, px⟩)))
  · rw [Bool.not_eq_true] at h
    rw [h]
    refine decide_eq_false fun z => ?_
    have z2 : 0 < (xs.filter p).length := Int.ofNat_lt.mp z
    obtain ⟨x, hx⟩ := List.exists_mem_of_length_pos z2
    obtain ⟨h1, h2⟩ := List.mem_filter.mp hx
    have : xs.any p = true := List.any_eq_true.mpr ⟨x, h1, h2⟩
    rw [h] at this
    cases this
/-! lists of ints compared -/
theorem dp_ints {a : Addr} {ns : List Int} (h : SqL K H a (ns.map V.int)) : Dp K H (.ref a) (.list (ns.map PyData.int)) := by
  refine Dp.lst h ?_
  clear h
  induction ns with
  | nil => exact DpAll.nil
  | cons n ns ih => exact DpAll.cons (Dp.int n) ih
theorem shaped_ints (ns : List Int) : SeqAt.shaped (.list (ns.map PyData.int)) = true := by
  have h1 : ∀ ns : List Int, PyData.canLayAll0 (ns.map PyData.int) = true := fun ns => by
    induction ns with
    | nil => rfl
    | cons n ns ih => simp only [List.map_cons, PyData.canLayAll0, ih, Bool.and_true]; rfl
  have h2 : ∀ ns : List Int, PyData.depthAll (ns.map PyData.int) ≤ 1 := fun ns => by
    induction ns with
    | nil => exact Nat.zero_le _
    | cons n ns ih =>
      simp only [List.map_cons, PyData.depthAll, PyData.depth]
      omega
  have a := h1 ns
  have b := h2 ns
  have c : PyData.depth (.list (ns.map PyData.int)) ≤ 64 := by
    rw [PyData.depth]
    omega
  unfold SeqAt.shaped
  rw [PyData.canLay0, a, decide_eq_true c]
  rfl
theorem eqv_ints (ns ms : List Int) : PyData.eqv (.list (ns.map PyData.int)) (.list (ms.map PyData.int)) = decide (ns = ms) := by
  rw [PyData.eqv]
  exact PySem.W.ked_eqvAll ns ms
/-- a list of two lists, and a new one of the same two -/
theorem shaped_two (ns ms : List Int) : SeqAt.shaped (.list [.list (ns.map PyData.int), .list (ms.map PyData.int)]) = true := by
  have h := shaped_ints ns
  have g := shaped_ints ms
  unfold SeqAt.shaped at h g ⊢
  rw [Bool.and_eq_true, decide_eq_true_eq] at h g
  have d : ∀ ns : List Int, PyData.depth (.list (ns.map PyData.int)) ≤ 2 := fun ns => by
    have k : ∀ ns : List Int, PyData.depthAll (ns.map PyData.int) ≤ 1 := fun ns => by
      induction ns with
      | nil => exact Nat.zero_le _
      | cons n ns ih =>
        simp only [List.map_cons, PyData.depthAll, PyData.depth]
        omega
    have := k ns
    rw [PyData.depth]
    omega
  have d1 := d ns
  have d2 := d ms
  have c : PyData.depth (.list [.list (ns.map PyData.int), .list (ms.map PyData.int)]) ≤ 64 := by
    rw [PyData.depth, PyData.depthAll, PyData.depthAll, PyData.depthAll]
    omega
  rw [decide_eq_true c, PyData.canLay0, PyData.canLayAll0, PyData.canLayAll0, PyData.canLayAll0, h.1, g.1]
  rfl
theorem et_neTwo {p a b : Addr} {ns ms : List Int} {tc : TE} {c d : Addr} (hp : H p = some (.lst [.ref a, .ref b])) (ha : SqL K H a (ns.map V.int)) (hb : SqL K H b (ms.map V.int)) (e1 : Ev ta σ H (.ref p)) (e2 : Ev tb σ H (.ref c)) (e3 : Ev tc σ H (.ref d))
    (hc : SqL K H c (ns.map V.int)) (hd : SqL K H d (ms.map V.int)) : EvT (tTest (tOp (rNeD K) ta (tLst (tCons tb (tCons tc tNil))))) σ H false := fun H1 e Q q =>
  e1 H1 e _ fun H2 h2 => e2 H2 (e.trans h2) _ fun H3 h3 => e3 H3 ((e.trans h2).trans h3) _ fun H4 h4 => ⟨by show 2 ≤ sizeLine; decide, fun r hr => by
    have E4 := ((e.trans h2).trans h3).trans h4
    have E5 : Ex H4 (upd H4 r (.lst [V.ref c, V.ref d])) := Ex.new hr
    refine ⟨.list [.list (ns.map PyData.int), .list (ms.map PyData.int)], .list [.list (ns.map PyData.int), .list (ms.map PyData.int)], Dp.lst (sq_of (E5 _ _ (E4 _ _ hp))) (.cons (dp_ints (ex_l (E4.trans E5) ha)) (.cons (dp_ints (ex_l (E4.trans E5) hb)) .nil)),
      Dp.lst (sq_of upd_same) (.cons (dp_ints (ex_l (E4.trans E5) hc)) (.cons (dp_ints (ex_l (E4.trans E5) hd)) .nil)), shaped_two ns ms, shaped_two ns ms, false, ?_, q _ (((h2.trans h3).trans h4).trans E5)⟩
    have g : PyData.eqv (.list [.list (ns.map PyData.int), .list (ms.map PyData.int)]) (.list [.list (ns.map PyData.int), .list (ms.map PyData.int)]) = true := by
      rw [PyData.eqv, PyData.eqvAll, PyData.eqvAll, PyData.eqvAll, eqv_ints, eqv_ints, decide_eq_true rfl, decide_eq_true rfl]
      rfl
    rw [g]
    rfl⟩
theorem rv_eqL {a b : Addr} {ns ms : List Int} (ha : SqL K H a (ns.map V.int)) (hb : SqL K H b (ms.map V.int)) : RV (rEqD K) (.ref a) (.ref b) H (.bl (decide (ns = ms))) := fun H1 e Q q =>
  ⟨_, _, dp_ints (ex_l e ha), dp_ints (ex_l e hb), shaped_ints ns, shaped_ints ms, by
    rw [eqv_ints]
    exact q H1 (Ex.refl H1)⟩
theorem rv_neL {a b : Addr} {ns ms : List Int} (ha : SqL K H a (ns.map V.int)) (hb : SqL K H b (ms.map V.int)) : RV (rNeD K) (.ref a) (.ref b) H (.bl (!decide (ns = ms))) := fun H1 e Q q =>
  ⟨_, _, dp_ints (ex_l e ha), dp_ints (ex_l e hb), shaped_ints ns, shaped_ints ms, by
    rw [eqv_ints]
    exact q H1 (Ex.refl H1)⟩
end
end Sr
namespace Sr
open PySem PySem.Spec PyProof.Rows L2 Evl
/-! ### the promises: arguments, what they must be, what comes out -/
section
variable (K : PySem.W.Frag)
/-- the k-th cell of the script, or nought -/
def cell (cs : List Int) (k : Int) : Int := cs.getD k.toNat 0
def spCell : Sp := fun vs H Q _ => ∃ (a : Addr) (cs : List Int) (k : Int), vs = [.ref a, .int k] ∧ SqL K H a (cs.map V.int) ∧ 0 ≤ k ∧ RetV (.int (cell cs k)) H Q
/-- is it a whole number -/
def isInt : V → Bool
  | .int _ => true
  | _ => false
def spWhole : Sp := fun vs H Q _ => ∃ x : V, vs = [x] ∧ (∃ i, x = .int i) ∧ RetV (.bl true) H Q
def numberBy (c way : Int) : Int :=
  if way = 0 then c % 9 - 4 else if way = 1 then c % 2 else if way = 2 then c % 2000000000001 - 1000000000000 else
    if c % 3 = 0 then 1000000000000 else if c % 3 = 1 then -1000000000000 else 1000000000000 - c / 3 % 99
theorem numberBy_le (c way : Int) : -1000000000000 ≤ numberBy c way ∧ numberBy c way ≤ 1000000000000 := by
  unfold numberBy
  split
  · omega
  · split
    · omega
    · split
      · omega
      · split
        · omega
        · split <;> omega
def spNumBy : Sp := fun vs H Q _ => ∃ (c way : Int), vs = [.int c, .int way] ∧ RetV (.int (numberBy c way)) H Q
def kindAt (way : Int) (k : Nat) : Int := if way > 3 then (way + (k : Int) / 2) % 4 else way
/-- the drawn numbers -/
def drawn (cs : List Int) (first : Int) (count : Nat) (way : Int) : List Int := (List.range count).map fun k : Nat => numberBy (cell cs (first + (k : Int))) (kindAt way k)
theorem drawn_len (cs : List Int) (first : Int) (count : Nat) (way : Int) : (drawn cs first count way).length = count := by
  unfold drawn
  rw [List.length_map, List.length_range]
theorem drawn_le {cs : List Int} {first : Int} {count : Nat} {way x : Int} (h : x ∈ drawn cs first count way) : -1000000000000 ≤ x ∧ x ≤ 1000000000000 := by
  unfold drawn at h
  obtain ⟨k, _, e⟩ := List.mem_map.mp h
  rw [← e]
  exact numberBy_le _ _
def spNums : Sp := fun vs H Q _ => ∃ (a : Addr) (cs : List Int) (first : Int) (count : Nat) (way : Int), vs = [.ref a, .int first, .int (count : Int), .int way] ∧ SqL K H a (cs.map V.int) ∧ 0 ≤ first ∧ count ≤ 1000 ∧
  RetL ((drawn cs first count way).map V.int) H Q
/-- the set of a list: its rests, rising -/
def hasRest (n : Int) (xs : List Int) (r : Int) : Bool := xs.any fun x => decide ((x - r) % n = 0)
def rset (n : Nat) (xs : List Int) : List Int := ((List.range n).map fun i : Nat => (i : Int)).filter (hasRest n xs)
def goodN (n : Int) : Prop := 1 ≤ n ∧ n ≤ 24
/-- see_round: nothing, or BadRound (the class at C) -/
def spSee (C : Addr) : Sp := fun vs H Q E => ∃ n : Int, vs = [.int n] ∧ (goodN n → RetV .non H Q) ∧ (¬ goodN n → ∀ H2, Ex H H2 → E (.ref C) none H2)
/-- a list and a round: refused, or a new list -/
def spRests (C : Addr) : Sp := fun vs H Q E => ∃ (a : Addr) (xs : List Int) (n : Int), vs = [.ref a, .int n] ∧ SqL K H a (xs.map V.int) ∧ xs.length ≤ 2000 ∧ (goodN n → RetL ((rset n.toNat xs).map V.int) H Q) ∧ (¬ goodN n → ∀ H2, Ex H H2 → E (.ref C) none H2)
def spLawSet : Sp := fun vs H Q _ => ∃ (a : Addr) (xs : List Int) (n : Int), vs = [.ref a, .int n] ∧ SqL K H a (xs.map V.int) ∧ xs.length ≤ 2000 ∧ goodN n ∧ RetL ((rset n.toNat xs).map V.int) H Q
/-- a list of whole numbers, and the one that is due -/
def spIsSet : Sp := fun vs H Q _ => ∃ (a b : Addr) (xs ys : List Int), vs = [.ref a, .ref b] ∧ H a = some (.lst (xs.map V.int)) ∧ SqL K H b (ys.map V.int) ∧ RetV (.bl (decide (xs = ys))) H Q
/-- law's -/
def spLaw : Sp := fun vs H Q _ => ∃ (a : Addr) (ns : List Int), vs = [.ref a] ∧ SqL K H a (ns.map V.int) ∧ ns.length ≤ 63 ∧ ∀ H', Q (.bl true) H'
end
/-! the promises as values -/
section
variable {K : PySem.W.Frag} {H : Hp}
theorem spv_cell {a : Addr} {cs : List Int} {k : Int} (h : SqL K H a (cs.map V.int)) (hk : 0 ≤ k) : SpV (spCell K) [.ref a, .int k] H (.int (cell cs k)) := fun H1 e Q q E => ⟨a, cs, k, rfl, ex_l e h, hk, fun H2 e2 => q H2 e2⟩
theorem spv_whole {i : Int} : SpV spWhole [.int i] H (.bl true) := fun H1 e Q q E => ⟨_, rfl, ⟨i, rfl⟩, fun H2 e2 => q H2 e2⟩
theorem spv_numBy {c way : Int} : SpV spNumBy [.int c, .int way] H (.int (numberBy c way)) := fun H1 e Q q E => ⟨c, way, rfl, fun H2 e2 => q H2 e2⟩
theorem spl_nums {a : Addr} {cs : List Int} {first way : Int} {count : Nat} (h : SqL K H a (cs.map V.int)) (hf : 0 ≤ first) (hc : count ≤ 1000) : SpL (spNums K) [.ref a, .int first, .int (count : Int), .int way] H ((drawn cs first count way).map V.int) := fun H1 e Q q E =>
  ⟨a, cs, first, count, way, rfl, ex_l e h, hf, hc, fun p H2 hp e2 h2 => q p H2 hp e2 h2⟩
theorem spl_rests {C a : Addr} {xs : List Int} {n : Int} (h : SqL K H a (xs.map V.int)) (hl : xs.length ≤ 2000) (hn : goodN n) : SpL (spRests K C) [.ref a, .int n] H ((rset n.toNat xs).map V.int) := fun H1 e Q q E =>
  ⟨a, xs, n, rfl, ex_l e h, hl, fun _ p H2 hp e2 h2 => q p H2 hp e2 h2, fun z => absurd hn z⟩
theorem spl_lawSet {a : Addr} {xs : List Int} {n : Int} (h : SqL K H a (xs.map V.int)) (hl : xs.length ≤ 2000) (hn : goodN n) : SpL (spLawSet K) [.ref a, .int n] H ((rset n.toNat xs).map V.int) := fun H1 e Q q E =>
  ⟨a, xs, n, rfl, ex_l e h, hl, hn, fun p H2 hp e2 h2 => q p H2 hp e2 h2⟩
theorem spv_isSet {a b : Addr} {xs ys : List Int} (h : H a = some (.lst (xs.map V.int))) (h2 : SqL K H b (ys.map V.int)) : SpV (spIsSet K) [.ref a, .ref b] H (.bl (decide (xs = ys))) := fun H1 e Q q E =>
  ⟨a, b, xs, ys, rfl, e _ _ h, ex_l e h2, fun H2 e2 => q H2 e2⟩
end
/-- see_round(n), and what follows it -/
theorem q_see {K : PySem.W.Frag} {H : Hp} {σ : L2.St} {te : TE} {D : Ends} {tz : TS} {C : Addr} {E : XK} {n : Int} (h : Ev te σ H (.int n)) (k : goodN n → ∀ H1, Ex H H1 → tz D σ H1) (kE : ¬ goodN n → ∀ H1, Ex H H1 → E (.ref C) none H1) :
    tSeq (tDrop (tCall (spSee C) [] E (tCons te tNil))) tz D σ H := h H (Ex.refl H) _ fun H1 e1 => ⟨n, rfl, fun g H2 e2 => k g H2 (e1.trans e2), fun g H2 e2 => kE g H2 (e1.trans e2)⟩
/-! the sets' mathematics -/
theorem mem_rset {n : Nat} {xs : List Int} {k : Int} : k ∈ rset n xs ↔ 0 ≤ k ∧ k < n ∧ ∃ x ∈ xs, (x - k) % (n : Int) = 0 := by
  unfold rset hasRest
  rw [List.mem_filter, List.mem_map]
  simp only [List.mem_range, List.any_eq_true, decide_eq_true_eq]
  constructor
  · rintro ⟨⟨i, hi, e⟩, x⟩
    exact ⟨by omega, by omega, x⟩
  · rintro ⟨h0, h1, x⟩
    exact ⟨⟨k.toNat, by omega, by omega⟩, x⟩
theorem rset_rises (n : Nat) (xs : List Int) : (rset n xs).Pairwise (· < ·) := by
  unfold rset
  refine List.Pairwise.filter _ ?_
  rw [List.pairwise_map]
  refine List.Pairwise.imp ?_ (List.pairwise_lt_range (n := n))
  intro a b h
  exact Int.ofNat_lt.mpr h
theorem rset_len (n : Nat) (xs : List Int) : (rset n xs).length ≤ n := by
  unfold rset
  refine Nat.le_trans (List.length_filter_le _ _) ?_
  rw [List.length_map, List.length_range]
  exact Nat.le_refl _
end Sr
namespace Sr
open PySem PySem.Spec PyProof.Rows L2 Evl
/-- the script's cell, as the laws ask it: _law_cell_at(script, k), the script in slot 0 -/
theorem ev_cell {K : PySem.W.Frag} {σ : L2.St} {H H' : Hp} {a : Addr} {cs : List Int} {k : Int} {ta tb : TE} {E : XK} (hS : SqL K H a (cs.map V.int)) (e : Ex H H') (ha : Ev ta σ H' (.ref a)) (hb : Ev tb σ H' (.int k)) (hk : 0 ≤ k) :
    Ev (tCall (spCell K) [] E (tCons ta (tCons tb tNil))) σ H' (.int (cell cs k)) := ev_call (ea_cons ha (ea_cons hb ea_nil)) (spv_cell (ex_l e hS) hk)
/-- how many numbers a law draws: as the script's cell says, or as the script is long -/
theorem countOf (d L w k off most m : Int) (hd : 0 ≤ d ∧ d ≤ m) (hm : 0 ≤ most ∧ most ≤ m) (hL : L ≤ 63) (ho : 0 ≤ off) : ∃ c : Nat, (c : Int) ≤ m ∧ (c : Int) = if w = k then (if most < (if (L - off) > 0 then L - off else 0) then most else (if (L - off) > 0 then L - off else 0)) else d := by
  have g : 0 ≤ (if w = k then (if most < (if (L - off) > 0 then L - off else 0) then most else (if (L - off) > 0 then L - off else 0)) else d) ∧ (if w = k then (if most < (if (L - off) > 0 then L - off else 0) then most else (if (L - off) > 0 then L - off else 0)) else d) ≤ m := by
    split
    · split
      · omega
      · split at * <;> omega
    · omega
  exact ⟨(if w = k then (if most < (if (L - off) > 0 then L - off else 0) then most else (if (L - off) > 0 then L - off else 0)) else d).toNat, by omega, by omega⟩
theorem goodN_of (c : Int) : goodN (1 + c % 24) := by
  unfold goodN
  omega
end Sr
namespace Sr
open PySem PySem.Spec PyProof.Rows L2 Evl
/-! ### choices and what they leave -/
def Ch (xs : List Int) (n : Int) (k : Nat) (r : Int) : Prop := ∃ s : List Int, s.Sublist xs ∧ s.length = k ∧ s.sum % n = r
theorem ch_len {xs : List Int} {n : Int} {k : Nat} {r : Int} (h : Ch xs n k r) : k ≤ xs.length := by
  obtain ⟨s, h1, h2, _⟩ := h
  have := h1.length_le
  omega
theorem ch_range {xs : List Int} {n : Int} {k : Nat} {r : Int} (hn : 0 < n) (h : Ch xs n k r) : 0 ≤ r ∧ r < n := by
  obtain ⟨s, _, _, rfl⟩ := h
  exact ⟨Int.emod_nonneg _ (by omega), Int.emod_lt_of_pos _ hn⟩
theorem ch_nil {n : Int} {k : Nat} {r : Int} : Ch [] n k r ↔ k = 0 ∧ r = 0 := by
  constructor
  · rintro ⟨s, h1, h2, h3⟩
    rw [List.sublist_nil] at h1
    subst h1
    refine ⟨h2.symm, ?_⟩
    rw [← h3]
    exact Int.zero_emod n
  · rintro ⟨rfl, rfl⟩
    exact ⟨[], List.Sublist.refl _, rfl, Int.zero_emod n⟩
theorem sub_one {l : List Int} {x : Int} (h : l.Sublist [x]) : l = [] ∨ l = [x] := by
  cases h with
  | cons _ h => exact .inl (List.sublist_nil.mp h)
  | cons_cons _ h => exact .inr (by rw [List.sublist_nil.mp h])
theorem ch_snoc {xs : List Int} {n x : Int} {k : Nat} {r : Int} : Ch (xs ++ [x]) n k r ↔ Ch xs n k r ∨ ∃ (j : Nat) (s : Int), k = j + 1 ∧ Ch xs n j s ∧ r = (s + x) % n := by
  constructor
  · rintro ⟨s, h1, h2, h3⟩
    obtain ⟨l1, l2, rfl, g1, g2⟩ := List.sublist_append_iff.mp h1
    rcases sub_one g2 with rfl | rfl
    · left
      rw [List.append_nil] at h2 h3
      exact ⟨l1, g1, h2, h3⟩
    · right
      rw [List.length_append] at h2
      refine ⟨l1.length, l1.sum % n, by rw [← h2]; rfl, ⟨l1, g1, rfl, rfl⟩, ?_⟩
      rw [List.sum_append] at h3
      rw [Int.emod_add_emod, ← h3]
      simp
  · rintro (⟨s, h1, h2, h3⟩ | ⟨j, s, rfl, ⟨l, g1, g2, g3⟩, rfl⟩)
    · exact ⟨s, h1.trans (List.sublist_append_left _ _), h2, h3⟩
    · refine ⟨l ++ [x], g1.append (List.Sublist.refl _), by rw [List.length_append, g2]; rfl, ?_⟩
      rw [List.sum_append, ← g3, Int.emod_add_emod]
      simp
theorem ch_over {xs : List Int} {n : Int} {k : Nat} {r : Int} (h : xs.length < k) : ¬ Ch xs n k r := fun g => by
  have := ch_len g
  omega
/-! ### dicts of rests -/
def Keys (n : Int) (P : Int → Prop) (kvs : List (Key × V)) : Prop :=
  (kvs.map (·.1)).Nodup ∧ (∀ kv ∈ kvs, ∃ r : Int, kv.1 = (Sum.inl r : Key) ∧ 0 ≤ r ∧ r < n) ∧ ∀ r : Int, (valV kvs (Sum.inl r : Key)).isSome = true ↔ P r
theorem keys_nil {n : Int} {P : Int → Prop} (h : ∀ r, ¬ P r) : Keys n P [] := ⟨List.nodup_nil, fun kv h => (nomatch h), fun r => by
  rw [valV_nil]
  exact ⟨fun z => (nomatch z), fun z => absurd z (h r)⟩⟩
theorem keys_iff {n : Int} {P P' : Int → Prop} {kvs : List (Key × V)} (h : Keys n P kvs) (e : ∀ r, P r ↔ P' r) : Keys n P' kvs := ⟨h.1, h.2.1, fun r => (h.2.2 r).trans (e r)⟩
theorem keys_put {n : Int} {P : Int → Prop} {kvs : List (Key × V)} {r : Int} {v : V} (h : Keys n P kvs) (h0 : 0 ≤ r) (h1 : r < n) : Keys n (fun j => P j ∨ j = r) (putK kvs (Sum.inl r : Key) v) := by
  obtain ⟨a, b, c⟩ := h
  refine ⟨?_, ?_, fun j => ?_⟩
  · cases hv : valV kvs (Sum.inl r : Key) with
    | none =>
      rw [putK_new v hv, List.map_append]
      refine List.nodup_append.mpr ⟨a, List.nodup_cons.mpr ⟨fun h => (nomatch h), List.nodup_nil⟩, fun x hx y hy => ?_⟩
      have e : y = (Sum.inl r : Key) := by simpa using hy
      subst e
      exact fun z => valV_not hv (z ▸ hx)
    | some u =>
      have e : (putK kvs (Sum.inl r : Key) v).map (·.1) = kvs.map (·.1) := by
        unfold putK
        rw [valV_any, hv]
        rw [if_pos (show (some u).isSome = true from rfl), List.map_map]
        refine List.map_congr_left fun kv _ => ?_
        show (if kv.1 = _ then (kv.1, v) else kv).1 = kv.1
        by_cases hk : kv.1 = (Sum.inl r : Key)
        · rw [if_pos hk]
        · rw [if_neg hk]
      rw [e]
      exact a
  · intro kv hkv
    cases hv : valV kvs (Sum.inl r : Key) with
    | none =>
      rw [putK_new v hv] at hkv
      rcases List.mem_append.mp hkv with g | g
      · exact b kv g
      · have e : kv = ((Sum.inl r : Key), v) := by simpa using g
        subst e
        exact ⟨r, rfl, h0, h1⟩
    | some u =>
      unfold putK at hkv
      rw [valV_any, hv] at hkv
      rw [if_pos (show (some u).isSome = true from rfl)] at hkv
      obtain ⟨kv', g, rfl⟩ := List.mem_map.mp hkv
      obtain ⟨q, g1, g2⟩ := b kv' g
      refine ⟨q, ?_, g2⟩
      by_cases hk : kv'.1 = (Sum.inl r : Key)
      · rw [if_pos hk]
        exact g1
      · rw [if_neg hk]
        exact g1
  · rw [valV_put]
    by_cases e : j = r
    · subst e
      rw [if_pos rfl]
      exact ⟨fun _ => Or.inr rfl, fun _ => rfl⟩
    · rw [if_neg (fun z => e (Sum.inl.inj z)), c j]
      exact ⟨Or.inl, fun z => z.elim id fun z => absurd z e⟩
theorem valV_mem {kvs : List (Key × V)} {k : Key} : (valV kvs k).isSome = true ↔ k ∈ kvs.map (·.1) := by
  rw [← valV_any, List.any_eq_true]
  constructor
  · rintro ⟨kv, h1, h2⟩
    exact List.mem_map.mpr ⟨kv, h1, of_decide_eq_true h2⟩
  · intro h
    obtain ⟨kv, h1, h2⟩ := List.mem_map.mp h
    exact ⟨kv, h1, decide_eq_true h2⟩
theorem keys_ints {n : Int} {P : Int → Prop} {kvs : List (Key × V)} (h : Keys n P kvs) : ∃ ns : List Int, kvs.map (fun kv => kV kv.1) = ns.map V.int ∧ ns.length = kvs.length ∧ ns.Nodup ∧ (∀ r, r ∈ ns ↔ P r) ∧ ∀ r ∈ ns, 0 ≤ r ∧ r < n := by
  obtain ⟨a, b, c⟩ := h
  have g : ∀ l : List (Key × V), (∀ kv ∈ l, ∃ r : Int, kv.1 = (Sum.inl r : Key) ∧ 0 ≤ r ∧ r < n) → ∃ ns : List Int, l.map (·.1) = ns.map (fun r => (Sum.inl r : Key)) ∧ ∀ r ∈ ns, 0 ≤ r ∧ r < n := by
    intro l
    induction l with
    | nil => exact fun _ => ⟨[], rfl, fun r h => nomatch h⟩
    | cons kv l ih =>
      intro h
      obtain ⟨ns, e, k⟩ := ih fun kv h' => h kv (List.mem_cons_of_mem _ h')
      obtain ⟨r, e2, k2⟩ := h kv List.mem_cons_self
      refine ⟨r :: ns, ?_, fun s hs => ?_⟩
      · rw [List.map_cons, List.map_cons, e, e2]
      · rcases List.mem_cons.mp hs with rfl | hs
        · exact k2
        · exact k s hs
  obtain ⟨ns, e, k⟩ := g kvs b
  refine ⟨ns, ?_, ?_, ?_, fun r => ?_, k⟩
  · have e2 : kvs.map (fun kv => kV kv.1) = (kvs.map (·.1)).map kV := by
      rw [List.map_map]
      rfl
    rw [e2, e, List.map_map]
    rfl
  · have := congrArg List.length e
    simp only [List.length_map] at this
    exact this.symm
  · rw [e] at a
    rw [List.nodup_iff_pairwise_ne] at a ⊢
    rw [List.pairwise_map] at a
    exact a.imp fun h z => h (congrArg (fun r : Int => (Sum.inl r : Key)) z)
  · rw [← c r, valV_mem, e]
    constructor
    · intro h
      exact List.mem_map.mpr ⟨r, h, rfl⟩
    · intro h
      obtain ⟨s, h1, h2⟩ := List.mem_map.mp h
      cases h2
      exact h1
theorem keys_len {n : Int} {P : Int → Prop} {kvs : List (Key × V)} (hn : goodN n) (h : Keys n P kvs) : kvs.length ≤ 24 := by
  obtain ⟨ns, _, e, g, _, k⟩ := keys_ints h
  have q := SrSet.nodup_len ns ((List.range n.toNat).map fun i : Nat => (i : Int)) g fun r hr => by
    obtain ⟨h0, h1⟩ := k r hr
    exact List.mem_map.mpr ⟨r.toNat, List.mem_range.mpr (by omega), by omega⟩
  rw [List.length_map, List.length_range] at q
  have := hn.2
  omega
/-! ### rows of them -/
def Row (H : Hp) (n : Int) (P : Int → Prop) (p : Addr) : Prop := ∃ kvs, H p = some (.dK kvs) ∧ Keys n P kvs
def RowsAt (H : Hp) (n : Int) (P : Nat → Int → Prop) (ps : List Addr) : Prop := ∀ k p, ps[k]? = some p → Row H n (P k) p
def Rows (H : Hp) (p : Addr) (n : Int) (P : Nat → Int → Prop) (m : Nat) : Prop := ∃ ps : List Addr, H p = some (.lst (ps.map V.ref)) ∧ ps.length = m ∧ RowsAt H n P ps
theorem Row.ex {H H' : Hp} {n : Int} {P : Int → Prop} {p : Addr} (e : Ex H H') (h : Row H n P p) : Row H' n P p := by
  obtain ⟨kvs, a, b⟩ := h
  exact ⟨kvs, e _ _ a, b⟩
theorem RowsAt.ex {H H' : Hp} {n : Int} {P : Nat → Int → Prop} {ps : List Addr} (e : Ex H H') (h : RowsAt H n P ps) : RowsAt H' n P ps := fun k p hk => (h k p hk).ex e
theorem Rows.ex {H H' : Hp} {p : Addr} {n : Int} {P : Nat → Int → Prop} {m : Nat} (e : Ex H H') (h : Rows H p n P m) : Rows H' p n P m := by
  obtain ⟨ps, a, b, c⟩ := h
  exact ⟨ps, e _ _ a, b, c.ex e⟩
theorem Row.iff {H : Hp} {n : Int} {P P' : Int → Prop} {p : Addr} (h : Row H n P p) (e : ∀ r, P r ↔ P' r) : Row H n P' p := by
  obtain ⟨kvs, a, b⟩ := h
  exact ⟨kvs, a, keys_iff b e⟩
theorem RowsAt.iff {H : Hp} {n : Int} {P P' : Nat → Int → Prop} {ps : List Addr} (h : RowsAt H n P ps) (e : ∀ k, k < ps.length → ∀ r, P k r ↔ P' k r) : RowsAt H n P' ps := fun k p hk => (h k p hk).iff (e k (List.getElem?_eq_some_iff.mp hk).1)
/-- rows just made, each its own dict -/
def FR (H0 H : Hp) (n : Int) (P : Nat → Int → Prop) (ps : List Addr) : Prop := Ex H0 H ∧ ps.Nodup ∧ (∀ p ∈ ps, H0 p = none) ∧ RowsAt H n P ps
theorem FR.nil {H0 H : Hp} {n : Int} {P : Nat → Int → Prop} (e : Ex H0 H) : FR H0 H n P [] := ⟨e, List.nodup_nil, fun p h => (nomatch h), fun k p h => by cases h⟩
theorem FR.iff {H0 H : Hp} {n : Int} {P P' : Nat → Int → Prop} {ps : List Addr} (h : FR H0 H n P ps) (e : ∀ k, k < ps.length → ∀ r, P k r ↔ P' k r) : FR H0 H n P' ps := ⟨h.1, h.2.1, h.2.2.1, h.2.2.2.iff e⟩
theorem FR.ex {H0 H H' : Hp} {n : Int} {P : Nat → Int → Prop} {ps : List Addr} (h : FR H0 H n P ps) (e : Ex H H') : FR H0 H' n P ps := ⟨h.1.trans e, h.2.1, h.2.2.1, h.2.2.2.ex e⟩
/-- an object that is no dict, and new, may change -/
theorem FR.lst {H0 H : Hp} {n : Int} {P : Nat → Int → Prop} {ps : List Addr} {D : Addr} {xs : List V} {o : HO} (h : FR H0 H n P ps) (hD : H0 D = none) (h1 : H D = some (.lst xs)) : FR H0 (upd H D o) n P ps := by
  obtain ⟨a, b, c, d⟩ := h
  refine ⟨Ex.mut a hD, b, c, fun k p hk => ?_⟩
  obtain ⟨kvs, g1, g2⟩ := d k p hk
  refine ⟨kvs, ?_, g2⟩
  have hne : p ≠ D := fun z => by
    subst z
    rw [h1] at g1
    cases g1
  rw [upd_ne hne]
  exact g1
theorem FR.add {H0 H : Hp} {n : Int} {P : Nat → Int → Prop} {ps : List Addr} {q : Addr} {kvs : List (Key × V)} (h : FR H0 H n P ps) (hq : H q = none) (hk : Keys n (P ps.length) kvs) : FR H0 (upd H q (.dK kvs)) n P (ps ++ [q]) := by
  obtain ⟨a, b, c, d⟩ := h
  have e := Ex.new (o := .dK kvs) hq
  refine ⟨a.trans e, ?_, fun p hp => ?_, fun k p hkp => ?_⟩
  · refine List.nodup_append.mpr ⟨b, List.nodup_cons.mpr ⟨fun h => (nomatch h), List.nodup_nil⟩, fun x hx y hy => ?_⟩
    have ey : y = q := by simpa using hy
    subst ey
    intro z
    subst z
    obtain ⟨k, hk⟩ := List.getElem?_of_mem hx
    obtain ⟨_, g, _⟩ := d k x hk
    rw [hq] at g
    cases g
  · rcases List.mem_append.mp hp with g | g
    · exact c p g
    · have ey : p = q := by simpa using g
      subst ey
      exact fresh_back a hq
  · rw [List.getElem?_append] at hkp
    by_cases hlt : k < ps.length
    · rw [if_pos hlt] at hkp
      exact (d k p hkp).ex e
    · rw [if_neg hlt] at hkp
      have hk0 : k - ps.length = 0 := by
        have := (List.getElem?_eq_some_iff.mp hkp).1
        simp at this
        omega
      rw [hk0] at hkp
      cases hkp
      have ek : k = ps.length := by omega
      subst ek
      exact ⟨kvs, upd_same, hk⟩
theorem FR.put {H0 H : Hp} {n : Int} {P : Nat → Int → Prop} {ps : List Addr} {k : Nat} {q : Addr} {kvs : List (Key × V)} {r : Int} {v : V} (h : FR H0 H n P ps) (hq : ps[k]? = some q) (hv : H q = some (.dK kvs)) (h0 : 0 ≤ r) (h1 : r < n) :
    FR H0 (upd H q (.dK (putK kvs (Sum.inl r : Key) v))) n (fun j s => P j s ∨ (j = k ∧ s = r)) ps := by
  obtain ⟨a, b, c, d⟩ := h
  have hm := List.mem_of_getElem? hq
  refine ⟨Ex.mut a (c q hm), b, c, fun j p hj => ?_⟩
  by_cases e : j = k
  · subst e
    rw [hq] at hj
    cases hj
    obtain ⟨kvs', g1, g2⟩ := d j q hq
    rw [hv] at g1
    cases g1
    exact ⟨_, upd_same, keys_iff (keys_put g2 h0 h1) fun s => ⟨fun z => z.imp id fun z => ⟨rfl, z⟩, fun z => z.imp id fun z => z.2⟩⟩
  · obtain ⟨kvs', g1, g2⟩ := d j p hj
    have hne : p ≠ q := fun z => by
      subst z
      have i1 := (List.getElem?_eq_some_iff.mp hj)
      have i2 := (List.getElem?_eq_some_iff.mp hq)
      obtain ⟨l1, e1⟩ := i1
      obtain ⟨l2, e2⟩ := i2
      exact e ((List.getElem_inj b).mp (e1.trans e2.symm))
    refine ⟨kvs', ?_, keys_iff g2 fun s => ⟨Or.inl, fun z => z.elim id fun z => absurd z.1 e⟩⟩
    rw [upd_ne hne]
    exact g1
theorem FR.rows {H0 H : Hp} {n : Int} {P : Nat → Int → Prop} {ps : List Addr} {p : Addr} (h : FR H0 H n P ps) (hp : H p = some (.lst (ps.map V.ref))) : Rows H p n P ps.length := ⟨ps, hp, rfl, h.2.2.2⟩
/-! ### readings -/
section
variable {K : PySem.W.Frag} {σ : L2.St} {H H' : Hp} {ta tb te tx : TE} {t u : TT} {x y z v : V} {D : Ends} {tu tw tz : TS}
/-- list(d) -/
theorem el_keys {p : Addr} {kvs : List (Key × V)} {ns : List Int} (ha : Ev ta σ H (.ref p)) (hp : H p = some (.dK kvs)) (hk : kvs.map (fun kv => kV kv.1) = ns.map V.int) : EvL (tCB rListD (tCons ta tNil)) σ H (ns.map V.int) := fun H1 e Q q =>
  ha H1 e _ fun H2 e2 => ⟨p, kvs, rfl, (e.trans e2) _ _ hp, fun l hl => q l _ (fresh_back e2 hl) (e2.trans (Ex.new hl)) (by rw [upd_same, hk])⟩
/-- for k in range(i, -1, -1) -/
theorem s_forR3 {ta : TA} {j : Nat} {m : Nat} {lo : Int} (h : EvA ta σ H [.int lo, .int (-1), .int (-1)]) (hl : lo = (m : Int) - 1) (hm : m ≤ 100000) (Pv : Nat → L2.St → Hp → Prop) (h0 : ∀ H1, Ex H H1 → Pv 0 σ H1)
    (hs : ∀ (i : Nat) σ' H', i < m → Pv i σ' H' → tu { D with nx := Pv (i + 1), ct := Pv (i + 1), bk := D.nx } (σ'.set j (some (.int ((m - 1 - i : Nat) : Int)))) H') (hd : ∀ σ' H', Pv m σ' H' → D.nx σ' H') : tFor (iRng3 ta) (gName j) tu D σ H :=
  h H (Ex.refl H) _ fun H1 e => ⟨lo, -1, -1, m, rfl, by
    have g := RgC.neg (i := lo) (j := -1) (by omega) (by omega) (by omega) (by omega)
    have e2 : (lo - -1).toNat = m := by omega
    rw [e2] at g
    exact g, for_rangeC (lo := lo) (n := m) Pv (h0 H1 e) (fun i σ' H' hi p => by
      have e0 : lo + (i : Nat) * (-1 : Int) = ((m - 1 - i : Nat) : Int) := by omega
      show tu { D with nx := Pv (i + 1), ct := Pv (i + 1), bk := D.nx } (σ'.set j (some (.int (lo + (i : Nat) * (-1 : Int))))) H'
      rw [e0]
      exact hs i σ' H' hi p) hd⟩
theorem q_forR3 {ta : TA} {j : Nat} {m : Nat} {lo : Int} (h : EvA ta σ H [.int lo, .int (-1), .int (-1)]) (hl : lo = (m : Int) - 1) (hm : m ≤ 100000) (Pv : Nat → L2.St → Hp → Prop) (h0 : ∀ H1, Ex H H1 → Pv 0 σ H1)
    (hs : ∀ (i : Nat) σ' H', i < m → Pv i σ' H' → tu { D with nx := Pv (i + 1), ct := Pv (i + 1), bk := tz D } (σ'.set j (some (.int ((m - 1 - i : Nat) : Int)))) H') (hd : ∀ σ' H', Pv m σ' H' → tz D σ' H') : tSeq (tFor (iRng3 ta) (gName j) tu) tz D σ H :=
  s_forR3 (D := { D with nx := tz D }) h hl hm Pv h0 hs hd
/-- comprehensions whose items are new objects -/
theorem lcG_R1 {ta : TA} {j : Nat} {vs : List Nat} {n : Int} {Q : VK} (h : EvA ta σ H [.int n]) (hn : 0 ≤ n ∧ n ≤ 40000) (hw : ∀ x, wipe ((wipe σ vs).set j (some x)) vs = wipe σ vs) (Iv : Addr → Nat → Hp → Prop)
    (h0 : ∀ l H1, H l = none → Ex H H1 → H1 l = some (.lst []) → Iv l 0 H1)
    (hs : ∀ l (i : Nat) H1, (i : Int) < n → Iv l i H1 → te ((wipe σ vs).set j (some (.int (i : Int)))) H1 fun y H4 => ∃ acc, H4 l = some (.lst acc) ∧ acc.length < sizeLine ∧ Iv l (i + 1) (upd H4 l (.lst (acc ++ [y]))))
    (hd : ∀ l H1, Iv l n.toNat H1 → Q (.ref l) H1) : tLc (iRng1 ta) (gName j) tYes te vs σ H Q := h H (Ex.refl H) _ fun H1 e1 => ⟨n, rfl, by omega, by omega, fun l hl =>
  lc_range (lo := 0) (n := n.toNat) (Iv l) (h0 l _ (fresh_back e1 hl) (e1.trans (Ex.new hl)) upd_same) (fun i H' hi p => by
    have e0 : (0 : Int) + (i : Int) = (i : Int) := Int.zero_add _
    refine ⟨hw _, ?_⟩
    show te ((wipe σ vs).set j (some (.int ((0 : Int) + (i : Int))))) H' fun y H4 => ∃ acc, H4 l = some (.lst acc) ∧ acc.length < sizeLine ∧ Iv l (i + 1) (upd H4 l (.lst (acc ++ [y])))
    rw [e0]
    exact hs l i H' (by omega) p) (fun H' p => hd l H' p)⟩
theorem lcG_L {a : Addr} {xs : List V} {tl : TE} {j : Nat} {vs : List Nat} {Q : VK} (h : Ev tl σ H (.ref a)) (hx : SqL K H a xs) (hw : ∀ x, wipe ((wipe σ vs).set j (some x)) vs = wipe σ vs) (Iv : Addr → Nat → Hp → Prop)
    (h0 : ∀ l H1, H l = none → Ex H H1 → H1 l = some (.lst []) → Iv l 0 H1) (hI : ∀ l i H1, Iv l i H1 → Ex H H1)
    (hs : ∀ l i x H1, xs[i]? = some x → Iv l i H1 → te ((wipe σ vs).set j (some x)) H1 fun y H4 => ∃ acc, H4 l = some (.lst acc) ∧ acc.length < sizeLine ∧ Iv l (i + 1) (upd H4 l (.lst (acc ++ [y]))))
    (hd : ∀ l H1, Iv l xs.length H1 → Q (.ref l) H1) : tLc (iList K tl) (gName j) tYes te vs σ H Q := h H (Ex.refl H) _ fun H1 e1 => ⟨a, rfl, ⟨xs, ex_l e1 hx⟩, fun l hl =>
  lc_list (xs := xs) (Iv l) (h0 l _ (fresh_back e1 hl) (e1.trans (Ex.new hl)) upd_same) (fun i H' _ p => ex_l (hI l i H' p) hx) (fun i x H' hi p => ⟨hw x, hs l i x H' hi p⟩) (fun H' p => hd l H' p)⟩
end
section
variable {K : PySem.W.Frag} {σ : L2.St} {H H' : Hp} {ta tb te tx : TE} {t u : TT} {x y z v : V} {D : Ends} {tu tw tz : TS}
theorem q_asgOpLc {a : Addr} {xs : List V} {tl : TE} {j : Nat} {vs : List Nat} {r : R2} {g : TG} (h : Ev tl σ H (.ref a)) (hx : SqL K H a xs) (hw : ∀ x, wipe ((wipe σ vs).set j (some x)) vs = wipe σ vs) (Iv : Addr → Nat → Hp → Prop)
    (h0 : ∀ l H1, H l = none → Ex H H1 → H1 l = some (.lst []) → Iv l 0 H1) (hI : ∀ l i H1, Iv l i H1 → Ex H H1)
    (hs : ∀ l i x H1, xs[i]? = some x → Iv l i H1 → te ((wipe σ vs).set j (some x)) H1 fun y H4 => ∃ acc, H4 l = some (.lst acc) ∧ acc.length < sizeLine ∧ Iv l (i + 1) (upd H4 l (.lst (acc ++ [y]))))
    (hd : ∀ l H1, Iv l xs.length H1 → tb σ H1 fun y H2 => r (.ref l) y H2 fun v H3 => g v σ H3 (tz D)) : tSeq (tAsg (tOp r (tLc (iList K tl) (gName j) tYes te vs) tb) g) tz D σ H :=
  lcG_L (Q := fun x H1 => tb σ H1 fun y H2 => r x y H2 fun v H3 => g v σ H3 (tz D)) h hx hw Iv h0 hI hs hd
theorem s_retLc {a : Addr} {xs : List V} {tl : TE} {j : Nat} {vs : List Nat} (h : Ev tl σ H (.ref a)) (hx : SqL K H a xs) (hw : ∀ x, wipe ((wipe σ vs).set j (some x)) vs = wipe σ vs) (Iv : Addr → Nat → Hp → Prop)
    (h0 : ∀ l H1, H l = none → Ex H H1 → H1 l = some (.lst []) → Iv l 0 H1) (hI : ∀ l i H1, Iv l i H1 → Ex H H1)
    (hs : ∀ l i x H1, xs[i]? = some x → Iv l i H1 → te ((wipe σ vs).set j (some x)) H1 fun y H4 => ∃ acc, H4 l = some (.lst acc) ∧ acc.length < sizeLine ∧ Iv l (i + 1) (upd H4 l (.lst (acc ++ [y]))))
    (hd : ∀ l H1, Iv l xs.length H1 → D.rt (.ref l) H1) : tRet (tLc (iList K tl) (gName j) tYes te vs) D σ H :=
  lcG_L (Q := D.rt) h hx hw Iv h0 hI hs hd
theorem q_asgLcR1 {ta : TA} {i j : Nat} {vs : List Nat} {n : Int} (h : EvA ta σ H [.int n]) (hn : 0 ≤ n ∧ n ≤ 40000) (hw : ∀ x, wipe ((wipe σ vs).set j (some x)) vs = wipe σ vs) (Iv : Addr → Nat → Hp → Prop)
    (h0 : ∀ l H1, H l = none → Ex H H1 → H1 l = some (.lst []) → Iv l 0 H1)
    (hs : ∀ l (i : Nat) H1, (i : Int) < n → Iv l i H1 → te ((wipe σ vs).set j (some (.int (i : Int)))) H1 fun y H4 => ∃ acc, H4 l = some (.lst acc) ∧ acc.length < sizeLine ∧ Iv l (i + 1) (upd H4 l (.lst (acc ++ [y]))))
    (hd : ∀ l H1, Iv l n.toNat H1 → tz D (σ.set i (some (.ref l))) H1) : tSeq (tAsg (tLc (iRng1 ta) (gName j) tYes te vs) (gName i)) tz D σ H :=
  lcG_R1 (Q := fun x H1 => tz D (σ.set i (some x)) H1) h hn hw Iv h0 hs hd
end
/-- l.append(f(..)) -/
theorem s_appC {K : PySem.W.Frag} {σ : L2.St} {H : Hp} {ta : TE} {D : Ends} {l : Addr} {xs vs : List V} {sp : Sp} {E : XK} {tc : TA} (hl : H l = some (.lst xs)) (ha : Ev ta σ H (.ref l)) (hv : EvA tc σ H vs)
    (k : ∀ H1, Ex H H1 → sp vs H1 (fun y H2 => rAppend (.ref l) [y] H2 fun _ H4 => D.nx σ H4) E) : tDrop (tBM K "list" rAppend ta (tCons (tCall sp [] E tc) tNil)) D σ H := ha H (Ex.refl H) _ fun H1 e1 =>
  ⟨Or.inl ⟨rfl, xs, sq_of (e1 l _ hl)⟩, hv H1 e1 _ fun H2 e2 => by
    show sp (vs ++ []) H2 (fun y H2 => rAppend (.ref l) [y] H2 fun _ H4 => D.nx σ H4) E
    rw [List.append_nil]
    exact k H2 (e1.trans e2)⟩
theorem atI_end {α : Type} {xs : List α} {v : α} {m : Nat} (h : xs[m]? = some v) (hl : xs.length = m + 1) : atI xs (-1) = some v := by
  have e : xs = xs.take m ++ [v] := by
    have g := List.take_add_one (l := xs) (i := m)
    rw [h, List.take_of_length_le (by omega)] at g
    exact g
  rw [e]
  exact atI_last _ v
/-- return [.. for x in f(..)[i]] -/
theorem s_retLcIx {K : PySem.W.Frag} {σ : L2.St} {H : Hp} {D : Ends} {sp : Sp} {E : XK} {tc : TA} {ti te : TE} {j : Nat} {ws : List Nat} {vs : List V} (hv : EvA tc σ H vs)
    (k : ∀ H1, Ex H H1 → sp vs H1 (fun x H2 => ti σ H2 fun y H3 => rIxL K x y H3 fun z H4 => tLc (iList K (tC z)) (gName j) tYes te ws σ H4 D.rt) E) : tRet (tLc (iList K (tOp (rIxL K) (tCall sp [] E tc) ti)) (gName j) tYes te ws) D σ H :=
  hv H (Ex.refl H) _ fun H1 e1 => by
    show sp (vs ++ []) H1 _ E
    rw [List.append_nil]
    exact k H1 e1
theorem ref_at {xs : List Addr} {i : Nat} {x : V} (h : (xs.map V.ref)[i]? = some x) : ∃ z, xs[i]? = some z ∧ x = .ref z := by
  rw [List.getElem?_map] at h
  cases e : xs[i]? with
  | none => rw [e] at h; cases h
  | some z => rw [e] at h; exact ⟨z, rfl, (Option.some.inj h).symm⟩
theorem s_forNLn {K : PySem.W.Frag} {σ : L2.St} {H : Hp} {D : Ends} {tu : TS} {xs : List V} {tl : TE} {j : Nat} (h : EvL tl σ H xs) (Pv : Addr → Nat → L2.St → Hp → Prop) (h0 : ∀ p H1, H p = none → Ex H H1 → H1 p = some (.lst xs) → Pv p 0 σ H1) (hl : ∀ p i σ' H', i ≤ xs.length → Pv p i σ' H' → SqL K H' p xs)
    (hs : ∀ p i x σ' H', xs[i]? = some x → Pv p i σ' H' → tu { D with nx := Pv p (i + 1), ct := Pv p (i + 1), bk := D.nx } (σ'.set j (some x)) H') (hd : ∀ p σ' H', Pv p xs.length σ' H' → D.nx σ' H') : tFor (iList K tl) (gName j) tu D σ H :=
  s_forNL h Pv h0 hl hs hd
/-! ### promises -/
noncomputable def setRows (n : Int) (xs : List Int) (k : Nat) : List Int := ((List.range n.toNat).map fun i : Nat => (i : Int)).filter fun r => @decide (Ch xs n k r) (Classical.propDecidable _)
theorem mem_setRows {n : Int} {xs : List Int} {k : Nat} {r : Int} (hn : 0 < n) : r ∈ setRows n xs k ↔ Ch xs n k r := by
  unfold setRows
  rw [List.mem_filter]
  constructor
  · rintro ⟨_, h⟩
    exact @of_decide_eq_true _ (Classical.propDecidable _) h
  · intro h
    obtain ⟨h0, h1⟩ := ch_range hn h
    exact ⟨List.mem_map.mpr ⟨r.toNat, List.mem_range.mpr (by omega), by omega⟩, @decide_eq_true _ (Classical.propDecidable _) h⟩
theorem setRows_rises (n : Int) (xs : List Int) (k : Nat) : (setRows n xs k).Pairwise (· < ·) := by
  unfold setRows
  refine List.Pairwise.filter _ ?_
  rw [List.pairwise_map]
  exact (List.pairwise_lt_range (n := n.toNat)).imp fun h => by omega
theorem setRows_len (n : Int) (xs : List Int) (k : Nat) : (setRows n xs k).length ≤ n.toNat := by
  unfold setRows
  have h := List.length_filter_le (fun r => @decide (Ch xs n k r) (Classical.propDecidable _)) ((List.range n.toNat).map fun i : Nat => (i : Int))
  rw [List.length_map, List.length_range] at h
  exact h
/-- what sorted tells of a row's keys -/
theorem sorted_setRows {n : Int} {xs ns ns' : List Int} {k : Nat} (hn : 0 < n) (h : ∀ r, r ∈ ns ↔ Ch xs n k r) (hd : ns.Nodup) (hp : ns'.Perm ns) (hs : ns'.Pairwise (· ≤ ·)) : ns' = setRows n xs k := by
  refine SrSet.sortedEq _ _ ?_ (setRows_rises n xs k) fun r => ?_
  · have g := hp.symm.nodup hd
    rw [List.nodup_iff_pairwise_ne] at g
    exact (hs.and g).imp fun h => by omega
  · rw [hp.mem_iff, h r, mem_setRows hn]
theorem el_catLV {σ : L2.St} {H : Hp} {ta tb : TE} {q : Addr} {xs ys : List V} (ha : EvL ta σ H xs) (hb : Ev tb σ H (.ref q)) (hq : H q = some (.lst ys)) (hz : xs.length + ys.length ≤ 100000) : EvL (tOp rCat ta tb) σ H (xs ++ ys) := fun H1 e Q k =>
  ha H1 e _ fun p H2 hp2 e2 h2 => hb H2 (e.trans e2) _ fun H3 e3 => ⟨p, q, xs, ys, rfl, rfl, e3 _ _ h2, ((e.trans e2).trans e3) _ _ hq, sz_of hz, fun r hr => k r _ (fresh_back (e2.trans e3) hr) ((e2.trans e3).trans (Ex.new hr)) upd_same⟩
/-- sorted(list(d)) -/
theorem el_sortedKeys {K : PySem.W.Frag} {σ : L2.St} {H : Hp} {ta : TE} {p : Addr} {kvs : List (Key × V)} {ns xs : List Int} {n : Int} {k : Nat} (hn : 0 < n) (ha : Ev ta σ H (.ref p)) (hp : H p = some (.dK kvs)) (hk : kvs.map (fun kv => kV kv.1) = ns.map V.int) (h64 : ns.length < 64)
    (h : ∀ r, r ∈ ns ↔ Ch xs n k r) (hd : ns.Nodup) : EvL (tCB (rSorted K) (tCons (tCB rListD (tCons ta tNil)) tNil)) σ H ((setRows n xs k).map V.int) := fun H1 e Q q =>
  el_keys ha hp hk H1 e _ fun l H2 hl e2 h2 => ⟨l, ns, rfl, sq_of h2, h64, fun ns' p7 hperm hsort hp7 => q p7 _ (fresh_back e2 hp7) (e2.trans (Ex.new hp7)) (by rw [upd_same, sorted_setRows hn h hd hperm hsort])⟩
section
variable (K : PySem.W.Frag)
def spWider : Sp := fun vs H Q _ => ∃ (a : Addr) (ys : List Int) (x n : Int), vs = [.ref a, .int x, .int n] ∧ Rows H a n (Ch ys n) (ys.length + 1) ∧ ys.length ≤ 100 ∧ goodN n ∧
  ∀ p H2, H p = none → Ex H H2 → Rows H2 p n (Ch (ys ++ [x]) n) (ys.length + 2) → Q (.ref p) H2
def Layers (H : Hp) (p : Addr) (xs : List Int) (n : Int) : Prop := ∃ qs : List Addr, H p = some (.lst (qs.map V.ref)) ∧ qs.length = xs.length + 1 ∧ ∀ i q, qs[i]? = some q → Rows H q n (Ch (xs.take i) n) (i + 1)
def spLayers : Sp := fun vs H Q _ => ∃ (a : Addr) (xs : List Int) (n : Int), vs = [.ref a, .int n] ∧ SqL K H a (xs.map V.int) ∧ xs.length ≤ 100 ∧ goodN n ∧
  ∀ p H2, H p = none → Ex H H2 → Layers H2 p xs n → Q (.ref p) H2
def spLawTable : Sp := fun vs H Q _ => ∃ (a : Addr) (xs : List Int) (n : Int) (m : Nat), vs = [.ref a, .int n, .int (m : Int)] ∧ SqL K H a (xs.map V.int) ∧ xs.length ≤ 100 ∧ m ≤ 100 ∧ goodN n ∧
  ∀ p H2, H p = none → Ex H H2 → Rows H2 p n (Ch xs n) (m + 1) → Q (.ref p) H2
def spTable (C : Addr) : Sp := fun vs H Q E => ∃ (a : Addr) (xs : List Int) (n : Int), vs = [.ref a, .int n] ∧ SqL K H a (xs.map V.int) ∧ xs.length ≤ 100 ∧
  (goodN n → ∀ (p : Addr) (qs : List Addr) (H2 : Hp), H p = none → Ex H H2 → H2 p = some (.lst (qs.map V.ref)) → qs.length = xs.length + 1 → (∀ k q, qs[k]? = some q → q ≠ p ∧ H q = none ∧ H2 q = some (.lst ((setRows n xs k).map V.int))) → Q (.ref p) H2) ∧
  (¬ goodN n → ∀ H2, Ex H H2 → E (.ref C) none H2)
end
/-- r not in _law_table(xs, n, m)[m] -/
theorem ev_noneInTable {K : PySem.W.Frag} {σ : L2.St} {H : Hp} {ta ti : TE} {tc : TA} {E : XK} {a : Addr} {xs : List Int} {n r : Int} {m : Nat} (ha : Ev ta σ H (.int r)) (hv : EvA tc σ H [.ref a, .int n, .int (m : Int)]) (hi : Ev ti σ H (.int (m : Int))) (hS : SqL K H a (xs.map V.int))
    (hl : xs.length ≤ 100) (hm : m ≤ 100) (hn : goodN n) (hno : ¬ Ch xs n m r) : Ev (tDNotIn ta (tOp (rIxL K) (tCall (spLawTable K) [] E tc) ti)) σ H (.bl true) := fun H1 e Q q =>
  ha H1 e _ fun H2 e2 => hv H2 (e.trans e2) _ fun H3 e3 => ⟨a, xs, n, m, rfl, ex_l ((e.trans e2).trans e3) hS, hl, hm, hn, fun p H4 hp e4 hR => by
    obtain ⟨as, h4, hal, hrows⟩ := hR
    obtain ⟨r1, hr1⟩ : ∃ r1, as[m]? = some r1 := ⟨_, List.getElem?_eq_getElem (by omega)⟩
    obtain ⟨kvs, g1, g2⟩ := hrows m r1 hr1
    have ix : atI (as.map V.ref) (m : Int) = some (.ref r1) := atI_nat (by rw [List.getElem?_map, hr1]; rfl)
    have g4 : (valV kvs (Sum.inl r : Key)).isSome = false := by
      cases h : (valV kvs (Sum.inl r : Key)).isSome with
      | false => rfl
      | true => exact absurd ((g2.2.2 r).mp h) hno
    refine hi H4 (((e.trans e2).trans e3).trans e4) _ fun H5 e5 => ⟨p, _, _, _, rfl, rfl, sq_of (e5 _ _ h4), ix, r1, _, rfl, DGet.k (k := Sum.inl r) (e5 _ _ g1), ?_⟩
    rw [g4]
    exact q H5 (((e2.trans e3).trans e4).trans e5)⟩
end Sr
namespace Sr
open PySem PySem.Spec PyProof.Rows L2 Evl
/-! ### choices told as places -/
def pick (xs : List Int) (ps : List Nat) : Int := (ps.map fun p => xs.getD p 0).sum
def places (ps : List Nat) : List V := ps.map fun p : Nat => V.int (p : Int)
def IsCh (xs : List Int) (count : Nat) (wanted n : Int) (ps : List Nat) : Prop := ps.Pairwise (· < ·) ∧ (∀ p ∈ ps, p < xs.length) ∧ ps.length = count ∧ n ∣ pick xs ps - wanted
theorem pick_cons (xs : List Int) (p : Nat) (ps : List Nat) : pick xs (p :: ps) = xs.getD p 0 + pick xs ps := by
  unfold pick
  rw [List.map_cons, List.sum_cons]
theorem pick_append (xs : List Int) (ps qs : List Nat) : pick xs (ps ++ qs) = pick xs ps + pick xs qs := by
  unfold pick
  rw [List.map_append, List.sum_append]
def spChoose (K : PySem.W.Frag) (C : Addr) : Sp := fun vs H Q E => ∃ (a : Addr) (xs : List Int) (count : Nat) (wanted n : Int), vs = [.ref a, .int (count : Int), .int wanted, .int n] ∧ SqL K H a (xs.map V.int) ∧ xs.length ≤ 100 ∧
  (goodN n → (∀ (ps : List Nat) (p : Addr) (H2 : Hp), IsCh xs count wanted n ps → H p = none → Ex H H2 → H2 p = some (.lst (places ps)) → Q (.ref p) H2) ∧ (¬ Ch xs n count (wanted % n) → ∀ H2, Ex H H2 → Q .non H2)) ∧
  (¬ goodN n → ∀ H2, Ex H H2 → E (.ref C) none H2)
def spIsChoice (K : PySem.W.Frag) : Sp := fun vs H Q _ => ∃ (a b : Addr) (xs : List Int) (ps : List Nat) (count : Nat) (wanted n : Int), vs = [.ref a, .ref b, .int (count : Int), .int wanted, .int n] ∧ H a = some (.lst (places ps)) ∧ SqL K H b (xs.map V.int) ∧ xs.length ≤ 1000 ∧
  0 < n ∧ IsCh xs count wanted n ps ∧ RetV (.bl true) H Q
theorem spv_isChoice {K : PySem.W.Frag} {H : Hp} {a b : Addr} {xs : List Int} {ps : List Nat} {count : Nat} {wanted n : Int} (ha : H a = some (.lst (places ps))) (hb : SqL K H b (xs.map V.int)) (hl : xs.length ≤ 1000) (hn : 0 < n) (h : IsCh xs count wanted n ps) :
    SpV (spIsChoice K) [.ref a, .ref b, .int (count : Int), .int wanted, .int n] H (.bl true) := fun H1 e Q q E => ⟨a, b, xs, ps, count, wanted, n, rfl, e _ _ ha, ex_l e hb, hl, hn, h, fun H2 e2 => q H2 e2⟩
/-- one step of the way back -/
theorem ch_back {xs : List Int} {n x : Int} {k c : Nat} {r : Int} (hn : 0 < n) (hx : xs[k]? = some x) (h : Ch (xs.take (k + 1)) n c r) (hno : ¬ Ch (xs.take k) n c r) : ∃ (j : Nat) (s : Int), c = j + 1 ∧ Ch (xs.take k) n j s ∧ n ∣ s + x - r ∧ (r - x) % n = s := by
  have e : xs.take (k + 1) = xs.take k ++ [x] := by rw [List.take_add_one, hx]; rfl
  rw [e, ch_snoc] at h
  rcases h with h | ⟨j, s, h1, h2, h3⟩
  · exact absurd h hno
  · obtain ⟨g0, g1⟩ := ch_range hn h2
    have d : n ∣ s + x - r := Int.dvd_self_sub_of_emod_eq h3.symm
    refine ⟨j, s, h1, h2, d, ?_⟩
    rw [h3]
    have e2 : (s + x) % n - x = s - n * ((s + x) / n) := by
      rw [Int.emod_def]
      omega
    rw [e2, Int.sub_mul_emod_self_left]
    exact Int.emod_eq_of_lt g0 g1
/-- a choice of places is one of numbers -/
theorem pick_sublist (xs : List Int) : ∀ (ps : List Nat), ps.Pairwise (· < ·) → (∀ p ∈ ps, p < xs.length) → ∃ s : List Int, s.Sublist xs ∧ s.length = ps.length ∧ s.sum = pick xs ps := by
  induction xs with
  | nil =>
    intro ps _ h
    cases ps with
    | nil => exact ⟨[], List.Sublist.refl _, rfl, rfl⟩
    | cons p ps => exact absurd (h p List.mem_cons_self) (Nat.not_lt_zero _)
  | cons x xs ih =>
    have key : ∀ ps : List Nat, ps.Pairwise (· < ·) → (∀ p ∈ ps, 0 < p ∧ p < xs.length + 1) → ∃ s : List Int, s.Sublist xs ∧ s.length = ps.length ∧ s.sum = pick (x :: xs) ps := by
      intro ps hp h
      obtain ⟨s, g1, g2, g3⟩ := ih (ps.map fun p => p - 1) (by
        rw [List.pairwise_map]
        exact hp.imp_of_mem fun {a b} ha hb hab => by
          have := h a ha
          omega) (fun p hp => by
        obtain ⟨q, hq, rfl⟩ := List.mem_map.mp hp
        have := h q hq
        omega)
      refine ⟨s, g1, by rw [g2, List.length_map], ?_⟩
      rw [g3]
      unfold pick
      rw [List.map_map]
      congr 1
      refine List.map_congr_left fun p hp => ?_
      obtain ⟨q, rfl⟩ : ∃ q, p = q + 1 := ⟨p - 1, by have := (h p hp).1; omega⟩
      show xs.getD (q + 1 - 1) 0 = (x :: xs).getD (q + 1) 0
      rw [Nat.add_sub_cancel, List.getD_cons_succ]
    intro ps hp h
    cases ps with
    | nil => exact ⟨[], List.nil_sublist _, rfl, rfl⟩
    | cons p ps =>
      rw [List.pairwise_cons] at hp
      by_cases h0 : p = 0
      · subst h0
        obtain ⟨s, g1, g2, g3⟩ := key ps hp.2 fun q hq => ⟨hp.1 q hq, h q (List.mem_cons_of_mem _ hq)⟩
        refine ⟨x :: s, g1.cons_cons x, by rw [List.length_cons, List.length_cons, g2], ?_⟩
        rw [List.sum_cons, g3, pick_cons]
        rfl
      · obtain ⟨s, g1, g2, g3⟩ := key (p :: ps) (List.pairwise_cons.mpr hp) fun q hq => ⟨by
          rcases List.mem_cons.mp hq with rfl | hq
          · omega
          · have := hp.1 q hq
            omega, h q hq⟩
        exact ⟨s, g1.cons x, g2, g3⟩
theorem ch_of {xs : List Int} {count : Nat} {wanted n : Int} {ps : List Nat} (h : IsCh xs count wanted n ps) : Ch xs n count (wanted % n) := by
  obtain ⟨h1, h2, h3, h4⟩ := h
  obtain ⟨s, g1, g2, g3⟩ := pick_sublist xs ps h1 h2
  refine ⟨s, g1, by omega, ?_⟩
  rw [g3]
  exact Int.emod_eq_emod_iff_emod_sub_eq_zero.mpr (Int.emod_eq_zero_of_dvd h4)
theorem places_ints (ps : List Nat) : places ps = (ps.map fun p : Nat => (p : Int)).map V.int := by
  unfold places
  rw [List.map_map]
  rfl
section
variable {K : PySem.W.Frag} {σ : L2.St} {H H' : Hp} {ta tb te tx : TE} {t u : TT} {x y z v : V} {D : Ends} {tu tw tz : TS}
/-- a call whose first argument is a new list -/
theorem ev_callLA {sp : Sp} {E : XK} {xs vs : List V} {tr : TA} (ha : EvL ta σ H xs) (hb : EvA tr σ H vs) (hs : ∀ a H1, Ex H H1 → H1 a = some (.lst xs) → SpV sp (.ref a :: vs) H1 z) : Ev (tCall sp [] E (tCons ta tr)) σ H z := fun H1 e Q q =>
  ha H1 e _ fun a H2 _ e2 h2 => hb H2 (e.trans e2) _ fun H3 e3 => by
    show sp ((.ref a :: vs) ++ []) H3 Q E
    rw [List.append_nil]
    exact hs a H3 ((e.trans e2).trans e3) (e3 _ _ h2) H3 (Ex.refl H3) Q (fun H4 e4 => q H4 ((e2.trans e3).trans e4)) E
theorem spv_noChoice {C a : Addr} {xs : List Int} {m : Nat} {W n : Int} (ha : SqL K H a (xs.map V.int)) (hl : xs.length ≤ 100) (hn : goodN n) (hno : ¬ Ch xs n m (W % n)) : SpV (spChoose K C) [.ref a, .int (m : Int), .int W, .int n] H .non := fun H1 e Q q E =>
  ⟨a, xs, m, W, n, rfl, ex_l e ha, hl, fun _ => ⟨fun ps p H2 h => absurd (ch_of h) hno, fun _ H2 e2 => q H2 e2⟩, fun z => absurd hn z⟩
/-- a choice told, looked at -/
theorem ev_choiceOf {C : Addr} {E E' : XK} {tl : TE} {tr tr2 : TA} {b : Addr} {xs : List Int} {m : Nat} {W n : Int} (hv : EvL tl σ H (xs.map V.int)) (hr : EvA tr σ H [.int (m : Int), .int W, .int n]) (hr2 : EvA tr2 σ H [.ref b, .int (m : Int), .int W, .int n])
    (hS : SqL K H b (xs.map V.int)) (hC : Ch xs n m (W % n)) (hn : goodN n) (hl : xs.length ≤ 100) : Ev (tCall (spIsChoice K) [] E (tCons (tCall (spChoose K C) [] E' (tCons tl tr)) tr2)) σ H (.bl true) := fun H1 e Q q =>
  hv H1 e _ fun a H2 _ e2 h2 => hr H2 (e.trans e2) _ fun H3 e3 => ⟨a, xs, m, W, n, rfl, sq_of (e3 _ _ h2), hl, fun _ => ⟨fun ps p H4 hps _ e4 h4 => hr2 H4 (((e.trans e2).trans e3).trans e4) _ fun H5 e5 =>
    ⟨p, b, xs, ps, m, W, n, rfl, e5 _ _ h4, ex_l ((((e.trans e2).trans e3).trans e4).trans e5) hS, by omega, by have := hn.1; omega, hps, fun H6 e6 => q H6 ((((e2.trans e3).trans e4).trans e5).trans e6)⟩, fun z => absurd hC z⟩, fun z => absurd hn z⟩
/-- xs.insert(i, y) -/
theorem s_insert {l : Addr} {xs : List V} {i : Int} (hl : H l = some (.lst xs)) (ha : Ev ta σ H (.ref l)) (h1 : Ev tb σ H (.int i)) (h2 : Ev te σ H v) (hz : xs.length < 100000) (h0 : 0 ≤ i ∧ i < 100000) (k : ∀ H1, Ex H H1 → D.nx σ (upd H1 l (.lst (xs.take i.toNat ++ [v] ++ xs.drop i.toNat)))) :
    tDrop (tBM K "list" (fun x vs H Q => ∃ (l : Addr) (xs : List V) (i : Int) (y : V), x = .ref l ∧ vs = [.int i, y] ∧ H l = some (.lst xs) ∧ xs.length < sizeLine ∧ 0 ≤ i ∧ i < 2 ^ 63 ∧ Q .non (upd H l (.lst (xs.take i.toNat ++ [y] ++ xs.drop i.toNat)))) ta (tCons tb (tCons te tNil))) D σ H :=
  ha H (Ex.refl H) _ fun H1 e1 => ⟨Or.inl ⟨rfl, xs, sq_of (e1 l _ hl)⟩, h1 H1 e1 _ fun H2 e2 => h2 H2 (e1.trans e2) _ fun H3 e3 => ⟨l, xs, i, v, rfl, rfl, ((e1.trans e2).trans e3) l _ hl, sz_lt hz, h0.1, by omega, k H3 ((e1.trans e2).trans e3)⟩⟩
theorem q_insert {l : Addr} {xs : List V} {i : Int} (hl : H l = some (.lst xs)) (ha : Ev ta σ H (.ref l)) (h1 : Ev tb σ H (.int i)) (h2 : Ev te σ H v) (hz : xs.length < 100000) (h0 : 0 ≤ i ∧ i < 100000) (k : ∀ H1, Ex H H1 → tz D σ (upd H1 l (.lst (xs.take i.toNat ++ [v] ++ xs.drop i.toNat)))) :
    tSeq (tDrop (tBM K "list" (fun x vs H Q => ∃ (l : Addr) (xs : List V) (i : Int) (y : V), x = .ref l ∧ vs = [.int i, y] ∧ H l = some (.lst xs) ∧ xs.length < sizeLine ∧ 0 ≤ i ∧ i < 2 ^ 63 ∧ Q .non (upd H l (.lst (xs.take i.toNat ++ [y] ++ xs.drop i.toNat)))) ta (tCons tb (tCons te tNil)))) tz D σ H :=
  s_insert (D := { D with nx := tz D }) hl ha h1 h2 hz h0 k
theorem given_rep (m : Nat) (x : Int) : given m (fun _ => true) (fun _ => V.int x) = (List.replicate m x).map V.int := by
  unfold given
  rw [List.filter_eq_self.mpr fun _ _ => rfl, List.map_replicate]
  refine List.eq_replicate_iff.mpr ⟨by rw [List.length_map, List.length_range], fun y hy => ?_⟩
  obtain ⟨_, _, e⟩ := List.mem_map.mp hy
  exact e.symm
/-- xs.clear() -/
theorem q_clear {l : Addr} {xs : List V} (hl : H l = some (.lst xs)) (ha : Ev ta σ H (.ref l)) (k : ∀ H1, Ex H H1 → tz D σ (upd H1 l (.lst []))) : tSeq (tDrop (tBM0 K "list" rClear ta)) tz D σ H :=
  ha H (Ex.refl H) _ fun H1 e1 => ⟨Or.inl ⟨rfl, xs, sq_of (e1 l _ hl)⟩, l, xs, rfl, rfl, e1 l _ hl, k H1 e1⟩
end
/-- the barren list -/
def bar (n : Nat) : List Int := List.replicate (n - 1) 0 ++ List.replicate (n - 1) 1
theorem bar_len (n : Nat) : (bar n).length = 2 * n - 2 := by
  unfold bar
  rw [List.length_append, List.length_replicate, List.length_replicate]
  omega
theorem bar_no {n : Int} (hn : 1 ≤ n) : ¬ Ch (bar n.toNat) n n.toNat 0 := by
  rintro ⟨s, h1, h2, h3⟩
  obtain ⟨l1, l2, rfl, g1, g2⟩ := List.sublist_append_iff.mp h1
  obtain ⟨k1, k2, rfl⟩ := List.sublist_replicate_iff.mp g1
  obtain ⟨j1, j2, rfl⟩ := List.sublist_replicate_iff.mp g2
  rw [List.length_append, List.length_replicate, List.length_replicate] at h2
  rw [List.sum_append] at h3
  have s0 : ∀ (a : Nat) (x : Int), (List.replicate a x).sum = (a : Int) * x := fun a x => by
    induction a with
    | zero => simp
    | succ a ih =>
      rw [List.replicate_succ, List.sum_cons, ih, Int.natCast_add, Int.add_mul]
      simp
      omega
  rw [s0, s0, Int.mul_zero, Int.zero_add, Int.mul_one, Int.emod_eq_of_lt (by omega) (by omega)] at h3
  omega
def spBarren (C : Addr) : Sp := fun vs H Q E => ∃ n : Int, vs = [.int n] ∧ (goodN n → RetL ((bar n.toNat).map V.int) H Q) ∧ (¬ goodN n → ∀ H2, Ex H H2 → E (.ref C) none H2)
def spIsBarren : Sp := fun vs H Q _ => ∃ (a : Addr) (xs : List Int) (n : Int), vs = [.ref a, .int n] ∧ H a = some (.lst (xs.map V.int)) ∧ goodN n ∧ xs.length = 2 * n.toNat - 2 ∧ (∀ x ∈ xs, -1000000000000 ≤ x ∧ x ≤ 1000000000000) ∧ ¬ Ch xs n n.toNat 0 ∧ RetV (.bl true) H Q
theorem bar_le {n : Nat} {x : Int} (h : x ∈ bar n) : -1000000000000 ≤ x ∧ x ≤ 1000000000000 := by
  unfold bar at h
  rcases List.mem_append.mp h with h | h
  · rw [(List.mem_replicate.mp h).2]
    omega
  · rw [(List.mem_replicate.mp h).2]
    omega
/-! ### groups -/
def sel (xs : List Int) (l : List Nat) : List Int := l.map fun k => xs.getD k 0
theorem sel_len (xs : List Int) (l : List Nat) : (sel xs l).length = l.length := by
  unfold sel
  rw [List.length_map]
def spGroups (K : PySem.W.Frag) (C : Addr) : Sp := fun vs H Q E => ∃ (a : Addr) (xs : List Int) (n : Int), vs = [.ref a, .int n] ∧ SqL K H a (xs.map V.int) ∧ xs.length ≤ 100 ∧
  (goodN n → ∀ (gs : List (List Nat)) (p : Addr) (as : List Addr) (H2 : Hp), H p = none → Ex H H2 → H2 p = some (.lst (as.map V.ref)) → as.length = gs.length → (∀ (i : Nat) (q : Addr) (g : List Nat), as[i]? = some q → gs[i]? = some g → H2 q = some (.lst (places g))) →
    (∀ g ∈ gs, IsCh xs n.toNat 0 n g) → gs.flatten.Nodup → ¬ Ch (sel xs ((List.range xs.length).filter fun k => decide (k ∉ gs.flatten))) n n.toNat 0 → Q (.ref p) H2) ∧
  (¬ goodN n → ∀ H2, Ex H H2 → E (.ref C) none H2)
theorem rising_eq {a b : List Nat} (ha : a.Pairwise (· < ·)) (hb : b.Pairwise (· < ·)) (h : ∀ k, k ∈ a ↔ k ∈ b) : a = b := by
  have g := SrSet.sortedEq (a.map fun k : Nat => (k : Int)) (b.map fun k : Nat => (k : Int)) (by
    rw [List.pairwise_map]
    exact ha.imp fun h => by omega) (by
    rw [List.pairwise_map]
    exact hb.imp fun h => by omega) fun k => by
    constructor
    · intro hk
      obtain ⟨j, hj, rfl⟩ := List.mem_map.mp hk
      exact List.mem_map.mpr ⟨j, (h j).mp hj, rfl⟩
    · intro hk
      obtain ⟨j, hj, rfl⟩ := List.mem_map.mp hk
      exact List.mem_map.mpr ⟨j, (h j).mpr hj, rfl⟩
  have g2 := congrArg (List.map Int.toNat) g
  rw [List.map_map, List.map_map] at g2
  have e : (Int.toNat ∘ fun k : Nat => (k : Int)) = id := funext fun k => Int.toNat_natCast k
  rw [e, List.map_id, List.map_id] at g2
  exact g2
/-- what is left behind a group -/
def rest (l ps : List Nat) : List Nat := ((List.range l.length).filter fun k => decide (k ∉ ps)).map fun k => l.getD k 0
def group (l ps : List Nat) : List Nat := ps.map fun p => l.getD p 0
theorem getD_lt {l : List Nat} (hl : l.Pairwise (· < ·)) {i j : Nat} (hij : i < j) (hj : j < l.length) : l.getD i 0 < l.getD j 0 := by
  have := List.pairwise_iff_getElem.mp hl i j (by omega) hj hij
  rw [List.getD_eq_getElem?_getD, List.getD_eq_getElem?_getD, List.getElem?_eq_getElem (show i < l.length by omega), List.getElem?_eq_getElem hj]
  exact this
theorem getD_mem {l : List Nat} {i : Nat} (hi : i < l.length) : l.getD i 0 ∈ l := by
  rw [List.getD_eq_getElem?_getD, List.getElem?_eq_getElem hi]
  exact List.getElem_mem hi
theorem getD_of_mem {l : List Nat} {k : Nat} (h : k ∈ l) : ∃ i, i < l.length ∧ l.getD i 0 = k := by
  obtain ⟨i, hi, e⟩ := List.mem_iff_getElem.mp h
  refine ⟨i, hi, ?_⟩
  rw [List.getD_eq_getElem?_getD, List.getElem?_eq_getElem hi]
  exact e
theorem getD_inj {l : List Nat} (hl : l.Pairwise (· < ·)) {i j : Nat} (hi : i < l.length) (hj : j < l.length) (e : l.getD i 0 = l.getD j 0) : i = j := by
  rcases Nat.lt_trichotomy i j with h | h | h
  · have := getD_lt hl h hj
    omega
  · exact h
  · have := getD_lt hl h hi
    omega
theorem group_rises {l ps : List Nat} (hl : l.Pairwise (· < ·)) (hp : ps.Pairwise (· < ·)) (hb : ∀ p ∈ ps, p < l.length) : (group l ps).Pairwise (· < ·) := by
  unfold group
  rw [List.pairwise_map]
  exact hp.imp_of_mem fun ha hb' h => getD_lt hl h (hb _ hb')
theorem rest_rises {l ps : List Nat} (hl : l.Pairwise (· < ·)) : (rest l ps).Pairwise (· < ·) := by
  unfold rest
  rw [List.pairwise_map]
  exact (List.Pairwise.filter _ (List.pairwise_lt_range (n := l.length))).imp_of_mem fun ha hb' h => getD_lt hl h (List.mem_range.mp (List.mem_filter.mp hb').1)
theorem mem_rest {l ps : List Nat} (hl : l.Pairwise (· < ·)) (hb : ∀ p ∈ ps, p < l.length) {k : Nat} : k ∈ rest l ps ↔ k ∈ l ∧ k ∉ group l ps := by
  unfold rest group
  constructor
  · intro h
    obtain ⟨i, hi, rfl⟩ := List.mem_map.mp h
    obtain ⟨h1, h2⟩ := List.mem_filter.mp hi
    have hi' := List.mem_range.mp h1
    refine ⟨getD_mem hi', fun z => ?_⟩
    obtain ⟨p, hp, e⟩ := List.mem_map.mp z
    have := getD_inj hl (hb p hp) hi' e
    subst this
    exact of_decide_eq_true h2 hp
  · rintro ⟨h1, h2⟩
    obtain ⟨i, hi, rfl⟩ := getD_of_mem h1
    exact List.mem_map.mpr ⟨i, List.mem_filter.mpr ⟨List.mem_range.mpr hi, decide_eq_true fun z => h2 (List.mem_map.mpr ⟨i, z, rfl⟩)⟩, rfl⟩
theorem rest_len {l ps : List Nat} {p : Nat} (hp : p ∈ ps) (hb : p < l.length) : (rest l ps).length < l.length := by
  unfold rest
  rw [List.length_map]
  have h : (List.filter (fun k => decide (k ∉ ps)) (List.range l.length)).length < (List.range l.length).length := by
    rw [List.length_filter_lt_length_iff_exists]
    exact ⟨p, List.mem_range.mpr hb, by simp [hp]⟩
  rw [List.length_range] at h
  exact h
theorem pick_sel {xs : List Int} {l : List Nat} : ∀ {ps : List Nat}, (∀ p ∈ ps, p < l.length) → pick (sel xs l) ps = pick xs (group l ps) := by
  intro ps h
  unfold pick group sel
  rw [List.map_map]
  congr 1
  refine List.map_congr_left fun p hp => ?_
  have := h p hp
  show (l.map fun k => xs.getD k 0).getD p 0 = xs.getD (l.getD p 0) 0
  rw [List.getD_eq_getElem?_getD, List.getElem?_map, List.getD_eq_getElem?_getD (l := l), List.getElem?_eq_getElem this]
  rfl
theorem nodup_rises {l : List Nat} (h : l.Pairwise (· < ·)) : l.Nodup := by
  rw [List.nodup_iff_pairwise_ne]
  exact h.imp fun h => by omega
theorem given_sel (xs : List Int) (l : List Nat) : given l.length (fun _ => true) (fun i => V.int (xs.getD (l.getD i 0) 0)) = (sel xs l).map V.int := by
  unfold given sel
  rw [List.filter_eq_self.mpr fun _ _ => rfl, List.map_map]
  refine List.ext_getElem? fun i => ?_
  rw [List.getElem?_map, List.getElem?_map]
  by_cases h : i < l.length
  · rw [List.getElem?_range h, List.getElem?_eq_getElem h]
    show some (V.int (xs.getD (l.getD i 0) 0)) = some (V.int (xs.getD l[i] 0))
    rw [List.getD_eq_getElem?_getD (l := l), List.getElem?_eq_getElem h]
    rfl
  · rw [List.getElem?_eq_none (by rw [List.length_range]; omega), List.getElem?_eq_none (by omega)]
    rfl
theorem given_group (l ps : List Nat) : given ps.length (fun _ => true) (fun i => V.int ((l.getD (ps.getD i 0) 0 : Nat) : Int)) = places (group l ps) := by
  unfold given places group
  rw [List.filter_eq_self.mpr fun _ _ => rfl, List.map_map]
  refine List.ext_getElem? fun i => ?_
  rw [List.getElem?_map, List.getElem?_map]
  by_cases h : i < ps.length
  · rw [List.getElem?_range h, List.getElem?_eq_getElem h]
    show some (V.int ((l.getD (ps.getD i 0) 0 : Nat) : Int)) = some (V.int ((l.getD ps[i] 0 : Nat) : Int))
    rw [List.getD_eq_getElem?_getD (l := ps), List.getElem?_eq_getElem h]
    rfl
  · rw [List.getElem?_eq_none (by rw [List.length_range]; omega), List.getElem?_eq_none (by omega)]
    rfl
theorem place_at {l : List Nat} {i : Nat} {x : V} (h : (places l)[i]? = some x) : x = .int ((l.getD i 0 : Nat) : Int) ∧ i < l.length := by
  unfold places at h
  rw [List.getElem?_map] at h
  by_cases hi : i < l.length
  · rw [List.getElem?_eq_getElem hi] at h
    rw [List.getD_eq_getElem?_getD, List.getElem?_eq_getElem hi]
    exact ⟨(Option.some.inj h).symm, hi⟩
  · rw [List.getElem?_eq_none (by omega)] at h
    cases h
theorem place_ix {l : List Nat} {i : Nat} (h : i < l.length) : atI (places l) (i : Int) = some (.int ((l.getD i 0 : Nat) : Int)) := by
  refine atI_nat ?_
  unfold places
  rw [List.getElem?_map, List.getElem?_eq_getElem h, List.getD_eq_getElem?_getD, List.getElem?_eq_getElem h]
  rfl
theorem int_ix {xs : List Int} {i : Nat} (h : i < xs.length) : atI (xs.map V.int) (i : Int) = some (.int (xs.getD i 0)) := by
  refine atI_nat ?_
  rw [List.getElem?_map, List.getElem?_eq_getElem h, List.getD_eq_getElem?_getD, List.getElem?_eq_getElem h]
  rfl
theorem mem_ints {l : List Nat} {k : Nat} : decide ((k : Int) ∈ l.map fun p : Nat => (p : Int)) = decide (k ∈ l) := by
  rw [Bool.eq_iff_iff, decide_eq_true_iff, decide_eq_true_iff, List.mem_map]
  constructor
  · rintro ⟨j, hj, e⟩
    have : j = k := by omega
    subst this
    exact hj
  · exact fun h => ⟨k, h, rfl⟩
section
variable {K : PySem.W.Frag} {σ : L2.St} {H H' : Hp} {ta tb te tx : TE} {t u : TT} {x y z v : V} {D : Ends} {tu tw tz : TS}
/-- k not in l -/
theorem et_noPlace {p : Addr} {l : List Nat} {k : Nat} (ha : Ev ta σ H (.int (k : Int))) (hb : Ev tb σ H (.ref p)) (hp : H p = some (.lst (places l))) : EvT (tTest (tOp (rIn K true) ta tb)) σ H (decide (k ∉ l)) := by
  have hp' := hp
  rw [places_ints] at hp'
  have g := et_op ha hb (rv_niL (K := K) (x := .int (k : Int)) (sq_of hp') rfl (flat_ints _))
  rw [inV_int, mem_ints] at g
  refine et_is g ?_
  rw [Bool.eq_iff_iff]
  simp
theorem q_callLA {i : Nat} {sp : Sp} {E : XK} {xs vs : List V} {tr : TA} (ha : EvL ta σ H xs) (hb : EvA tr σ H vs) (k : ∀ b H1, Ex H H1 → H b = none → H1 b = some (.lst xs) → sp (.ref b :: vs) H1 (fun x H2 => tz D (σ.set i (some x)) H2) E) :
    tSeq (tAsg (tCall sp [] E (tCons ta tr)) (gName i)) tz D σ H := ha H (Ex.refl H) _ fun b H2 hb2 e2 h2 => hb H2 e2 _ fun H3 e3 => by
  show sp ((.ref b :: vs) ++ []) H3 (fun x H2 => tz D (σ.set i (some x)) H2) E
  rw [List.append_nil]
  exact k b H3 (e2.trans e3) hb2 (e3 _ _ h2)
end
end Sr
namespace Sr
open PySem PySem.Spec PyProof.Rows L2 Evl
/-! ### exceptions caught -/
/-- what the module says of the classes: C is raised, R is in the clause, T is beside -/
structure Caught (K : PySem.W.Frag) (mg : Str → Option Value) (C T R : Addr) : Prop where
  ve : mg "ValueError" = none
  ex : PySem.W.exmOne K (.ref C) (.ref R) = some true
  c : ExcC K C
  k1 : PySem.W.kitOne K (.ref C) (.ref C) = some true
  k2 : PySem.W.kitOne K (.ref C) (.type "ValueError") = some true
  k3 : PySem.W.kitOne K (.ref C) (.ref T) = some false
theorem kit_self {K : PySem.W.Frag} {C : Addr} : PySem.W.kitOne K (.ref C) (.ref C) = some true := by
  unfold PySem.W.kitOne
  exact if_pos (beq_self_eq_true _)
theorem kit_ve {K : PySem.W.Frag} {C : Addr} (h : PySem.W.subIn K (.ref C) (.type "ValueError") = some true) : PySem.W.kitOne K (.ref C) (.type "ValueError") = some true := by
  unfold PySem.W.kitOne
  rw [if_neg (fun z => by have := beq_iff_eq.mp z; cases this)]
  show (if PySem.W.kitMeta "ValueError" = true then PySem.W.subIn K (.ref C) (.type "ValueError") else none) = some true
  rw [if_pos (by decide +kernel), h]
theorem kit_no {K : PySem.W.Frag} {C T : Addr} (h : PySem.W.subIn K (.ref C) (.ref T) = some false) (h2 : PySem.W.subIn K (.ref C) (.ref C) = some true) (hd : PySem.W.hasDictIn K T = true) (ht : PySem.W.typeIn K (.ref T) = some (.type "type")) : PySem.W.kitOne K (.ref C) (.ref T) = some false := by
  unfold PySem.W.kitOne
  rw [if_neg (fun z => by
    have e := beq_iff_eq.mp z
    injection e with e
    subst e
    rw [h] at h2
    cases h2)]
  obtain ⟨cd, hc, _⟩ := PySem.W.any_some hd
  have e2 : ((PySem.W.clsIn K T).isSome && PySem.W.typeIn K (.ref T) == some (.type "type")) = true := by rw [hc, ht] <;> rfl
  show (if ((PySem.W.clsIn K T).isSome && PySem.W.typeIn K (.ref T) == some (.type "type")) = true then PySem.W.subIn K (.ref C) (.ref T) else none) = some false
  rw [if_pos e2]
  exact h
section
variable {X : Cx}
theorem k_isE (K : PySem.W.Frag) {a D : Addr} {oe : Obj} {pn : List (Addr × Obj)} (C : ExcC K D) (hz : Zc (.ref D) none oe) (hf : ∃ vs, oe.data = .fields vs) (hK : X.K = K := by rfl) : CallR (X.suite a ((a, oe) :: pn)) (.builtin "isinstance") (rIsE K D a) := by
  subst hK
  exact call_isE C hz hf
theorem pe_calS {CX : CXT} {x : Str} {k : Nat} {ps : List Str} {sp : Sp} {E : L2.St → XK} {e : Expr} {es : List Expr} {t : TA} {p pos : Pos} (C : CalX CX X.prog X.w X.K X.mg X.base x k ps sp) (hr : Room k X.A) (hx : ∀ σ, PassesAt CX X σ (E σ)) (ha : PA X (e :: es) t) (hg : Gl X x := by rfl)
    (hdb : (x == ("__debug__" : Str)) = false := by decide) (he : starEach (e :: es) X.env = (false, eval e X.env) :: starEach es X.env := by rfl) (hpl : (backTo pos (starEach es X.env)).any (·.1) = false := by rfl) :
    PE X (.Call (.Name x p) (e :: es) [] pos) (tCallS sp E t) := by
  obtain ⟨f, fd, F, hm, hk, hb⟩ := C
  exact pe_callS F hr hg hm hk hb hx ha hdb he hpl
/-- the suite, for the class that is raised -/
theorem suite_of {a : Addr} {oe : Obj} {cls : Value} {d : Option Addr} {pn : List (Addr × Obj)} {C : Addr} {ss : List Stmt} {t : TS} (hz : Zc cls d oe) (h : Zc (.ref C) none oe → PSs (X.suite a ((a, oe) :: pn)) ss t) :
    PSs (X.suite a ((a, oe) :: pn)) ss (fun D σ H => cls = .ref C ∧ d = none ∧ t D σ H) := ⟨fun pins s σ H D I hh => by
  obtain ⟨rfl, rfl, hh⟩ := hh
  exact (h hz).run pins s σ H D I hh⟩
end
/-- the marks of an exception of the class C in slot i: is it a C, a ValueError, a T -/
def tMarks (K : PySem.W.Frag) (C T a : Addr) (i j : Nat) : TS := tAsg (tLst (tCons (tCB (rIsE K C a) (tCons (tVar i) (tCons (tC (.ref C)) tNil))) (tCons (tCB (rIsE K C a) (tCons (tVar i) (tCons (tC (.ty "ValueError")) tNil))) (tCons (tCB (rIsE K C a) (tCons (tVar i) (tCons (tC (.ref T)) tNil))) tNil)))) (gName j)
def tSuite (K : PySem.W.Frag) (C T : Addr) (i j : Nat) : Addr → Value → Option Addr → TS := fun a cls d D σ H => cls = .ref C ∧ d = none ∧ tMarks K C T a i j D σ H
def marksV : List V := [.bl true, .bl true, .bl false]
section
variable {K : PySem.W.Frag} {mg : Str → Option Value} {σ : L2.St} {H H' : Hp} {ta tb te tx : TE} {t u : TT} {x y z v : V} {D : Ends} {tu tw tz : TS}
theorem s_marks {C T R a : Addr} {i j : Nat} (cg : Caught K mg C T R) (hi : σ[i]? = some (some (.ref a))) (k : ∀ p H1, H p = none → Ex H H1 → H1 p = some (.lst marksV) → D.nx (σ.set j (some (.ref p))) H1) : tSuite K C T i j a (.ref C) none D σ H := by
  refine ⟨rfl, rfl, ?_⟩
  have g : ∀ (c : V) (cv : Value) (b : Bool), (∀ u, RelV c u → u = cv) → PySem.W.kitOne K (.ref C) cv = some b → Ev (tCB (rIsE K C a) (tCons (tVar i) (tCons (tC c) tNil))) σ H (.bl b) := fun c cv b h1 h2 H1 e Q q => (ea_cons (ev_var hi) (ea_cons (ev_c (v := c)) ea_nil)) H1 e _ fun H2 e2 => ⟨c, cv, b, rfl, h1, h2, q H2 e2⟩
  exact s_asgL (el_lst (ea_cons (g _ _ true (fun u h => h) cg.k1) (ea_cons (g _ _ true (fun u h => h) cg.k2) (ea_cons (g _ _ false (fun u h => h) cg.k3) ea_nil))) (by show (3 : Nat) ≤ 100000; decide)) k
/-- a statement f(..) that may raise -/
theorem s_dropCall {sp : Sp} {E : XK} {tc : TA} {vs : List V} (h : EvA tc σ H vs) (k : ∀ H1, Ex H H1 → sp vs H1 (fun _ H2 => D.nx σ H2) E) : tDrop (tCall sp [] E tc) D σ H := h H (Ex.refl H) _ fun H1 e1 => by
  show sp (vs ++ []) H1 (fun _ H2 => D.nx σ H2) E
  rw [List.append_nil]
  exact k H1 e1
theorem s_dropCallS {sp : Sp} {E : L2.St → XK} {tc : TA} {vs : List V} (h : EvA tc σ H vs) (k : ∀ H1, Ex H H1 → sp vs H1 (fun _ H2 => D.nx σ H2) (E σ)) : tDrop (tCallS sp E tc) D σ H := h H (Ex.refl H) _ fun H1 e1 => k H1 e1
theorem q_dropCallS {sp : Sp} {E : L2.St → XK} {tc : TA} {vs : List V} (h : EvA tc σ H vs) (k : ∀ H1, Ex H H1 → sp vs H1 (fun _ H2 => tz D σ H2) (E σ)) : tSeq (tDrop (tCallS sp E tc)) tz D σ H := h H (Ex.refl H) _ fun H1 e1 => k H1 e1
/-- a promise that refuses bad rounds, whatever it tells of good ones -/
def SpAny (sp : Sp) (vs : List V) (H : Hp) (n : Int) (C : Addr) : Prop := ∀ H1, Ex H H1 → ∀ (Q : VK) (E : XK), (goodN n → ∀ v H2, Ex H1 H2 → Q v H2) → (¬ goodN n → ∀ H2, Ex H1 H2 → E (.ref C) none H2) → sp vs H1 Q E
/-- if way == j: f(..) -/
theorem q_ask {sp : Sp} {E : XK} {tc : TA} {vs : List V} {way j n : Int} {C : Addr} (hw : Ev ta σ H (.int way)) (hj : Ev tb σ H (.int j)) (h : ∀ H1, Ex H H1 → EvA tc σ H1 vs) (hs : ∀ H1, Ex H H1 → way = j → SpAny sp vs H1 n C) (kE : way = j → ¬ goodN n → ∀ H1, Ex H H1 → E (.ref C) none H1)
    (k : (way = j → goodN n) → ∀ H1, Ex H H1 → tz D σ H1) : tSeq (tIfS (tTest (tOp rEq ta tb)) (tDrop (tCall sp [] E tc)) tNext) tz D σ H :=
  q_when (et_eq hw hj) (fun hb H1 e1 => by
    have e := of_decide_eq_true hb
    exact s_dropCall (h H1 e1) fun H2 e2 => hs H1 e1 e H2 e2 _ _ (fun hn v H3 e3 => k (fun _ => hn) H3 ((e1.trans e2).trans e3)) (fun hn H3 e3 => kE e hn H3 ((e1.trans e2).trans e3)))
    (fun hb H1 e1 => k (fun z => absurd z (of_decide_eq_false hb)) H1 e1)
theorem s_ask {sp : Sp} {E : XK} {tc : TA} {vs : List V} {way j n : Int} {C : Addr} (hw : Ev ta σ H (.int way)) (hj : Ev tb σ H (.int j)) (h : ∀ H1, Ex H H1 → EvA tc σ H1 vs) (hs : ∀ H1, Ex H H1 → way = j → SpAny sp vs H1 n C) (kE : way = j → ¬ goodN n → ∀ H1, Ex H H1 → E (.ref C) none H1)
    (k : (way = j → goodN n) → ∀ H1, Ex H H1 → D.nx σ H1) : tIfS (tTest (tOp rEq ta tb)) (tDrop (tCall sp [] E tc)) tNext D σ H :=
  s_when (et_eq hw hj) (fun hb H1 e1 => by
    have e := of_decide_eq_true hb
    exact s_dropCall (h H1 e1) fun H2 e2 => hs H1 e1 e H2 e2 _ _ (fun hn v H3 e3 => k (fun _ => hn) H3 ((e1.trans e2).trans e3)) (fun hn H3 e3 => kE e hn H3 ((e1.trans e2).trans e3)))
    (fun hb H1 e1 => k (fun z => absurd z (of_decide_eq_false hb)) H1 e1)
/-- lists of three marks compared -/
theorem dp_marks {a : Addr} (h : SqL K H a marksV) : Dp K H (.ref a) (.list [.bool true, .bool true, .bool false]) := Dp.lst h (.cons (Dp.bl true) (.cons (Dp.bl true) (.cons (Dp.bl false) .nil)))
theorem shaped_marks : SeqAt.shaped (.list [.bool true, .bool true, .bool false]) = true := by decide +kernel
theorem rv_neM {a b : Addr} (ha : SqL K H a marksV) (hb : SqL K H b marksV) : RV (rNeD K) (.ref a) (.ref b) H (.bl false) := fun H1 e Q q =>
  ⟨_, _, dp_marks (ex_l e ha), dp_marks (ex_l e hb), shaped_marks, shaped_marks, by
    have g : PyData.eqv (.list [.bool true, .bool true, .bool false]) (.list [.bool true, .bool true, .bool false]) = true := by decide +kernel
    rw [g]
    exact q H1 (Ex.refl H1)⟩
theorem rv_eqM {a b : Addr} (ha : SqL K H a marksV) (hb : SqL K H b marksV) : RV (rEqD K) (.ref a) (.ref b) H (.bl true) := fun H1 e Q q =>
  ⟨_, _, dp_marks (ex_l e ha), dp_marks (ex_l e hb), shaped_marks, shaped_marks, by
    have g : PyData.eqv (.list [.bool true, .bool true, .bool false]) (.list [.bool true, .bool true, .bool false]) = true := by decide +kernel
    rw [g]
    exact q H1 (Ex.refl H1)⟩
end
end Sr
namespace Sr
open PySem PySem.Spec PyProof.Rows L2 Evl
/-! ### texts -/
def numS (i : Int) : Str := Str.ofString (toString i)
def numI (i : Int) : List Nat := if 0 ≤ i then TL.numL i.toNat else 45 :: TL.numL (-i).toNat
theorem tl_numS (i : Int) : TL.tl (numS i) = numI i := by
  unfold numS numI
  by_cases h : 0 ≤ i
  · rw [if_pos h]
    have e : i = ((i.toNat : Nat) : Int) := by omega
    rw [e, TL.tl_num, Int.toNat_natCast]
  · rw [if_neg h]
    obtain ⟨k, rfl⟩ : ∃ k : Nat, i = Int.negSucc k := ⟨(-i - 1).toNat, by omega⟩
    have e2 : (-(Int.negSucc k)).toNat = k + 1 := by omega
    rw [e2, TL.tl_ofString]
    show ("-" ++ Nat.repr (k + 1)).toList.map Char.toNat = _
    rw [String.toList_append, List.map_append, Nat.toList_repr]
    rfl
theorem numL_len13 {m : Nat} (h : m ≤ 1000000000000) : (TL.numL m).length ≤ 13 := TL.numL_len (by decide) (by omega)
theorem numL_head : ∀ m : Nat, (TL.numL m)[0]? = some 48 → (TL.numL m).length = 1 := by
  intro m
  induction m using Nat.strongRecOn with
  | ind m ih =>
    intro h
    by_cases h10 : m < 10
    · rw [TL.numL_lt h10]
      rfl
    · rw [TL.numL_step (by omega)] at h
      have hne := TL.numL_ne (m / 10)
      have hpos : 0 < (TL.numL (m / 10)).length := List.length_pos_iff.mpr hne
      rw [List.getElem?_append_left hpos] at h
      have h1 := ih (m / 10) (by omega) h
      have hv := TL.numL_val (m / 10)
      obtain ⟨a, ha⟩ : ∃ a, TL.numL (m / 10) = [a] := by
        match e : TL.numL (m / 10), h1 with
        | [a], _ => exact ⟨a, rfl⟩
      rw [ha] at h hv
      have ea : a = 48 := Option.some.inj h
      subst ea
      have : (0 : Nat) = m / 10 := hv
      omega
theorem numI_len {i : Int} (h : -1000000000000 ≤ i ∧ i ≤ 1000000000000) : (numI i).length ≤ 14 := by
  unfold numI
  split
  · have := numL_len13 (m := i.toNat) (by omega)
    omega
  · have := numL_len13 (m := (-i).toNat) (by omega)
    rw [List.length_cons]
    omega
theorem numI_free {i : Int} {s : Nat} (h : s = 58 ∨ s = 32) : s ∉ numI i := by
  unfold numI
  split
  · exact TL.numL_free (by omega)
  · intro z
    rcases List.mem_cons.mp z with z | z
    · omega
    · exact TL.numL_free (by omega) z
section
variable {K : PySem.W.Frag} {σ : L2.St} {H H' : Hp} {ta tb te tx : TE} {t u : TT} {x y z v : V} {D : Ends} {tu tw tz : TS}
theorem ev_lenS {z : Str} (ha : Ev ta σ H (.str z)) (hz : z.length ≤ 100000) : Ev (tCB (fun xs H Q => ∃ z, xs = [.str z] ∧ z.length ≤ sizeLine ∧ Q (.int z.length) H) (tCons ta tNil)) σ H (.int (z.length : Int)) := fun H1 e Q q =>
  ha H1 e _ fun H2 e2 => ⟨z, rfl, sz_of hz, q H2 e2⟩
theorem ev_strI {i : Int} (ha : Ev ta σ H (.int i)) (hi : i.natAbs.log2 < 1920) : Ev (tCB (fun xs H Q => ∃ i : Int, xs = [.int i] ∧ i.natAbs.log2 < 1920 ∧ Q (.str (toString i)) H) (tCons ta tNil)) σ H (.str (numS i)) := fun H1 e Q q =>
  ha H1 e _ fun H2 e2 => ⟨i, rfl, hi, q H2 e2⟩
theorem ev_intS {a : Str} {n : Int} (ha : Ev ta σ H (.str a)) (hn : PySem.intText? a = some n) (hl : a.length ≤ 640) : Ev (tCB (fun xs H Q => ∃ a n, xs = [.str a] ∧ PySem.intText? a = some n ∧ a.length ≤ 640 ∧ Q (.int n) H) (tCons ta tNil)) σ H (.int n) := fun H1 e Q q =>
  ha H1 e _ fun H2 e2 => ⟨a, n, rfl, hn, hl, q H2 e2⟩
theorem ev_catS {a b : Str} (ha : Ev ta σ H (.str a)) (hb : Ev tb σ H (.str b)) (hl : a.length + b.length ≤ 100000) : Ev (tOp (fun x y H Q => ∃ i j, x = .str i ∧ y = .str j ∧ i.length + j.length ≤ sizeLine ∧ Q (.str (i ++ j)) H) ta tb) σ H (.str (a ++ b)) := fun H1 e Q q =>
  ha H1 e _ fun H2 e2 => hb H2 (e.trans e2) _ fun H3 e3 => ⟨a, b, rfl, rfl, sz_of hl, q H3 (e2.trans e3)⟩
theorem ev_cutS {tl th : TO} {a : Str} {lo hi : Option Int} (h : Ev te σ H (.str a)) (h1 : EvO tl σ H lo) (h2 : EvO th σ H hi) (hl : a.length ≤ 100000) : Ev (tSl rSlS te tl th) σ H (.str (cutS a lo hi)) := fun H1 e Q q =>
  h H1 e _ fun H2 e2 => h1 H2 (e.trans e2) _ fun H3 e3 => h2 H3 ((e.trans e2).trans e3) _ fun H4 e4 => ⟨a, rfl, sz_of hl, q H4 ((e2.trans e3).trans e4)⟩
theorem ev_find {a b : Str} (ha : Ev ta σ H (.str a)) (hb : Ev tb σ H (.str b)) : Ev (tM1 (fun x xs H Q => ∃ a b, x = .str a ∧ xs = [.str b] ∧ Q (.int (Txt.find a b)) H) ta tb) σ H (.int (Txt.find a b)) := fun H1 e Q q =>
  ha H1 e _ fun H2 e2 => ⟨⟨a, rfl⟩, hb H2 (e.trans e2) _ fun H3 e3 => ⟨a, b, rfl, rfl, q H3 (e2.trans e3)⟩⟩
theorem el_split {a b : Str} (ha : Ev ta σ H (.str a)) (hb : Ev tb σ H (.str b)) (h0 : (b.length == 0) = false) (hl : a.length + 2 ≤ 100000) : EvL (tM1 (fun x xs H Q => ∃ a b, x = .str a ∧ xs = [.str b] ∧ (b.length == 0) = false ∧ a.length + 2 ≤ sizeLine ∧ rNewStrs (Txt.split a b) H Q) ta tb) σ H ((Txt.split a b).map V.str) := fun H1 e Q q =>
  ha H1 e _ fun H2 e2 => ⟨⟨a, rfl⟩, hb H2 (e.trans e2) _ fun H3 e3 => ⟨a, b, rfl, rfl, h0, sz_of hl, fun p hp => q p _ (fresh_back (e2.trans e3) hp) ((e2.trans e3).trans (Ex.new hp)) upd_same⟩⟩
theorem ev_join {a : Str} {ys : List Str} (ha : Ev ta σ H (.str a)) (hb : EvL tb σ H (ys.map V.str)) (hl : (ys.map (·.length)).sum + ys.length * a.length ≤ 16777216) : Ev (tM1 (fun x xs H Q => ∃ a p, ∃ ys : List Str, x = .str a ∧ xs = [.ref p] ∧ (SqL K H p (ys.map V.str) ∨ SqT K H p (ys.map V.str)) ∧
    (ys.map (·.length)).sum + ys.length * a.length ≤ 16777216 ∧ Q (.str (Txt.join a ys)) H) ta tb) σ H (.str (Txt.join a ys)) := fun H1 e Q q =>
  ha H1 e _ fun H2 e2 => ⟨⟨a, rfl⟩, hb H2 (e.trans e2) _ fun p H3 _ e3 h3 => ⟨a, p, ys, rfl, rfl, Or.inl (sq_of h3), hl, q H3 (e2.trans e3)⟩⟩
theorem decStr {a b : Str} : decide (V.str a = V.str b) = decide (a = b) := by
  rw [Bool.eq_iff_iff]
  simp
theorem et_eqS {a b : Str} (ha : Ev ta σ H (.str a)) (hb : Ev tb σ H (.str b)) : EvT (tTest (tOp rEq ta tb)) σ H (decide (a = b)) := by
  have h := et_op ha hb (rv_eq (H := H) (x := .str a) (y := .str b) rfl)
  rw [decStr] at h
  exact h
theorem et_neS {a b : Str} (ha : Ev ta σ H (.str a)) (hb : Ev tb σ H (.str b)) : EvT (tTest (tOp rNe ta tb)) σ H (!decide (a = b)) := by
  have h := et_op ha hb (rv_ne (H := H) (x := .str a) (y := .str b) rfl)
  rw [decStr] at h
  exact h
theorem et_noSign {c : Nat} {z : Str} (ha : Ev ta σ H (.str ⟨#[c]⟩)) (hb : Ev tb σ H (.str z)) : EvT (tTest (tOp (fun x y H Q => ∃ (c : Nat) (z : Str), x = .str ⟨#[c]⟩ ∧ y = .str z ∧ Q (.bl (!decide (c ∈ z.cps.toList))) H) ta tb)) σ H (!decide (c ∈ z.cps.toList)) := fun H1 e Q q =>
  ha H1 e _ fun H2 e2 => hb H2 (e.trans e2) _ fun H3 e3 => ⟨c, z, rfl, rfl, _, rfl, q H3 (e2.trans e3)⟩
/-- for c in z -/
theorem s_forS {z : Str} {j : Nat} (h : Ev te σ H (.str z)) (Pv : Nat → L2.St → Hp → Prop) (h0 : ∀ H1, Ex H H1 → Pv 0 σ H1)
    (hs : ∀ (i c : Nat) σ' H', (TL.tl z)[i]? = some c → Pv i σ' H' → tu { D with nx := Pv (i + 1), ct := Pv (i + 1), bk := D.nx } (σ'.set j (some (.str ⟨#[c]⟩))) H') (hd : ∀ σ' H', Pv (TL.tl z).length σ' H' → D.nx σ' H') : tFor (iStr te) (gName j) tu D σ H :=
  h H (Ex.refl H) _ fun H1 e1 => ⟨z, rfl, fun i m σ H => m = z.cps.size - i ∧ i ≤ z.cps.size ∧ Pv i σ H, ⟨z.cps.size, by simp, Nat.zero_le _, h0 H1 e1⟩, by
    rintro i m σ' H' ⟨rfl, hi, p⟩
    by_cases hlt : i < z.cps.size
    · refine .inr ⟨hlt, Pv (i + 1), fun σ' H' p' => ⟨z.cps.size - (i + 1), by omega, rfl, hlt, p'⟩, fun x H2 y => ?_⟩
      obtain ⟨e, c, hc, ex⟩ := y
      subst e ex
      refine hs i c σ' _ ?_ p
      rw [Array.getElem?_toList]
      exact hc
    · have e : i = z.cps.size := by omega
      subst e
      refine .inl ⟨Nat.le_refl _, hd σ' H' ?_⟩
      rw [Array.length_toList]
      exact p⟩
theorem q_forS {z : Str} {j : Nat} (h : Ev te σ H (.str z)) (Pv : Nat → L2.St → Hp → Prop) (h0 : ∀ H1, Ex H H1 → Pv 0 σ H1)
    (hs : ∀ (i c : Nat) σ' H', (TL.tl z)[i]? = some c → Pv i σ' H' → tu { D with nx := Pv (i + 1), ct := Pv (i + 1), bk := tz D } (σ'.set j (some (.str ⟨#[c]⟩))) H') (hd : ∀ σ' H', Pv (TL.tl z).length σ' H' → tz D σ' H') : tSeq (tFor (iStr te) (gName j) tu) tz D σ H :=
  s_forS (D := { D with nx := tz D }) h Pv h0 hs hd
end
end Sr
namespace Sr
open PySem PySem.Spec PyProof.Rows L2 Evl
/-! ### a round and numbers as a text -/
def bodyL (xs : List Int) : List Nat := xs.flatMap fun x => 32 :: numI x
def shownS (n : Int) (xs : List Int) : Str := (numS n ++ (":" : Str)) ++ Txt.join ("" : Str) (xs.map fun x => (" " : Str) ++ numS x)
theorem tl_colon : TL.tl (":" : Str) = [58] := by decide +kernel
theorem tl_blank : TL.tl (" " : Str) = [32] := by decide +kernel
theorem tl_empty : TL.tl ("" : Str) = [] := by decide +kernel
theorem joinL_nil : ∀ l : List (List Nat), TL.joinL [] l = l.flatten
  | [] => rfl
  | [p] => by simp [TL.joinL]
  | p :: q :: r => by
    show p ++ ([] ++ TL.joinL [] (q :: r)) = _
    rw [joinL_nil (q :: r)]
    rfl
theorem tl_shown (n : Int) (xs : List Int) : TL.tl (shownS n xs) = numI n ++ 58 :: bodyL xs := by
  unfold shownS bodyL
  rw [TL.tl_append, TL.tl_append, TL.join_eq, TL.tl_join, tl_numS, tl_colon, tl_empty, joinL_nil, List.append_assoc, List.map_map]
  have e : xs.map (TL.tl ∘ fun x => (" " : Str) ++ numS x) = xs.map fun x => 32 :: numI x := List.map_congr_left fun x _ => by
    show TL.tl ((" " : Str) ++ numS x) = _
    rw [TL.tl_append, tl_blank, tl_numS]
    rfl
  rw [e, List.flatMap_def]
  rfl
theorem body_len : ∀ xs : List Int, (∀ x ∈ xs, -1000000000000 ≤ x ∧ x ≤ 1000000000000) → (bodyL xs).length ≤ 15 * xs.length
  | [], _ => Nat.le_refl 0
  | x :: xs, h => by
    have ih := body_len xs fun y hy => h y (List.mem_cons_of_mem _ hy)
    have := numI_len (h x List.mem_cons_self)
    unfold bodyL at ih ⊢
    rw [List.flatMap_cons, List.length_append, List.length_cons, List.length_cons]
    omega
theorem shown_len {n : Int} {xs : List Int} (hn : goodN n) (hl : xs.length ≤ 60) (h : ∀ x ∈ xs, -1000000000000 ≤ x ∧ x ≤ 1000000000000) : (shownS n xs).length ≤ 1000 := by
  rw [TL.len_tl, tl_shown, List.length_append, List.length_cons]
  have := body_len xs h
  have := numI_len (i := n) (by have := hn.1; have := hn.2; omega)
  omega
theorem shown_snoc (n : Int) (xs : List Int) (x : Int) : shownS n (xs ++ [x]) = (shownS n xs ++ (" " : Str)) ++ numS x := by
  refine TL.ext_tl ?_
  rw [TL.tl_append, TL.tl_append, tl_shown, tl_shown, tl_blank, tl_numS]
  unfold bodyL
  rw [List.flatMap_append, List.append_assoc, List.append_assoc]
  simp
theorem find_first {x y : Str} {c : Nat} {a b : List Nat} (hy : TL.tl y = [c]) (h : TL.tl x = a ++ c :: b) (ha : c ∉ a) : Txt.find x y = (a.length : Int) := by
  have hne : TL.tl y ≠ [] := by rw [hy]; simp
  have hat : StrLaws.At x y x.length a.length := (TL.at_iff hne _).mpr (by
    rw [hy, h, List.drop_left]
    show ([c] == [c]) = true
    exact beq_self_eq_true _)
  have hno : ∀ k, k < a.length → ¬ StrLaws.At x y x.length k := fun k hk z => by
    have g := (TL.at_iff hne _).mp z
    rw [hy, h, List.drop_append_of_le_length (Nat.le_of_lt hk), List.drop_eq_getElem_cons hk] at g
    have g2 : ([a[k]] == [c]) = true := g
    have g3 := beq_iff_eq.mp g2
    injection g3 with g3
    exact ha (g3 ▸ List.getElem_mem hk)
  rcases find_whole x y with ⟨_, hn⟩ | ⟨i, he, hi, hk⟩
  · exact absurd hat (hn _)
  · rw [he]
    rcases Nat.lt_trichotomy i a.length with g | g | g
    · exact absurd hi (hno i g)
    · rw [g]
    · exact absurd hat (hk _ g)
theorem tl_cut (z : Str) (lo hi : Option Int) : TL.tl (cutS z lo hi) = ((TL.tl z).drop (HT.sIx z.length 0 lo)).take (HT.sIx z.length z.length hi - HT.sIx z.length 0 lo) := rfl
theorem cut_to {z : Str} {k : Nat} (h : k ≤ (TL.tl z).length) : TL.tl (cutS z none (some (k : Int))) = (TL.tl z).take k := by
  rw [tl_cut, HT.sIx_nat, ← TL.len_tl] at *
  show ((TL.tl z).drop 0).take (min k z.length - 0) = _
  rw [Nat.min_eq_left h]
  rfl
theorem cut_from {z : Str} {k : Nat} (h : k ≤ (TL.tl z).length) : TL.tl (cutS z (some (k : Int)) none) = (TL.tl z).drop k := by
  rw [tl_cut, HT.sIx_nat, ← TL.len_tl] at *
  show ((TL.tl z).drop (min k z.length)).take (z.length - min k z.length) = _
  rw [Nat.min_eq_left h, TL.len_tl, ← List.length_drop, List.take_length]
theorem cut_round (n : Int) (xs : List Int) : cutS (shownS n xs) none (some ((numI n).length : Int)) = numS n := by
  refine TL.ext_tl ?_
  rw [cut_to (by rw [tl_shown, List.length_append]; omega), tl_shown, List.take_left, tl_numS]
theorem body_join : ∀ xs : List Int, TL.joinL [32] ([] :: xs.map numI) = bodyL xs
  | [] => rfl
  | x :: xs => by
    have ih := body_join xs
    show [] ++ ([32] ++ TL.joinL [32] (numI x :: xs.map numI)) = _
    unfold bodyL at ih ⊢
    rw [List.flatMap_cons, ← ih]
    cases xs with
    | nil => simp [TL.joinL]
    | cons y ys => simp [TL.joinL]
theorem split_body {z : Str} {xs : List Int} (h : TL.tl z = bodyL xs) : Txt.split z (" " : Str) = ("" : Str) :: xs.map numS := by
  have e : z = Txt.join (" " : Str) (("" : Str) :: xs.map numS) := by
    refine TL.ext_tl ?_
    rw [TL.join_eq, TL.tl_join, h, tl_blank, ← body_join, List.map_cons, tl_empty, List.map_map]
    congr 2
    refine List.map_congr_left fun x _ => ?_
    exact (tl_numS x).symm
  rw [e]
  refine TL.split_join (s := 32) (S := []) tl_blank (by decide +kernel) (by simp) fun p hp => ?_
  rcases List.mem_cons.mp hp with rfl | hp
  · rw [tl_empty]
    simp
  · obtain ⟨x, _, rfl⟩ := List.mem_map.mp hp
    rw [tl_numS]
    exact numI_free (Or.inr rfl)
/-! ### promises -/
def inB (x : Int) : Prop := -1000000000000 ≤ x ∧ x ≤ 1000000000000
section
variable (K : PySem.W.Frag)
def spShown : Sp := fun vs H Q _ => ∃ (a : Addr) (xs : List Int) (n : Int), vs = [.ref a, .int n] ∧ SqL K H a (xs.map V.int) ∧ xs.length ≤ 60 ∧ goodN n ∧ (∀ x ∈ xs, inB x) ∧ RetV (.str (shownS n xs)) H Q
def spFigs : Sp := fun vs H Q _ => ∃ m : Nat, vs = [.str (numS (m : Int))] ∧ m ≤ 1000000000000 ∧ RetV (.int (m : Int)) H Q
def spNumOf : Sp := fun vs H Q _ => ∃ x : Int, vs = [.str (numS x)] ∧ inB x ∧ RetV (.int x) H Q
def spRead : Sp := fun vs H Q _ => ∃ (xs : List Int) (n : Int), vs = [.str (shownS n xs)] ∧ xs.length ≤ 60 ∧ goodN n ∧ (∀ x ∈ xs, inB x) ∧
  ∀ p q H2, H p = none → Ex H H2 → H2 p = some (.tup [.ref q, .int n]) → H2 q = some (.lst (xs.map V.int)) → Q (.ref p) H2
def spTold : Sp := fun vs H Q _ => ∃ (p q b : Addr) (xs : List Int) (n : Int), vs = [.ref p, .ref b, .int n] ∧ H p = some (.tup [.ref q, .int n]) ∧ H q = some (.lst (xs.map V.int)) ∧ SqL K H b (xs.map V.int) ∧ RetV (.bl true) H Q
end
theorem log_le {i : Int} (h : inB i) : i.natAbs.log2 < 1920 := by
  have h2 : i.natAbs < 2 ^ 1920 := Nat.lt_of_le_of_lt (show i.natAbs ≤ 2 ^ 40 by have := h.1; have := h.2; omega) (by decide +kernel)
  by_cases h0 : i.natAbs = 0
  · rw [h0]
    decide
  · exact (Nat.log2_lt h0).mpr h2
theorem s_retTupL {σ : L2.St} {H : Hp} {ta tb : TE} {D : Ends} {xs : List V} {y : V} (h : EvL ta σ H xs) (hb : Ev tb σ H y) (k : ∀ p q H1, H p = none → Ex H H1 → H1 p = some (.tup [.ref q, y]) → H1 q = some (.lst xs) → D.rt (.ref p) H1) : tRet (tTup (tCons ta (tCons tb tNil))) D σ H :=
  h H (Ex.refl H) _ fun q H1 hq e1 h1 => hb H1 e1 _ fun H2 e2 => ⟨by show 2 ≤ sizeLine; decide, fun p hp => k p q _ (fresh_back (e1.trans e2) hp) ((e1.trans e2).trans (Ex.new hp)) upd_same ((Ex.new hp) _ _ (e2 _ _ h1))⟩
theorem ev_toldOf {K : PySem.W.Frag} {σ : L2.St} {H : Hp} {E E' : XK} {tz : TA} {tr : TA} {b : Addr} {xs : List Int} {n : Int} (h : EvA tz σ H [.str (shownS n xs)]) (hr : EvA tr σ H [.ref b, .int n]) (hS : SqL K H b (xs.map V.int)) (hl : xs.length ≤ 60) (hn : goodN n) (hb : ∀ x ∈ xs, inB x) :
    Ev (tCall (spTold K) [] E (tCons (tCall spRead [] E' tz) tr)) σ H (.bl true) := fun H1 e Q q =>
  h H1 e _ fun H2 e2 => ⟨xs, n, rfl, hl, hn, hb, fun p r H3 hp e3 h3 h3' => hr H3 ((e.trans e2).trans e3) _ fun H4 e4 => ⟨p, r, b, xs, n, rfl, e4 _ _ h3, e4 _ _ h3', ex_l (((e.trans e2).trans e3).trans e4) hS, fun H5 e5 => q H5 (((e2.trans e3).trans e4).trans e5)⟩⟩
end Sr
namespace Sr
open PySem PySem.Spec PyProof.Rows L2
/-! ### an exception out of a list comprehension's block -/
section
variable {X : Cx} {pins : List (Addr × Obj)} {σ : L2.St} {H : Hp} {s : Shared}
/-- what a call has let out is in flight -/
theorem flies {E : XK} {u : Value} {s' : Shared} (I : Inv X pins σ H s) (c : L2.CX X.prog X.w X.stack H s E u s') :
    ∃ (a : Addr) (B : Heap) (sI : Shared) (pn : List (Addr × Obj)) (σ1 : L2.St) (H1 : Hp) (cls : Value) (d : Option Addr), u = .ref a ∧ Inv X pn σ1 H1 sI ∧ (∀ b o, sI.heap.get? b = some o → b ∉ frs X.stack → B.get? b = some o) ∧
      sI.heap.UpToSlots s'.heap ∧ HandSPX.FlyingZ B X.stack a (Zc cls d) s'.heap ∧ H1 a = none ∧ s'.os = sI.os ∧ AllBare s'.gens ∧ E cls d H1 := by
  obtain ⟨a, B, sI, pn, σ1, H1, cls, d, rfl, I1, nb, up, sky, na, os, ag, w⟩ := XE.of_call (W := fun cls d _ H => E cls d H) I (fun _ _ _ h => h) c
  obtain ⟨a', B', H', cls', d', e, fl, _⟩ := c
  cases e
  obtain ⟨_, _, _, oe, vs, T, oT, ts, he, hz, hd, h1, hnT, hTe, hT, hdT, h3⟩ := fl
  refine ⟨a, B, sI, pn, σ1, H1, cls, d, rfl, I1, nb, up, ?_, na, os, ag, w⟩
  rcases sky with ⟨_, _, _, oe2, vs2, he2, _, hd2, h12⟩ | fl2 | ⟨_, _, _, oe2, vs2, T2, oT2, ts2, he2, _, hd2, h12, _, _, hT2, hdT2, h32⟩
  · rw [he] at he2
    cases he2
    rw [hd] at hd2
    cases hd2
    rw [h1] at h12
    cases h12
  · exact fl2
  · rw [he] at he2
    cases he2
    rw [hd] at hd2
    cases hd2
    rw [h1] at h12
    cases h12
    rw [hT] at hT2
    cases hT2
    rw [hdT] at hdT2
    cases hdT2
    rw [h3] at h32
    simp [rawInt] at h32
theorem ff_none {h B : Heap} : ∀ {l : List Env}, h.FunFrames B l → ∀ L ∈ frs l, B.get? L = none := by
  intro l
  induction l with
  | nil => exact fun _ L hL => nomatch hL
  | cons e l ih =>
    rintro ⟨hk, ⟨L', o, hf, hb, ho, hd⟩, hr⟩ L hL
    obtain ⟨e', hm, he⟩ := List.mem_filterMap.mp hL
    rcases List.mem_cons.mp hm with rfl | hm
    · have he : e'.frame = some L := he
      rw [hf] at he
      cases he
      exact hb
    · exact ih hr L (List.mem_filterMap.mpr ⟨e', hm, he⟩)
/-- the block's names are let go, the exception goes on in the def's own frame -/
theorem out_of_block {W : WX} {E : XK} {s3 s' sb : Shared} {H3 Hb : Hp} {scope : Scope} {ce : Env} {fp : List Addr} {pb : List (Addr × Obj)} {σb : L2.St} {u : Value} (I3 : Inv X pins σ H3 s3) (f3 : ∀ b ∈ fp, FpOk X pins H3 b)
    (hs : X.stack = X.env :: X.outer) (hf : X.env.frame = some X.env.locals) (tk : Takes X W) (hW : ∀ cls d H', E cls d H' → W cls d σ H') (cL : ce.locals = s3.heap.objs.size) (cF : ce.frame = X.env.frame)
    (Ib : Inv (X.blk s3 H3 scope ce fp) pb σb Hb sb) (c : L2.CX X.prog X.w X.stack Hb sb E u s') : notedBy (model X.prog X.w) X.A ce (CompFails (model X.prog X.w) X.A X.xe ce) u s' := by
  obtain ⟨a, B, sI, pn, σ1, H1, cls, d, rfl, I1, nb, up, fl, na, os, ag, w⟩ := flies (X := X.blk s3 H3 scope ce fp) Ib c
  have hfr : X.A.frames = some (X.env :: X.outer) := by rw [I3.ok.frames, hs]
  have fl : HandSPX.FlyingZ B X.stack a (Zc cls d) s'.heap := fl
  rw [hs] at fl
  show wpAny _ _ (noteFrame (.ref a) ce) _ _ s'
  rw [noteFrame_env _ cF]
  refine HandSPX.looks_onZ Zc.steady hfr hf fl fun h1 hh up1 => ?_
  obtain ⟨m, hn, _⟩ := I1.loc
  have hn : sI.heap.Ns ce.locals m := hn
  have hn1 : h1.Ns ce.locals m := hn.upToSlots (up.trans up1)
  refine ⟨m, hn1, fun h2 m2 hn2 sb2 => ?_⟩
  obtain ⟨oL, es, ep, hoL, hdL, _⟩ := id hn1
  obtain ⟨k1, k2, k3, oe, vs, T, oT, ts, he, hz, hd, hv, hnT, hTe, hT, hdT, ht⟩ := hh
  have aC : a ≠ ce.locals := fun z => by
    rw [z, hoL] at he
    cases he
    rw [hdL] at hd
    cases hd
  have TC : T ≠ ce.locals := fun z => by
    rw [z, hoL] at hT
    cases hT
    rw [hdL] at hdT
    cases hdT
  obtain ⟨B', b1, b2⟩ := restrict B fun b => decide (b ≠ ce.locals)
  have bB : ∀ b o, B'.get? b = some o → b ≠ ce.locals ∧ B.get? b = some o := fun b o e => by
    by_cases z : b = ce.locals
    · rw [b2 b (decide_eq_false fun y => y z)] at e
      cases e
    · exact ⟨z, by rw [← b1 b (decide_eq_true z)]; exact e⟩
  have bN : ∀ b, B.get? b = none → B'.get? b = none := fun b e => by
    cases q : B'.get? b with
    | none => rfl
    | some o =>
      rw [(bB b o q).2] at e
      cases e
  have he2 : h2.get? a = some oe := (sb2.2 a aC).trans he
  have held : HandSPX.HeldZ B' (X.env :: X.outer) a (Zc cls d) X.env.locals h2 :=
    ⟨fun b o e => (sb2.2 b (bB b o e).1).trans (k1 b o (bB b o e).2), bN a k2, Heap.FunFrames.sameBut sb2 hn2 (funFrames_none k3 fun L hL => bN L (ff_none k3 L hL)),
      oe, vs, T, oT, ts, he2, hz, hd, hv, bN T hnT, hTe, (sb2.2 T TC).trans hT, hdT, ht⟩
  unfold PySem.passOn
  refine wpAny_bind (wpAny_field he2 hd hv ?_)
  rw [if_neg (show ¬ ((Value.ref T == Value.none) = true) from by simp), cF, hf]
  refine wpAny_bind (HandSPX.setFlight_onZ held fun h4 hh4 up4 => wpAny_throw ?_)
  obtain ⟨G, g1, g2⟩ := restrict sI.heap fun b => decide (b ≠ ce.locals)
  have gG : ∀ b o, G.get? b = some o → b ≠ ce.locals ∧ sI.heap.get? b = some o := fun b o e => by
    by_cases z : b = ce.locals
    · rw [g2 b (decide_eq_false fun y => y z)] at e
      cases e
    · exact ⟨z, by rw [← g1 b (decide_eq_true z)]; exact e⟩
  have nC : H1 s3.heap.objs.size = none := by
    have z : H1 ce.locals = none := I1.free
    rw [cL] at z
    exact z
  have I5 : Inv X pins σ H1 sI := I3.call' (ch := fp) I1.os I1.base I1.hok I1.bare fun b hb => by
    obtain ⟨f0, f1, f2, f4, f5, f6⟩ := f3 b hb
    exact ⟨f4, f1, f5, f6⟩
  obtain ⟨q0, q1, q2, q3, q4, q5⟩ := I3.fpOk (Nat.le_refl _) nC
  have I6 : Inv X pins σ H1 { sI with heap := G, toks := sI.toks } := I5.turned (it := s3.heap.objs.size) (fun b o hb e => by
    rw [g1 b (decide_eq_true (by rw [cL]; exact hb))]
    exact e) q0 q1 q3 q4 q5
  refine tk _ _ ⟨a, B', { sI with heap := G, toks := sI.toks }, pins, σ, H1, cls, d, rfl, I6, fun b o e hb => ?_, fun b o e hnf => ?_, ?_, na, os, ag, hW _ _ _ w⟩
  · obtain ⟨z1, z2⟩ := gG b o e
    rw [b1 b (decide_eq_true z1)]
    exact nb b o z2 hb
  · obtain ⟨z1, z2⟩ := gG b o e
    obtain ⟨sl, e1⟩ := (up.trans up1) b o z2 hnf
    obtain ⟨sl2, e2⟩ := up4 b { o with slots := sl } ((sb2.2 b z1).trans e1) hnf
    exact ⟨sl2, e2⟩
  · rw [hs]
    exact .inr (.inr hh4)
/-- [elt for tg in iter if ..], an element's call may let an exception out -/
theorem pe_lcX {W : WX} {E : XK} {elt tg iter : Expr} {ifs : List Expr} {scope : Scope} {own : List (Str × Nat)} {pos : Pos} {wi : TI} {g : TG} {tt : TT} {te : TE} (hs : X.stack = X.env :: X.outer) (hf : X.env.frame = some X.env.locals) (tk : Takes X W) (hW : ∀ cls d σ H, E cls d H → W cls d σ H)
    (hc : X.calm = true) (hN : X.N.Nodup) (hi : PI X tg iter wi) (ok : BlkOk X.N X.env.scope scope own) (hg : ∀ (s : Shared) (H : Hp) (C : Addr) (cl : List (Str × Addr)) (fp : List Addr), PG (X.blk s H scope (compEnvC scope cl C X.env) fp) tg g)
    (ht : ∀ (s : Shared) (H : Hp) (C : Addr) (cl : List (Str × Addr)) (fp : List Addr), PTs (X.blk s H scope (compEnvC scope cl C X.env) fp) ifs tt)
    (he : ∀ (s : Shared) (H : Hp) (C : Addr) (cl : List (Str × Addr)) (fp : List Addr) (xe : Value → Shared → Prop), Passes (L2.CX X.prog X.w) ((X.blk s H scope (compEnvC scope cl C X.env) fp).wish xe) E → PE ((X.blk s H scope (compEnvC scope cl C X.env) fp).wish xe) elt te)
    (hsi : ∀ x, foldedSetIterable iter X.env x = pure x := by intro _; rfl) : PE X (.ListComp elt [⟨tg, iter, ifs, 0⟩] scope pos) (tLc wi g tt te (own.map (·.2))) := by
  refine ⟨fun pins s σ H Q I0 hq0 => ?_⟩
  rw [eval_ListComp]
  have fr : ∀ y ∈ scope.names, y.2 = .free → ∃ c, X.env.cells.lookup y.1 = some c := fun y hy e => (ok.free y hy e).elim (fun k => I0.ok.has _ (.inl k)) fun k => I0.ok.has _ (.inr k)
  refine comprehension_at (use := none) rfl hsi (closure_ok fr) ok.kind (fun y hy e => by rw [ok.uniq y hy, e]) (thn (hi.run pins s σ H _ I0 hq0) fun v1 s1 hv1 => thn hv1 fun v2 s2 hv2 => ?_)
  obtain ⟨it, fp, tn, J, H2, rfl, I2, T, t2, f2, hq⟩ := hv2
  refine wpAny_newObj_type (newEnv_comp ?_) (show 0 ≤ sizeLine by decide)
  generalize hDl : s2.heap.objs.size = Dl
  have nDl : H2 Dl = none := I2.hok.fresh (Nat.le_of_eq hDl)
  obtain ⟨Wv, ⟨m0, w0⟩, trn⟩ := hq Dl nDl
  generalize es3 : ({ s2 with heap := s2.heap.push { cls := .type "list", data := .seq ([] : List Value).toArray } } : Shared) = s3
  have hp3 : s3.heap = s2.heap.push { cls := .type "list", data := .seq ([] : List Value).toArray } := by rw [← es3]
  have I3 : Inv X pins σ (upd H2 Dl (.lst [])) s3 := by
    rw [← es3]
    exact I2.laid (t' := s2.toks) (fun b o e => Heap.get?_push_of_some _ e) (Nat.le_of_eq hDl) ⟨Nat.zero_le _, [], 0, .nil, by rw [← hDl]; exact Heap.get?_push_size _ rfl⟩
  have lt2 : ∀ b ∈ fp, b < s2.heap.objs.size := fun b hb => (T.obj _ _ t2 b hb).elim fun _ z => Heap.lt_size z.1
  have f3 : ∀ b ∈ fp, FpOk X pins (upd H2 Dl (.lst [])) b ∧ b < s3.heap.objs.size := fun b hb =>
    ⟨⟨(upd_ne (by rw [← hDl]; exact Nat.ne_of_lt (lt2 b hb))).trans (f2 b hb).1, (f2 b hb).2⟩, by rw [hp3, Heap.size_push]; exact Nat.lt_succ_of_lt (lt2 b hb)⟩
  have t3 : tn 0 s3.heap := T.keep _ _ _ t2 fun b _ o e => by
    rw [hp3]
    exact Heap.get?_push_of_some _ e
  have I4 := block_start I3 ok hN f3
  generalize ecl : cellsFrom (s3.heap.objs.size + 1) scope.names (cloFrom X.env.cells scope.names []) = cl at I4
  have pg := hg s3 (upd H2 Dl (.lst [])) s3.heap.objs.size cl fp
  have pt := ht s3 (upd H2 Dl (.lst [])) s3.heap.objs.size cl fp
  have pe := he s3 (upd H2 Dl (.lst [])) s3.heap.objs.size cl fp
  show codeAny _ _ (.compStart _ 0 (.ref it) (.ref Dl) (compEnvC scope cl s3.heap.objs.size X.env)) (compEnds _ X.A X.xe none _ (.ref Dl) (compEnvC scope cl s3.heap.objs.size X.env)) _
  generalize ece : compEnvC scope cl s3.heap.objs.size X.env = ce at I4 pg pt pe ⊢
  have cL : ce.locals = s3.heap.objs.size := by rw [← ece]; rfl
  have cF : ce.frame = X.env.frame := by rw [← ece]; rfl
  generalize eH3 : upd H2 Dl (.lst []) = H3 at I3 I4 pg pt pe w0 f3
  generalize es4 : ({ s3 with heap := pushCells (s3.heap.push { cls := .type "dict", data := .dict #[] }) scope.names } : Shared) = s4 at I4 ⊢
  have t4 : tn 0 s4.heap := T.keep _ _ _ t3 fun b _ o e => by
    rw [← es4]
    exact pushCells_keeps _ _ _ _ (Heap.get?_push_of_some _ e)
  have pass : Passes (L2.CX X.prog X.w) ((X.blk s3 H3 scope ce fp).wish (notedBy (model X.prog X.w) X.A ce (CompFails (model X.prog X.w) X.A X.xe ce))) E := fun pb σb Hb sb u s' Ib cx =>
    out_of_block I3 (fun b hb => (f3 b hb).1) hs hf tk (fun cls d H' w => hW cls d σ H' w) cL cF Ib.unwish cx
  have pe := pe _ pass
  have own' : ∀ {σ' : L2.St} {H' : Hp} {s' : Shared}, Inv (X.blk s3 H3 scope ce fp) [] σ' H' s' → (∀ b ∈ fp, H' b = none) → ∀ b ∈ fp, FpOk (X.blk s3 H3 scope ce fp) [] H' b := fun I' n b hb =>
    ⟨n b hb, (I'.ok.exf b hb).1, I'.ok.exfs b hb, .inl hb, fun x c e => (I'.ok.exf b hb).2 x c e, fun p hp => by
      have hp : p ∈ ([] : List (Addr × Obj)) ++ [] := hp
      simp at hp⟩
  refine codeAny_compStart_list ?lp (T.self X.A 0 _ _ _ t4 ?lp)
  refine compLoop_any (fun n s' => ∃ i H', Inv (X.blk s3 H3 scope ce fp) [] (wipe σ (own.map (·.2))) H' s' ∧ tn i s'.heap ∧ (∀ b ∈ fp, H' b = none) ∧ Wv i n H') ?_ m0 ⟨0, H3, I4, t4, fun b hb => (f3 b hb).1.1, w0⟩
  rintro n s5 ⟨i, H5, I5, t5, n5, w5⟩
  rcases trn i n H5 w5 with ⟨stop, qe⟩ | ⟨go, Nx, hNx, step⟩
  · refine thnF (T.done (X.blk s3 H3 scope ce fp) rfl rfl rfl hc i [] s5 _ H5 (fun _ _ => False) I5 (own' I5 n5) t5 stop) fun r s6 ⟨er, I6⟩ => ?_
    subst er
    have nC : H5 s3.heap.objs.size = none := cL ▸ I6.free
    have I7 : Inv X pins σ H5 s6 := I3.call' (ch := fp) I6.os I6.base I6.hok I6.bare fun b hb => by
      obtain ⟨_, z1, _, z3, z4, z5⟩ := (f3 b hb).1
      exact ⟨z3, z1, z4, z5⟩
    obtain ⟨m, hm, _⟩ := I6.loc
    refine ⟨m, hm, fun h'' sb => ?_⟩
    obtain ⟨z0, z1, _, z3, z4, z5⟩ := I3.fpOk (Nat.le_refl _) nC
    exact ⟨.ref Dl, H5, I7.turned (t' := s6.toks) (fun b o hb e => (sb.2 b (by rw [cL]; exact hb)).trans e) z0 z1 z3 z4 z5, rfl, qe⟩
  · refine thnF (T.item (X.blk s3 H3 scope ce fp) rfl rfl rfl hc i [] s5 _ H5 (fun _ _ => False) I5 (own' I5 n5) t5 go) fun r s6 ⟨u, er, h6⟩ => ?_
    subst er
    refine thnF h6 fun _ s7 ⟨x, H7, I7, r7, y7, t7, n7⟩ => ?_
    refine thnF (pg.run _ s7 _ H7 x u _ (I7.pinned (own' I7 n7) (T.obj _ _ t7)) r7 (step x H7 y7)) fun _ s8 ⟨σ8, H8, I8, w8, q8⟩ => ?_
    refine thnF (pt.run _ s8 σ8 H8 _ I8 q8) fun b s9 ⟨H9, I9, q9⟩ => ?_
    have close : ∀ {s' : Shared} {H' : Hp}, Inv (X.blk s3 H3 scope ce fp) ([] ++ pinsAt fp s7.heap) σ8 H' s' → Nx H' → ∃ m, m < n ∧ ∃ i H', Inv (X.blk s3 H3 scope ce fp) [] (wipe σ (own.map (·.2))) H' s' ∧ tn i s'.heap ∧ (∀ b ∈ fp, H' b = none) ∧ Wv i m H' := fun {s' H'} I' nx => by
      obtain ⟨m', lm, w'⟩ := hNx H' nx
      have at' : ∀ b ∈ fp, ∀ o, s7.heap.get? b = some o → s'.heap.get? b = some o ∧ H' b = none := fun b hb o e => by
        have z := I'.pin (b, o) (List.mem_append_right _ (List.mem_append_right _ (mem_pinsAt hb e)))
        exact ⟨z.1, z.2.1⟩
      exact ⟨m', lm, i + 1, H', (I'.unpinned (pins := [])).weak (by rw [← w8, wipe_length]) (fun j v e => (wipe_some (by rw [← w8] at e; exact e)).1), T.keep _ _ _ t7 fun b hb o e => (at' b hb o e).1, fun b hb => (T.obj _ _ t7 b hb).elim fun o z => (at' b hb o z.1).2, w'⟩
    cases b with
    | false =>
      rw [if_neg (by decide)] at q9 ⊢
      exact close I9 q9
    | true =>
      rw [if_pos rfl] at q9 ⊢
      refine thn (pe.run _ s9 σ8 H9 _ (I9.wish _) q9) fun z s10 ⟨yv, H10, I10, r10, acc, a10, l10, nx⟩ => ?_
      exact app_ok (X := X.blk s3 H3 scope ce fp) I10.unwish a10 l10 r10 fun s11 I11 => close I11 nx
end
end Sr
namespace Sr
open PySem PySem.Spec PyProof.Rows L2 Evl
/-! ### what a text writes -/
def Fig (z : Str) : Prop := 1 ≤ z.length ∧ z.length ≤ 13 ∧ ((TL.tl z)[0]? = some 48 → z.length ≤ 1) ∧ ∀ c ∈ TL.tl z, 48 ≤ c ∧ c ≤ 57
open Classical in
noncomputable def figO (z : Str) : Option Int := if Fig z then some ((NumText.digitsVal (TL.tl z) : Nat) : Int) else none
theorem figO_some {z : Str} (h : Fig z) : figO z = some ((NumText.digitsVal (TL.tl z) : Nat) : Int) := if_pos h
theorem figO_none {z : Str} (h : ¬ Fig z) : figO z = none := if_neg h
theorem fig_int {z : Str} (h : Fig z) : PySem.intText? z = some ((NumText.digitsVal (TL.tl z) : Nat) : Int) :=
  PySem.intText_digits h.2.2.2 (fun e => by
    have := h.1
    rw [TL.len_tl, show TL.tl z = [] from e] at this
    exact absurd this (by decide)) (by have := h.2.1; omega)
theorem figO_nonneg {z : Str} {v : Int} (h : figO z = some v) : 0 ≤ v := by
  by_cases g : Fig z
  · rw [figO_some g] at h
    cases h
    omega
  · rw [figO_none g] at h
    cases h
open Classical in
noncomputable def numO (z : Str) : Option Int :=
  if cutS z none (some 1) = ("-" : Str) then (match figO (cutS z (some 1) none) with | none => none | some v => if v < 1 ∨ 1000000000000 < v then none else some (-v))
  else (match figO z with | none => none | some v => if 1000000000000 < v then none else some v)
theorem numO_minus {z : Str} (h : cutS z none (some 1) = ("-" : Str)) : numO z = (match figO (cutS z (some 1) none) with | none => none | some v => if v < 1 ∨ 1000000000000 < v then none else some (-v)) := by
  unfold numO
  rw [if_pos h]
theorem numO_plain {z : Str} (h : ¬ cutS z none (some 1) = ("-" : Str)) : numO z = (match figO z with | none => none | some v => if 1000000000000 < v then none else some v) := by
  unfold numO
  rw [if_neg h]
noncomputable def nums : List Str → Option (List Int)
  | [] => some []
  | w :: ws => (numO w).bind fun v => (nums ws).map fun vs => v :: vs
theorem nums_snoc {w : Str} {v : Int} (h : numO w = some v) : ∀ {ws : List Str} {vs : List Int}, nums ws = some vs → nums (ws ++ [w]) = some (vs ++ [v])
  | [], vs, e => by
    cases e
    show (numO w).bind _ = _
    rw [h]
    rfl
  | x :: ws, vs, e => by
    have e : (numO x).bind (fun v => (nums ws).map fun vs => v :: vs) = some vs := e
    cases hx : numO x with
    | none => rw [hx] at e; cases e
    | some y =>
      rw [hx] at e
      cases hw : nums ws with
      | none => rw [hw] at e; cases e
      | some ys =>
        rw [hw] at e
        cases e
        show (numO x).bind (fun v => (nums (ws ++ [w])).map fun vs => v :: vs) = _
        rw [hx, nums_snoc h hw]
        rfl
theorem nums_none {w : Str} (h : numO w = none) : ∀ {ws : List Str}, w ∈ ws → nums ws = none
  | x :: ws, hm => by
    show (numO x).bind (fun v => (nums ws).map fun vs => v :: vs) = none
    rcases List.mem_cons.mp hm with rfl | hm
    · rw [h]
      rfl
    · rw [nums_none h hm]
      cases numO x <;> rfl
theorem nums_some : ∀ {ws : List Str} {vs : List Int}, nums ws = some vs → ws.map numO = vs.map some
  | [], vs, e => by
    cases e
    rfl
  | x :: ws, vs, e => by
    have e : (numO x).bind (fun v => (nums ws).map fun vs => v :: vs) = some vs := e
    cases hx : numO x with
    | none => rw [hx] at e; cases e
    | some y =>
      rw [hx] at e
      cases hw : nums ws with
      | none => rw [hw] at e; cases e
      | some ys =>
        rw [hw] at e
        cases e
        rw [List.map_cons, hx, nums_some hw]
        rfl
noncomputable def wordsOf (z : Str) : List Str := Txt.split (cutS z (some (Txt.find z (":" : Str) + 1)) none) (" " : Str)
open Classical in
/-- the list and the round -/
noncomputable def readO (z : Str) : Option (List Int × Int) :=
  if Txt.find z (":" : Str) < 0 then none else
  match figO (cutS z none (some (Txt.find z (":" : Str)))) with
  | none => none
  | some n => if n < 1 ∨ 24 < n ∨ (wordsOf z)[0]? ≠ some ("" : Str) ∨ 61 < (wordsOf z).length then none else (nums ((wordsOf z).drop 1)).map fun xs => (xs, n)
def spFigX (C : Addr) : Sp := fun vs H Q E => ∃ z : Str, vs = [.str z] ∧ z.length ≤ 5000 ∧ (∀ v, figO z = some v → RetV (.int v) H Q) ∧ (figO z = none → ∀ H2, Ex H H2 → E (.ref C) none H2)
def spNumX (C : Addr) : Sp := fun vs H Q E => ∃ z : Str, vs = [.str z] ∧ z.length ≤ 5000 ∧ (∀ v, numO z = some v → RetV (.int v) H Q) ∧ (numO z = none → ∀ H2, Ex H H2 → E (.ref C) none H2)
def spReadX (C : Addr) : Sp := fun vs H Q E => ∃ z : Str, vs = [.str z] ∧ z.length ≤ 5000 ∧
  (∀ xs n, readO z = some (xs, n) → ∀ p q H2, H p = none → Ex H H2 → H2 p = some (.tup [.ref q, .int n]) → H2 q = some (.lst (xs.map V.int)) → Q (.ref p) H2) ∧ (readO z = none → ∀ H2, Ex H H2 → E (.ref C) none H2)
theorem readO_colon {z : Str} (h : Txt.find z (":" : Str) < 0) : readO z = none := if_pos h
theorem readO_round {z : Str} (h : figO (cutS z none (some (Txt.find z (":" : Str)))) = none) : readO z = none := by
  unfold readO
  rw [h]
  split <;> rfl
theorem readO_bad {z : Str} {n : Int} (h : figO (cutS z none (some (Txt.find z (":" : Str)))) = some n) (hb : n < 1 ∨ 24 < n ∨ (wordsOf z)[0]? ≠ some ("" : Str) ∨ 61 < (wordsOf z).length) : readO z = none := by
  unfold readO
  rw [h]
  split
  · rfl
  · show (if _ then _ else _) = none
    rw [if_pos hb]
theorem readO_good {z : Str} {n : Int} (h0 : ¬ Txt.find z (":" : Str) < 0) (h : figO (cutS z none (some (Txt.find z (":" : Str)))) = some n) (hb : ¬ (n < 1 ∨ 24 < n ∨ (wordsOf z)[0]? ≠ some ("" : Str) ∨ 61 < (wordsOf z).length)) : readO z = (nums ((wordsOf z).drop 1)).map fun xs => (xs, n) := by
  unfold readO
  rw [if_neg h0, h]
  show (if _ then _ else _) = _
  rw [if_neg hb]
section
variable {K : PySem.W.Frag} {σ : L2.St} {H H' : Hp} {ta tb te tx : TE} {t u : TT} {x y z v : V} {D : Ends} {tu tw tz : TS}
theorem s_call {i : Nat} {sp : Sp} {E : XK} {ta : TA} {vs : List V} (h : EvA ta σ H vs) (k : ∀ H1, Ex H H1 → sp vs H1 (fun x H2 => D.nx (σ.set i (some x)) H2) E) : tAsg (tCall sp [] E ta) (gName i) D σ H := h H (Ex.refl H) _ fun H1 e1 => by
  show sp (vs ++ []) H1 (fun x H2 => D.nx (σ.set i (some x)) H2) E
  rw [List.append_nil]
  exact k H1 e1
theorem q_callNeg {i : Nat} {sp : Sp} {E : XK} {ta : TA} {vs : List V} (h : EvA ta σ H vs) (k : ∀ H1, Ex H H1 → sp vs H1 (fun x H2 => ∃ j : Int, x = .int j ∧ tz D (σ.set i (some (.int (-j)))) H2) E) : tSeq (tAsg (tUn (rU fun i => .int (-i)) (tCall sp [] E ta)) (gName i)) tz D σ H := h H (Ex.refl H) _ fun H1 e1 => by
  show sp (vs ++ []) H1 _ E
  rw [List.append_nil]
  exact k H1 e1
/-- [.. for x in l], l new: whatever the element's reading asks; the invariant is told where l stands -/
theorem lcG_NL {xs : List V} {tl : TE} {j : Nat} {vs : List Nat} {Q : VK} (h : EvL tl σ H xs) (hw : ∀ x, wipe ((wipe σ vs).set j (some x)) vs = wipe σ vs) (Iv : Addr → Addr → Nat → Hp → Prop)
    (h0 : ∀ a l H1, H l = none → Ex H H1 → H1 l = some (.lst []) → H1 a = some (.lst xs) → a ≠ l → Iv a l 0 H1) (hI : ∀ a l i H1, Iv a l i H1 → SqL K H1 a xs)
    (hs : ∀ a l i x H1, xs[i]? = some x → Iv a l i H1 → te ((wipe σ vs).set j (some x)) H1 fun y H4 => ∃ acc, H4 l = some (.lst acc) ∧ acc.length < sizeLine ∧ Iv a l (i + 1) (upd H4 l (.lst (acc ++ [y]))))
    (hd : ∀ a l H1, Iv a l xs.length H1 → Q (.ref l) H1) : tLc (iList K tl) (gName j) tYes te vs σ H Q := h H (Ex.refl H) _ fun a H1 _ e1 h1 => ⟨a, rfl, ⟨xs, sq_of h1⟩, fun l hl =>
  lc_list (xs := xs) (Iv a l) (h0 a l _ (fresh_back e1 hl) (e1.trans (Ex.new hl)) upd_same ((Ex.new hl) _ _ h1) fun z => by rw [← z, h1] at hl; cases hl) (fun i H' _ p => hI a l i H' p) (fun i x H' hi p => ⟨hw x, hs a l i x H' hi p⟩) (fun H' p => hd a l H' p)⟩
/-- return ([.. for x in l], y) -/
theorem s_retTupLc {xs : List V} {tl : TE} {j : Nat} {vs : List Nat} (h : EvL tl σ H xs) (hw : ∀ x, wipe ((wipe σ vs).set j (some x)) vs = wipe σ vs) (Iv : Addr → Addr → Nat → Hp → Prop)
    (h0 : ∀ a l H1, H l = none → Ex H H1 → H1 l = some (.lst []) → H1 a = some (.lst xs) → a ≠ l → Iv a l 0 H1) (hI : ∀ a l i H1, Iv a l i H1 → SqL K H1 a xs)
    (hs : ∀ a l i x H1, xs[i]? = some x → Iv a l i H1 → te ((wipe σ vs).set j (some x)) H1 fun y H4 => ∃ acc, H4 l = some (.lst acc) ∧ acc.length < sizeLine ∧ Iv a l (i + 1) (upd H4 l (.lst (acc ++ [y]))))
    (hd : ∀ a l H1, Iv a l xs.length H1 → tb σ H1 fun y H2 => [.ref l, y].length ≤ sizeLine ∧ ∀ p, H2 p = none → D.rt (.ref p) (upd H2 p (.tup [.ref l, y]))) : tRet (tTup (tCons (tLc (iList K tl) (gName j) tYes te vs) (tCons tb tNil))) D σ H :=
  lcG_NL (Q := fun x H1 => tb σ H1 fun y H2 => [x, y].length ≤ sizeLine ∧ ∀ p, H2 p = none → D.rt (.ref p) (upd H2 p (.tup [x, y]))) h hw Iv h0 hI hs hd
end
end Sr
namespace Sr
open PySem PySem.Spec PyProof.Rows L2 Evl
/-! ### the law's own helpers -/
def spFigL : Sp := fun vs H Q _ => ∃ z : Str, vs = [.str z] ∧ z.length ≤ 5000 ∧ RetV (.int ((figO z).getD (-1))) H Q
noncomputable def numV (z : Str) : V := match numO z with | none => .non | some v => .int v
def spNumL : Sp := fun vs H Q _ => ∃ z : Str, vs = [.str z] ∧ z.length ≤ 5000 ∧ RetV (numV z) H Q
def spDue : Sp := fun vs H Q _ => ∃ z : Str, vs = [.str z] ∧ z.length ≤ 5000 ∧
  (∀ xs n, readO z = some (xs, n) → ∀ p q H2, H p = none → Ex H H2 → H2 p = some (.tup [.ref q, .int n]) → H2 q = some (.lst (xs.map V.int)) → Q (.ref p) H2) ∧ (readO z = none → RetV .non H Q)
theorem spv_figL {z : Str} {H : Hp} (h : z.length ≤ 5000) : SpV spFigL [.str z] H (.int ((figO z).getD (-1))) := fun H1 e Q q E => ⟨z, rfl, h, fun H2 e2 => q H2 e2⟩
theorem spv_numL {z : Str} {H : Hp} (h : z.length ≤ 5000) : SpV spNumL [.str z] H (numV z) := fun H1 e Q q E => ⟨z, rfl, h, fun H2 e2 => q H2 e2⟩
end Sr
namespace Sr
open PySem PySem.Spec PyProof.Rows L2 Evl
/-! ### texts spoiled -/
def signs1 : Str := " !\"#$&'()*+,-./0123456789:;<=>?@ABCDEFGHIJKLMNOPQRSTUVWXYZ[\\]^_`"
def signs2 : Str := "abcdefghijklmnopqrstuvwxyz{|}~"
def words1 : List Str := ["-0", "00", "01", "-01", "+1", "1_0", "", "-", "1000000000000", "1000000000001"]
def words2 : List Str := ["-1000000000000", "-1000000000001", "10000000000000", "7"]
def rounds1 : List Str := ["0", "25", "24", "1", "-1", "01", "", "1_0", "+7", "100", " 7", "7 "]
def signAt (c : Int) : Str := ⟨#[(TL.tl (signs1 ++ signs2)).getD (c % 94).toNat 0]⟩
def wordAt (c : Int) : Str := (words1 ++ words2).getD (c % 14).toNat ("" : Str)
def roundAt (c : Int) : Str := rounds1.getD (c % 12).toNat ("" : Str)
def spPick (f : Int → Str) : Sp := fun vs H Q _ => ∃ c : Int, vs = [.int c] ∧ RetV (.str (f c)) H Q
theorem spv_pick {f : Int → Str} {c : Int} {H : Hp} : SpV (spPick f) [.int c] H (.str (f c)) := fun H1 e Q q E => ⟨c, rfl, fun H2 e2 => q H2 e2⟩
theorem getD_short {l : List Str} {k : Nat} (h : ∀ z ∈ l, z.length ≤ 20) : (l.getD k ("" : Str)).length ≤ 20 := by
  rw [List.getD_eq_getElem?_getD]
  by_cases hk : k < l.length
  · rw [List.getElem?_eq_getElem hk]
    exact h _ (List.getElem_mem hk)
  · rw [List.getElem?_eq_none (by omega)]
    show ("" : Str).length ≤ 20
    decide +kernel
theorem signAt_len (c : Int) : (signAt c).length ≤ 20 := by
  show 1 ≤ 20
  decide
theorem wordAt_len (c : Int) : (wordAt c).length ≤ 20 := getD_short (by decide +kernel)
theorem roundAt_len (c : Int) : (roundAt c).length ≤ 20 := getD_short (by decide +kernel)
def spSpoil : Sp := fun vs H Q _ => ∃ (z : Str) (c : Int), vs = [.str z, .int c] ∧ z.length ≤ 1500 ∧ ∀ z' : Str, z'.length ≤ 3500 → RetV (.str z') H Q
/-- a text times a number -/
theorem op_repS {X : Cx} : OpR X (binaryOp .Mult) (fun x y H Q => ∃ a n, x = .str a ∧ y = .int n ∧ PySem.MulOk a n ∧ Q (.str (Txt.mul a n)) H) := by
  intro pn sh σ H x y v u Q inv r1 r2 hh
  obtain ⟨a, n, rfl, rfl, hm, hq⟩ := hh
  obtain ⟨t1, rfl⟩ := r1
  obtain ⟨t2, rfl⟩ := r2
  exact PySem.SB.mul hm fun t' k => ⟨.str (Txt.mul a n), H, inv.tok _, ⟨_, rfl⟩, hq⟩
theorem mul5 (c : Int) : PySem.MulOk (" 5" : Str) (c % 4) ∧ (Txt.mul (" 5" : Str) (c % 4)).length ≤ 20 := by
  have h0 := Int.emod_nonneg c (show (4 : Int) ≠ 0 by decide)
  have h1 := Int.emod_lt_of_pos c (show (0 : Int) < 4 by decide)
  obtain h | h | h | h : c % 4 = 0 ∨ c % 4 = 1 ∨ c % 4 = 2 ∨ c % 4 = 3 := by omega
  all_goals
    rw [h]
    exact ⟨⟨by decide +kernel, fun hn _ => by first | exact absurd (by decide) hn | decide +kernel, fun hn _ => by first | exact absurd (by decide) hn | decide +kernel⟩, by decide +kernel⟩
theorem ev_repS {σ : L2.St} {H : Hp} {ta tb : TE} {a : Str} {n : Int} (ha : Ev ta σ H (.str a)) (hb : Ev tb σ H (.int n)) (hm : PySem.MulOk a n) : Ev (tOp (fun x y H Q => ∃ a n, x = .str a ∧ y = .int n ∧ PySem.MulOk a n ∧ Q (.str (Txt.mul a n)) H) ta tb) σ H (.str (Txt.mul a n)) := fun H1 e Q q =>
  ha H1 e _ fun H2 e2 => hb H2 (e.trans e2) _ fun H3 e3 => ⟨a, n, rfl, rfl, hm, q H3 (e2.trans e3)⟩
theorem len_app (a b : Str) : (a ++ b).length = a.length + b.length := by rw [TL.len_tl, TL.tl_append, List.length_append, ← TL.len_tl, ← TL.len_tl]
theorem join_len (y : Str) : ∀ parts : List Str, (Txt.join y parts).length ≤ (parts.map (·.length)).sum + parts.length * y.length := fun parts => by
  rw [TL.join_eq]
  exact StrLaws.join_length_le y parts
theorem ev_joinV {K : PySem.W.Frag} {σ : L2.St} {H : Hp} {ta tb : TE} {a : Str} {ys : List Str} {p : Addr} (ha : Ev ta σ H (.str a)) (hb : Ev tb σ H (.ref p)) (hp : H p = some (.lst (ys.map V.str))) (hl : (ys.map (·.length)).sum + ys.length * a.length ≤ 16777216) : Ev (tM1 (fun x xs H Q => ∃ a p, ∃ ys : List Str, x = .str a ∧ xs = [.ref p] ∧ (SqL K H p (ys.map V.str) ∨ SqT K H p (ys.map V.str)) ∧
    (ys.map (·.length)).sum + ys.length * a.length ≤ 16777216 ∧ Q (.str (Txt.join a ys)) H) ta tb) σ H (.str (Txt.join a ys)) := fun H1 e Q q =>
  ha H1 e _ fun H2 e2 => ⟨⟨a, rfl⟩, hb H2 (e.trans e2) _ fun H3 e3 => ⟨a, p, ys, rfl, rfl, Or.inl (sq_of (((e.trans e2).trans e3) _ _ hp)), hl, q H3 (e2.trans e3)⟩⟩
theorem nums_bad : ∀ {ws : List Str}, nums ws = none → ∃ (i : Nat) (w : Str), ws[i]? = some w ∧ numO w = none
  | [], h => nomatch h
  | x :: ws, h => by
    have h : (numO x).bind (fun v => (nums ws).map fun vs => v :: vs) = none := h
    cases hx : numO x with
    | none => exact ⟨0, x, rfl, hx⟩
    | some y =>
      rw [hx] at h
      cases hw : nums ws with
      | none =>
        obtain ⟨i, w, h1, h2⟩ := nums_bad hw
        exact ⟨i + 1, w, h1, h2⟩
      | some ys => rw [hw] at h; cases h
theorem nums_vals {ws : List Str} {vs : List Int} (h : nums ws = some vs) : ws.map numV = vs.map V.int := by
  have g := nums_some h
  have e : ws.map numV = (ws.map numO).map fun o => match o with | none => V.non | some v => V.int v := by
    rw [List.map_map]
    refine List.map_congr_left fun w _ => ?_
    show numV w = _
    unfold numV
    rfl
  rw [e, g, List.map_map]
  rfl
theorem q_tryAsg {σ : L2.St} {H : Hp} {D : Ends} {tz : TS} {i : Nat} {sp : Sp} {tc : TA} {vs : List V} {F : Ends → L2.St → XK} (h : EvA tc σ H vs) (k : ∀ H1, Ex H H1 → sp vs H1 (fun x H2 => tz D (σ.set i (some x)) H2) (F { D with nx := tz D } σ)) : tSeq (fun D σ H => tAsg (tCallS sp (F D) tc) (gName i) D σ H) tz D σ H :=
  h H (Ex.refl H) _ fun H1 e1 => k H1 e1
end Sr
namespace Sr
open PySem PySem.Spec PyProof.Rows L2 Evl
/-! ### the defs of the text -/
def topS (i : Nat) : Stmt := PySem.Challenge.pw_sumrests_k13_lists_read_or_refused.main.body.getD i (.Pass ⟨0, 0, 0, 0⟩)
abbrev slaw_text : Stmt := topS 17
theorem sclaw_text : FnScope ["numbers", "n", "text", "number"] ["numbers", "n"] (defScope slaw_text) := ⟨rfl, rfl, rfl, by decide +kernel, rfl, by decide +kernel, by decide +kernel⟩
abbrev slaw_figures : Stmt := topS 23
theorem sclaw_figures : FnScope ["word", "sign"] ["word"] (defScope slaw_figures) := ⟨rfl, rfl, rfl, by decide +kernel, rfl, by decide +kernel, by decide +kernel⟩
abbrev slaw_number_of : Stmt := topS 24
theorem sclaw_number_of : FnScope ["word", "number"] ["word"] (defScope slaw_number_of) := ⟨rfl, rfl, rfl, by decide +kernel, rfl, by decide +kernel, by decide +kernel⟩
abbrev slaw_due : Stmt := topS 25
theorem sclaw_due : FnScope ["text", "n", "words", "numbers", "word", "number"] ["text"] (defScope slaw_due) := ⟨rfl, rfl, rfl, by decide +kernel, rfl, by decide +kernel, by decide +kernel⟩
abbrev slaw_cell_at : Stmt := topS 13
theorem sclaw_cell_at : FnScope ["script", "k"] ["script", "k"] (defScope slaw_cell_at) := ⟨rfl, rfl, rfl, by decide +kernel, rfl, by decide +kernel, by decide +kernel⟩
abbrev slaw_number_by : Stmt := topS 15
theorem sclaw_number_by : FnScope ["cell", "way"] ["cell", "way"] (defScope slaw_number_by) := ⟨rfl, rfl, rfl, by decide +kernel, rfl, by decide +kernel, by decide +kernel⟩
abbrev slaw_word_by : Stmt := topS 20
theorem sclaw_word_by : FnScope ["cell", "some"] ["cell"] (defScope slaw_word_by) := ⟨rfl, rfl, rfl, by decide +kernel, rfl, by decide +kernel, by decide +kernel⟩
abbrev slaw_round_by : Stmt := topS 21
theorem sclaw_round_by : FnScope ["cell"] ["cell"] (defScope slaw_round_by) := ⟨rfl, rfl, rfl, by decide +kernel, rfl, by decide +kernel, by decide +kernel⟩
abbrev slaw_sign_by : Stmt := topS 19
theorem sclaw_sign_by : FnScope ["cell", "some"] ["cell"] (defScope slaw_sign_by) := ⟨rfl, rfl, rfl, by decide +kernel, rfl, by decide +kernel, by decide +kernel⟩
abbrev slaw_spoiled : Stmt := topS 22
theorem sclaw_spoiled : FnScope ["text", "cell", "place", "rest", "way", "words"] ["text", "cell"] (defScope slaw_spoiled) := ⟨rfl, rfl, rfl, by decide +kernel, rfl, by decide +kernel, by decide +kernel⟩
abbrev sfigures_of : Stmt := topS 9
theorem scfigures_of : FnScope ["word", "sign"] ["word"] (defScope sfigures_of) := ⟨rfl, rfl, rfl, by decide +kernel, rfl, by decide +kernel, by decide +kernel⟩
abbrev snumber_of : Stmt := topS 10
theorem scnumber_of : FnScope ["word", "number"] ["word"] (defScope snumber_of) := ⟨rfl, rfl, rfl, by decide +kernel, rfl, by decide +kernel, by decide +kernel⟩
abbrev sread : Stmt := topS 11
theorem scread : FnScope ["text", "colon", "n", "words", "word"] ["text"] (defScope sread) := ⟨rfl, rfl, rfl, by decide +kernel, rfl, by decide +kernel, by decide +kernel⟩
abbrev slaw_whole : Stmt := topS 14
theorem sclaw_whole : FnScope ["found"] ["found"] (defScope slaw_whole) := ⟨rfl, rfl, rfl, by decide +kernel, rfl, by decide +kernel, by decide +kernel⟩
abbrev slaw_is_told : Stmt := topS 18
theorem sclaw_is_told : FnScope ["found", "numbers", "n", "number"] ["found", "numbers", "n"] (defScope slaw_is_told) := ⟨rfl, rfl, rfl, by decide +kernel, rfl, by decide +kernel, by decide +kernel⟩
abbrev slaw : Stmt := topS 26
theorem sclaw : FnScope ["script", "n", "count", "numbers", "text", "due", "found", "marks", "e", "k"] ["script"] (defScope slaw) := ⟨rfl, rfl, rfl, by decide +kernel, rfl, by decide +kernel, by decide +kernel⟩
section
variable {P : Program} {w : World} {K : PySem.W.Frag} {mg : Str → Option Value} {base : Heap}
theorem oklaw_text (T : Top K mg "_law_text" slaw_text ["numbers", "n"]) (nb : NB mg) : Cal0 P w K mg base "_law_text" 1 ["numbers", "n"] (spShown K) := by
  obtain ⟨f, fd, F, hm, hb⟩ := T
  refine ⟨f, fd, F.ok sclaw_text (fun vs H Q E h => ?_) (fun cdv A outer s H vs Q E hr h => ?_), hm, F.kp, hb⟩
  · obtain ⟨a, xs, n, rfl, _⟩ := h
    rfl
  · obtain ⟨a, xs, n, rfl, hS, hl, hn, hbd, q⟩ := h
    refine ⟨_, (pss_cons (ps_set (i := 2) sclaw_text.nd rfl (Or.inl rfl) (pe_op op_add_str (pe_callTy call_str_int (by rfl) nb.str (by decide +kernel) (pa_cons (pv 1) pa_nil)) pe_str))
      (pss_cons (ps_for PassesOwn.never rfl (k_list K (pv 0)) (pg_name (i := 3) sclaw_text.nd rfl (Or.inl rfl)) (pss_one (ps_set (i := 2) sclaw_text.nd rfl (Or.inl rfl) (pe_op op_add_str (pe_op op_add_str (pv 2) pe_str) (pe_callTy call_str_int (by rfl) nb.str (by decide +kernel) (pa_cons (pv 3) pa_nil))))))
      (pss_one (ps_ret (pv 2))))), ?_⟩
    have hnb : inB n := by have := hn.1; have := hn.2; unfold inB; omega
    have l14 : ∀ x : Int, inB x → (numS x).length ≤ 14 := fun x hx => by
      rw [TL.len_tl, tl_numS]
      exact numI_len hx
    have hc : (":" : Str).length = 1 := by decide +kernel
    have hbl : (" " : Str).length = 1 := by decide +kernel
    have lapp : ∀ a b : Str, (a ++ b).length = a.length + b.length := fun a b => by rw [TL.len_tl, TL.tl_append, List.length_append, ← TL.len_tl, ← TL.len_tl]
    have e0 : numS n ++ (":" : Str) = shownS n [] := TL.ext_tl (by rw [TL.tl_append, tl_shown, tl_numS, tl_colon]; rfl)
    refine q_asg (v := .str (shownS n [])) (ev_is (ev_catS (ev_strI (ev_var rfl) (log_le hnb)) ev_c (by have := l14 n hnb; omega)) (congrArg V.str e0)) fun H1 e1 => ?_
    refine q_forLn (K := K) (ev_var rfl) (ex_l e1 hS) (fun i σ' H' => ∃ y3 : Option V, σ' = [some (.ref a), some (.int n), some (.str (shownS n (xs.take i))), y3] ∧ Ex H H') (fun H2 e2 => ⟨none, by rw [List.take_zero]; rfl, e1.trans e2⟩) (fun i σ' H' _ h => by
      obtain ⟨_, _, e⟩ := h
      exact ex_l e hS) ?_ ?_
    · rintro i x σ' H' hx ⟨y3, rfl, e⟩
      obtain ⟨z, hz, rfl⟩ := int_at hx
      have hzb := hbd z (List.mem_of_getElem? hz)
      have hls := shown_len hn (xs := xs.take i) (by rw [List.length_take]; omega) fun y hy => hbd y (List.mem_of_mem_take hy)
      have hlz := l14 z hzb
      refine s_asg (ev_catS (ev_catS (ev_var rfl) ev_c (by omega)) (ev_strI (ev_var rfl) (log_le hzb)) (by rw [lapp]; omega)) fun H2 e2 => ⟨some (.int z), ?_, e.trans e2⟩
      rw [List.take_add_one, hz]
      show _ = [some (V.ref a), some (V.int n), some (V.str (shownS n (xs.take i ++ [z]))), some (V.int z)]
      rw [shown_snoc]
      rfl
    · rintro σ' H' ⟨y3, rfl, e⟩
      rw [List.length_map, List.take_length]
      exact s_ret (ev_var rfl) fun H2 e2 => q.go (e.trans e2)
theorem oklaw_figures (T : Top K mg "_law_figures" slaw_figures ["word"]) (nb : NB mg) : Cal0 P w K mg base "_law_figures" 1 ["word"] spFigL := by
  obtain ⟨f, fd, F, hm, hb⟩ := T
  refine ⟨f, fd, F.ok sclaw_figures (fun vs H Q E h => ?_) (fun cdv A outer s H vs Q E hr h => ?_), hm, F.kp, hb⟩
  · obtain ⟨z, rfl, _⟩ := h
    rfl
  · obtain ⟨z, rfl, hz, q⟩ := h
    refine ⟨_, (pss_cons (ps_if (PW.pt (pw_or (pt_cmpR op_lt (pe_callB call_len_str (by rfl) nb.len (by decide +kernel) (pa_cons (pv 0) pa_nil)) pe_int (nomark _)) (pw_or1 (pt_cmpR op_gt (pe_callB call_len_str (by rfl) nb.len (by decide +kernel) (pa_cons (pv 0) pa_nil)) pe_int (nomark _))))) (pss_one (ps_ret (pe_un un_neg pe_int))) pss_nil)
      (pss_cons (ps_for PassesOwn.never rfl (pi_str (pv 0)) (pg_name (i := 1) sclaw_figures.nd rfl (Or.inl rfl)) (pss_one (ps_if (pt_cmpR op_notIn_sign (pv 1) pe_str (by with_unfolding_all rfl)) (pss_one (ps_ret (pe_un un_neg pe_int))) pss_nil)))
      (pss_cons (ps_if (PW.pt (pw_and (pt_cmpR op_eq (pe_ix ix_str (pv 0) pe_int (fun _ _ => rfl)) pe_str (nomark _)) (pw_and1 (pt_cmpR op_gt (pe_callB call_len_str (by rfl) nb.len (by decide +kernel) (pa_cons (pv 0) pa_nil)) pe_int (nomark _))))) (pss_one (ps_ret (pe_un un_neg pe_int))) pss_nil)
      (pss_one (ps_ret (pe_callTy call_int_str (by rfl) nb.int (by decide +kernel) (pa_cons (pv 0) pa_nil))))))), ?_⟩
    have zero : TL.tl ("0" : Str) = [48] := by decide +kernel
    have hl : z.length = (TL.tl z).length := TL.len_tl z
    have no : ¬ Fig z → ∀ H2, Ex H H2 → Q (.int (-1)) H2 := fun g => by
      rw [figO_none g] at q
      exact q
    refine q_when (et_or (et_lt (ev_lenS (ev_var rfl) (by omega)) ev_c) fun h0 => et_gt (ev_lenS (ev_var rfl) (by omega)) ev_c) (fun hb H1 e1 => ?_) fun hb H1 e1 => ?_
    · refine s_ret (ev_negI ev_c) fun H2 e2 => no (fun g => ?_) H2 (e1.trans e2)
      rw [Bool.or_eq_true, decide_eq_true_iff, decide_eq_true_iff] at hb
      have := g.1
      have := g.2.1
      omega
    · rw [Bool.or_eq_false_iff, decide_eq_false_iff_not, decide_eq_false_iff_not] at hb
      obtain ⟨b1, b2⟩ := hb
      have ef : TL.tl ("0123456789" : Str) = [48, 49, 50, 51, 52, 53, 54, 55, 56, 57] := by decide +kernel
      refine q_forS (ev_var rfl) (fun i σ' H' => ∃ y1 : Option V, σ' = [some (.str z), y1] ∧ Ex H H' ∧ ∀ (j d : Nat), j < i → (TL.tl z)[j]? = some d → 48 ≤ d ∧ d ≤ 57) (fun H2 e2 => ⟨none, rfl, e1.trans e2, fun j d h => absurd h (Nat.not_lt_zero j)⟩) ?_ ?_
      · rintro i d σ' H' hd ⟨y1, rfl, e, hall⟩
        refine s_when (et_noSign (ev_var rfl) ev_c) (fun hb H2 e2 => ?_) (fun hb H2 e2 => ⟨_, rfl, e.trans e2, fun j d' hj hd' => ?_⟩)
        · refine s_ret (ev_negI ev_c) fun H3 e3 => no (fun g => ?_) H3 ((e.trans e2).trans e3)
          have hr := g.2.2.2 d (List.mem_of_getElem? hd)
          rw [show ("0123456789" : Str).cps.toList = [48, 49, 50, 51, 52, 53, 54, 55, 56, 57] from ef, decide_eq_true (by simp only [List.mem_cons]; omega)] at hb
          cases hb
        · by_cases hji : j = i
          · subst hji
            rw [hd] at hd'
            cases hd'
            rw [show ("0123456789" : Str).cps.toList = [48, 49, 50, 51, 52, 53, 54, 55, 56, 57] from ef] at hb
            have hm : d ∈ [48, 49, 50, 51, 52, 53, 54, 55, 56, 57] := by
              rw [Bool.not_eq_false', decide_eq_true_iff] at hb
              exact hb
            simp only [List.mem_cons, List.not_mem_nil, or_false] at hm
            omega
          · exact hall j d' (by omega) hd'
      · rintro σ' H' ⟨y1, rfl, e, hall⟩
        obtain ⟨c, hc⟩ : ∃ c, (TL.tl z)[0]? = some c := ⟨_, List.getElem?_eq_getElem (by omega)⟩
        refine q_when (et_and (a := decide ((TL.tl z)[0]? = some 48)) (by
          refine et_is (et_eqS (ev_op (ev_var rfl) ev_c (rv_ixS (c := c) (by omega) (atI_nat (j := 0) hc))) ev_c) ?_
          rw [Bool.eq_iff_iff, decide_eq_true_iff, decide_eq_true_iff, hc]
          constructor
          · intro h
            have h2 : [c] = [48] := (congrArg TL.tl h).trans zero
            injection h2 with h2
            rw [h2]
          · intro h
            cases h
            exact TL.ext_tl zero.symm) fun _ => et_gt (ev_lenS (ev_var rfl) (by omega)) ev_c) (fun hb H2 e2 => ?_) fun hb H2 e2 => ?_
        · refine s_ret (ev_negI ev_c) fun H3 e3 => no (fun g => ?_) H3 ((e.trans e2).trans e3)
          rw [Bool.and_eq_true, decide_eq_true_iff, decide_eq_true_iff] at hb
          have := g.2.2.1 hb.1
          omega
        · rw [Bool.and_eq_false_iff, decide_eq_false_iff_not, decide_eq_false_iff_not] at hb
          have g : Fig z := ⟨by omega, by omega, fun h => (hb.elim (fun z => absurd h z) fun z => by omega), fun c hc => by
            obtain ⟨j, hj, e⟩ := List.mem_iff_getElem.mp hc
            exact hall j c hj (by rw [List.getElem?_eq_getElem hj, e])⟩
          rw [figO_some g] at q
          exact s_ret (ev_intS (ev_var rfl) (fig_int g) (by omega)) fun H3 e3 => q H3 ((e.trans e2).trans e3)
theorem oklaw_number_of (T : Top K mg "_law_number_of" slaw_number_of ["word"]) (nb : NB mg) (claw_figures : Cal0 P w K mg base "_law_figures" 1 ["word"] spFigL) : Cal0 P w K mg base "_law_number_of" 2 ["word"] spNumL := by
  obtain ⟨f, fd, F, hm, hb⟩ := T
  refine ⟨f, fd, F.ok sclaw_number_of (fun vs H Q E h => ?_) (fun cdv A outer s H vs Q E hr h => ?_), hm, F.kp, hb⟩
  · obtain ⟨z, rfl, _⟩ := h
    rfl
  · obtain ⟨z, rfl, hz, q⟩ := h
    refine ⟨_, (pss_cons (ps_set (i := 1) sclaw_number_of.nd rfl (Or.inl rfl) (pe_cal claw_figures (hr.mono (by decide)) pass0 (pa_cons (pv 0) pa_nil)))
      (pss_cons (ps_if (pt_cmpR op_eq (pe_slice sl_str (pv 0) po_none (po_some pe_int)) pe_str (nomark _)) (pss_cons (ps_set (i := 1) sclaw_number_of.nd rfl (Or.inl rfl) (pe_cal claw_figures (hr.mono (by decide)) pass0 (pa_cons (pe_slice sl_str (pv 0) (po_some pe_int) po_none) pa_nil)))
      (pss_cons (ps_if (pt_cmpR op_lt (pv 1) pe_int (nomark _)) (pss_one (ps_ret pe_non)) pss_nil)
      (pss_one (ps_set (i := 1) sclaw_number_of.nd rfl (Or.inl rfl) (pe_un un_neg (pv 1)))))) (pss_one (ps_if (pt_cmpR op_lt (pv 1) pe_int (nomark _)) (pss_one (ps_ret pe_non)) pss_nil)))
      (pss_one (ps_ret (pe_ifExp (pt_cmpR op_gt (pe_callB call_abs (by rfl) nb.abs (by decide +kernel) (pa_cons (pv 1) pa_nil)) (pe_op op_pow pe_int pe_int) (nomark _)) pe_non (pv 1)))))), ?_⟩
    have hcl := cutS_length z (some 1) none
    have p12 : ∀ {σ : L2.St} {H : Hp}, Ev (tOp (rI CPow fun i j => .int (i ^ j.toNat)) (tC (.int 10)) (tC (.int 12))) σ H (.int 1000000000000) := ev_int (ev_pow ev_c ev_c ⟨by decide, by decide, by decide⟩) (by decide)
    have no : numO z = none → ∀ H2, Ex H H2 → Q .non H2 := fun g => by
      unfold numV at q
      rw [g] at q
      exact q
    have yes : ∀ v, numO z = some v → ∀ H2, Ex H H2 → Q (.int v) H2 := fun v g => by
      unfold numV at q
      rw [g] at q
      exact q
    refine q_asg (ev_call (ea_cons (ev_var rfl) ea_nil) (spv_figL hz)) fun H1 e1 => ?_
    -- the last row
    have last : ∀ (v : Int) (H1 : Hp), Ex H H1 → ((1000000000000 < v ∨ 1000000000000 < -v) → numO z = none) → (¬ (1000000000000 < v ∨ 1000000000000 < -v) → numO z = some v) →
        tRet (tIf (tTest (tOp (rI0 fun i j => .bl (decide (j < i))) (tCB (fun xs H Q => ∃ i, xs = [.int i] ∧ Q (.int (if i < 0 then -i else i)) H) (tCons (tVar 1) tNil)) (tOp (rI CPow fun i j => .int (i ^ j.toNat)) (tC (.int 10)) (tC (.int 12))))) (tC .non) (tVar 1)) { nx := fun _ H' => Q .non H', rt := Q } [some (.str z), some (.int v)] H1 := fun v H1 e1 k1 k2 => by
      by_cases hv : 1000000000000 < v ∨ 1000000000000 < -v
      · exact s_ret (ev_if (b := true) (et_is (et_gt (ev_abs (ev_var rfl)) p12) (decide_eq_true (by split <;> omega))) (fun _ => ev_c) (fun h => nomatch h)) fun H2 e2 => no (k1 hv) H2 (e1.trans e2)
      · exact s_ret (ev_if (b := false) (et_is (et_gt (ev_abs (ev_var rfl)) p12) (decide_eq_false (by split <;> omega))) (fun h => nomatch h) (fun _ => ev_var rfl)) fun H2 e2 => yes v (k2 hv) H2 (e1.trans e2)
    by_cases h0 : cutS z none (some 1) = ("-" : Str)
    · have en := numO_minus h0
      refine q_if (b := true) (et_is (et_eqS (ev_cutS (ev_var rfl) eo_none (eo_some ev_c) (by omega)) ev_c) (decide_eq_true h0)) (fun _ H2 e2 => ?_) (fun hb => nomatch hb)
      refine q_asg (ev_call (ea_cons (ev_cutS (ev_var rfl) (eo_some ev_c) eo_none (by omega)) ea_nil) (spv_figL (by omega))) fun H3 e3 => ?_
      have e3 := (e1.trans e2).trans e3
      cases hf : figO (cutS z (some 1) none) with
      | none =>
        rw [hf] at en
        exact q_when (b := true) (et_is (et_lt (ev_var rfl) ev_c) (decide_eq_true (by show (-1 : Int) < 1; decide))) (fun _ H4 e4 => s_ret ev_c fun H5 e5 => no en H5 ((e3.trans e4).trans e5)) (fun h => nomatch h)
      | some v =>
        rw [hf] at en
        have en : numO z = if v < 1 ∨ 1000000000000 < v then none else some (-v) := en
        have v0 := figO_nonneg hf
        show tSeq _ _ _ [some (.str z), some (.int v)] H3
        by_cases hv : v < 1
        · exact q_when (b := true) (et_is (et_lt (ev_var rfl) ev_c) (decide_eq_true hv)) (fun _ H4 e4 => s_ret ev_c fun H5 e5 => no (by rw [en, if_pos (Or.inl hv)]) H5 ((e3.trans e4).trans e5)) (fun h => nomatch h)
        · refine q_when (b := false) (et_is (et_lt (ev_var rfl) ev_c) (decide_eq_false hv)) (fun h => nomatch h) fun _ H4 e4 => ?_
          refine s_asg (ev_negI (ev_var rfl)) fun H5 e5 => ?_
          exact last (-v) H5 ((e3.trans e4).trans e5) (fun h => by rw [en, if_pos (Or.inr (by omega))]) (fun h => by rw [en, if_neg (by omega)])
    · have en := numO_plain h0
      refine q_if (b := false) (et_is (et_eqS (ev_cutS (ev_var rfl) eo_none (eo_some ev_c) (by omega)) ev_c) (decide_eq_false h0)) (fun hb => nomatch hb) fun _ H2 e2 => ?_
      have e2 := e1.trans e2
      cases hf : figO z with
      | none =>
        rw [hf] at en
        exact s_when (b := true) (et_is (et_lt (ev_var rfl) ev_c) (decide_eq_true (by show (-1 : Int) < 0; decide))) (fun _ H4 e4 => s_ret ev_c fun H5 e5 => no en H5 ((e2.trans e4).trans e5)) (fun h => nomatch h)
      | some v =>
        rw [hf] at en
        have en : numO z = if 1000000000000 < v then none else some v := en
        have v0 := figO_nonneg hf
        refine s_when (b := false) (et_is (et_lt (ev_var rfl) ev_c) (decide_eq_false (by show ¬ v < 0; omega))) (fun h => nomatch h) fun _ H4 e4 => ?_
        exact last v H4 (e2.trans e4) (fun h => by rw [en, if_pos (by omega)]) (fun h => by rw [en, if_neg (by omega)])
theorem oklaw_due (T : Top K mg "_law_due" slaw_due ["text"]) (nb : NB mg) (claw_figures : Cal0 P w K mg base "_law_figures" 1 ["word"] spFigL) (claw_number_of : Cal0 P w K mg base "_law_number_of" 2 ["word"] spNumL) : Cal0 P w K mg base "_law_due" 3 ["text"] spDue := by
  obtain ⟨f, fd, F, hm, hb⟩ := T
  refine ⟨f, fd, F.ok sclaw_due (fun vs H Q E h => ?_) (fun cdv A outer s H vs Q E hr h => ?_), hm, F.kp, hb⟩
  · obtain ⟨z, rfl, _⟩ := h
    rfl
  · obtain ⟨z, rfl, hz, q, qN⟩ := h
    refine ⟨_, (pss_cons (ps_if (pt_cmpR op_lt (pe_m1 PySem.F.slot_str_find PySem.F.type_str_find mt_find (pv 0) pe_str) pe_int (nomark _)) (pss_one (ps_ret pe_non)) pss_nil)
      (pss_cons (ps_set (i := 1) sclaw_due.nd rfl (Or.inl rfl) (pe_cal claw_figures (hr.mono (by decide)) pass0 (pa_cons (pe_slice sl_str (pv 0) po_none (po_some (pe_m1 PySem.F.slot_str_find PySem.F.type_str_find mt_find (pv 0) pe_str))) pa_nil)))
      (pss_cons (ps_set (i := 2) sclaw_due.nd rfl (Or.inl rfl) (pe_split (pe_slice sl_str (pv 0) (po_some (pe_op op_add (pe_m1 PySem.F.slot_str_find PySem.F.type_str_find mt_find (pv 0) pe_str) pe_int)) po_none) pe_str))
      (pss_cons (ps_if (PW.pt (pw_or (pt_cmpR op_lt (pv 1) pe_int (nomark _)) (pw_or (pt_cmpR op_gt (pv 1) pe_int (nomark _)) (pw_or (pt_cmpR op_ne (pe_ix (k_ixL K) (pv 2) pe_int (fun _ _ => rfl)) pe_str (nomark _)) (pw_or1 (pt_cmpR op_gt (pe_callB (k_len K) (by rfl) nb.len (by decide +kernel) (pa_cons (pv 2) pa_nil)) pe_int (nomark _))))))) (pss_one (ps_ret pe_non)) pss_nil)
      (pss_cons (ps_setLc (i := 3) (own := [("word", 4)]) (g := gName 4) (tt := tYes) rfl sclaw_due.nd rfl rfl (sw_true rfl rfl rfl (by decide +kernel)) (k_list K (pe_slice (k_slL K) (pv 2) (po_some pe_int) po_none)) (blkOk_by (by kernel_rfl)) (fun _ _ _ _ _ => pg_name (i := 4) sclaw_due.nd rfl (Or.inl rfl)) (fun _ _ _ _ _ => pts_nil) (fun _ _ _ _ _ => (pe_cal claw_number_of (hr.mono (by decide)) pass0 (pa_cons (pv 4) pa_nil))))
      (pss_cons (ps_if (pt_cmpR op_gt (pe_callB (k_len K) (by rfl) nb.len (by decide +kernel) (pa_cons (pe_lc (own := [("number", 5)]) (g := gName 5) rfl sclaw_due.nd (k_list K (pv 3)) (blkOk_by (by kernel_rfl)) (fun _ _ _ _ _ => pg_name (i := 5) sclaw_due.nd rfl (Or.inl rfl)) (fun _ _ _ _ _ => (pts_one (pt_cmpR op_isN (pv 5) pe_non (nomark _)))) (fun _ _ _ _ _ => (pv 5))) pa_nil)) pe_int (nomark _)) (pss_one (ps_ret pe_non)) pss_nil)
      (pss_one (ps_ret (pe_tup (pa_cons (pv 3) (pa_cons (pv 1) pa_nil))))))))))), ?_⟩
    generalize hk : Txt.find z (":" : Str) = k
    have fnd : ∀ {σ : L2.St} {H : Hp}, σ[0]? = some (some (.str z)) → Ev (tM1 (fun x xs H Q => ∃ a b, x = .str a ∧ xs = [.str b] ∧ Q (.int (Txt.find a b)) H) (tVar 0) (tC (.str ":"))) σ H (.int k) := fun h => ev_int (ev_find (ev_var h) ev_c) hk
    refine q_when (et_lt (fnd rfl) ev_c) (fun hb H2 e2 => s_ret ev_c fun H3 e3 => qN (readO_colon (by rw [hk]; exact of_decide_eq_true hb)) H3 (e2.trans e3)) fun hb0 H2 e2 => ?_
    have hb0 : ¬ Txt.find z (":" : Str) < 0 := by rw [hk]; exact of_decide_eq_false hb0
    have hc1 := cutS_length z none (some k)
    have hc2 := cutS_length z (some (k + 1)) none
    refine q_asg (ev_call (ea_cons (ev_cutS (ev_var rfl) eo_none (eo_some (fnd rfl)) (by omega)) ea_nil) (spv_figL (by omega))) fun H3 e3 => ?_
    have e3 := e2.trans e3
    generalize hn : (figO (cutS z none (some k))).getD (-1) = n
    have hwo : Txt.split (cutS z (some (k + 1)) none) (" " : Str) = wordsOf z := by unfold wordsOf; rw [hk]
    refine q_asgL (xs := (wordsOf z).map V.str) (by
      rw [← hwo]
      exact el_split (ev_cutS (ev_var rfl) (eo_some (ev_add (fnd rfl) ev_c)) eo_none (by omega)) ev_c (by decide +kernel) (by omega)) fun p H5 n5 e5 h5 => ?_
    have e5 := e3.trans e5
    have hpos : 1 ≤ (wordsOf z).length := by rw [← hwo]; exact split_pos _ _
    have hle : (wordsOf z).length ≤ 5002 := by rw [← hwo]; have := split_le (cutS z (some (k + 1)) none) (" " : Str); omega
    have hwl : ∀ w ∈ wordsOf z, w.length ≤ 5000 := fun w hw => by
      rw [← hwo] at hw
      have := part_short hw
      omega
    obtain ⟨w0, hw0⟩ : ∃ w0, (wordsOf z)[0]? = some w0 := ⟨_, List.getElem?_eq_getElem (by omega)⟩
    have ix0 : atI ((wordsOf z).map V.str) 0 = some (.str w0) := atI_nat (j := 0) (by rw [List.getElem?_map, hw0]; rfl)
    refine q_when (et_or (et_lt (ev_var rfl) ev_c) fun _ => et_or (et_gt (ev_var rfl) ev_c) fun _ => et_or (et_neS (ev_itemL (K := K) (ev_var rfl) ev_c (sq_of h5) ix0) ev_c) fun _ => et_gt (ev_lenL (K := K) (ev_var rfl) (sq_of h5)) ev_c) (fun hb H6 e6 => ?_) fun hb H6 e6 => ?_
    · refine s_ret ev_c fun H7 e7 => qN ?_ H7 ((e5.trans e6).trans e7)
      cases hf : figO (cutS z none (some k)) with
      | none => exact readO_round (by rw [hk]; exact hf)
      | some n' =>
        rw [hf] at hn
        have hn : n' = n := hn
        subst hn
        refine readO_bad (by rw [hk]; exact hf) ?_
        rw [Bool.or_eq_true, Bool.or_eq_true, Bool.or_eq_true, decide_eq_true_iff, decide_eq_true_iff, decide_eq_true_iff, List.length_map] at hb
        rcases hb with hb | hb | hb | hb
        · exact Or.inl hb
        · exact Or.inr (Or.inl hb)
        · refine Or.inr (Or.inr (Or.inl fun e => ?_))
          rw [hw0] at e
          cases e
          rw [decide_eq_true rfl] at hb
          cases hb
        · exact Or.inr (Or.inr (Or.inr (by omega)))
    · rw [Bool.or_eq_false_iff, Bool.or_eq_false_iff, Bool.or_eq_false_iff, decide_eq_false_iff_not, decide_eq_false_iff_not, decide_eq_false_iff_not, List.length_map] at hb
      obtain ⟨b1, b2, b3, b4⟩ := hb
      have hn' : figO (cutS z none (some (Txt.find z (":" : Str)))) = some n := by
        rw [hk]
        cases hf : figO (cutS z none (some k)) with
        | none =>
          rw [hf] at hn
          have : (-1 : Int) = n := hn
          omega
        | some n' =>
          rw [hf] at hn
          exact congrArg some hn
      have hgood : ¬ (n < 1 ∨ 24 < n ∨ (wordsOf z)[0]? ≠ some ("" : Str) ∨ 61 < (wordsOf z).length) := by
        rintro (h | h | h | h)
        · exact b1 h
        · exact b2 h
        · refine h ?_
          rw [hw0]
          rw [Bool.not_eq_false', decide_eq_true_iff] at b3
          rw [b3]
        · omega
      have hread := readO_good hb0 hn' hgood
      have h6 := e6 _ _ h5
      have e6 := e5.trans e6
      generalize hws : (wordsOf z).drop 1 = ws at hread
      have hwsl : ws.length ≤ 5002 := by rw [← hws, List.length_drop]; omega
      have hcut : cutV ((wordsOf z).map V.str) (some 1) none = ws.map V.str := by
        unfold cutV
        rw [show HT.sIx ((wordsOf z).map V.str).length 0 (some 1) = min 1 ((wordsOf z).map V.str).length from HT.sIx_nat _ _ 1, List.length_map, Nat.min_eq_left hpos, ← List.map_drop, hws]
        show (ws.map V.str).take ((wordsOf z).length - 1) = _
        rw [List.take_of_length_le (by rw [List.length_map, ← hws, List.length_drop]; omega)]
      have gv : given ws.length (fun _ => true) (fun i => numV (ws.getD i ("" : Str))) = ws.map numV := by
        unfold given
        rw [List.filter_eq_self.mpr fun _ _ => rfl]
        refine List.ext_getElem? fun i => ?_
        rw [List.getElem?_map, List.getElem?_map]
        by_cases h : i < ws.length
        · rw [List.getElem?_range h, List.getElem?_eq_getElem h]
          show some (numV (ws.getD i ("" : Str))) = some (numV ws[i])
          rw [List.getD_eq_getElem?_getD, List.getElem?_eq_getElem h]
          rfl
        · rw [List.getElem?_eq_none (by rw [List.length_range]; omega), List.getElem?_eq_none (by omega)]
          rfl
      refine q_asgL (xs := ws.map numV) ?_ fun p7 H7 n7 e7 h7 => ?_
      · rw [← gv]
        have g := el_lcNL (K := K) (σ := [some (.str z), some (.int n), some (.ref p), none, none, none]) (H := H6) (xs := ws.map V.str) (tl := tSl (rSlL K) (tVar 2) (tPart (tC (.int 1))) tNoPart) (j := 4) (vs := [4]) (t := tYes) (te := tCall spNumL [] E0 (tCons (tVar 4) tNil))
          (fun _ => true) (fun i => numV (ws.getD i ("" : Str))) (by
            rw [← hcut]
            exact el_sl (ev_var rfl) (eo_some ev_c) eo_none (sq_of h6)) (by rw [List.length_map]; omega) (fun x => rfl) (fun i x H2 _ _ => et_yes) (fun i x H2 e2 hx _ => by
            rw [List.getElem?_map] at hx
            cases hz : ws[i]? with
            | none => rw [hz] at hx; cases hx
            | some wd =>
              rw [hz] at hx
              have ex : x = V.str wd := (Option.some.inj hx).symm
              subst ex
              have ez : ws.getD i ("" : Str) = wd := by rw [List.getD_eq_getElem?_getD, hz]; rfl
              rw [ez]
              have hwm := List.mem_of_getElem? hz
              rw [← hws] at hwm
              exact ev_call (ea_cons (ev_var rfl) ea_nil) (spv_numL (hwl wd (List.mem_of_mem_drop hwm))))
        rw [List.length_map] at g
        exact g
      have e7 := e6.trans e7
      have gl : EvL (tLc (iList K (tVar 3)) (gName 5) (tTest (tOp (fun x y H Q => y = .non ∧ Q (.bl (decide (x = .non))) H) (tVar 5) (tC .non))) (tVar 5) [5]) [some (.str z), some (.int n), some (.ref p), some (.ref p7), none, none] H7 (given ws.length (fun i => decide (numV (ws.getD i ("" : Str)) = .non)) (fun i => numV (ws.getD i ("" : Str)))) := by
        have g := el_lcL (K := K) (σ := [some (.str z), some (.int n), some (.ref p), some (.ref p7), none, none]) (H := H7) (a := p7) (xs := ws.map numV) (tl := tVar 3) (j := 5) (vs := [5]) (t := tTest (tOp (fun x y H Q => y = .non ∧ Q (.bl (decide (x = .non))) H) (tVar 5) (tC .non))) (te := tVar 5)
          (fun i => decide (numV (ws.getD i ("" : Str)) = .non)) (fun i => numV (ws.getD i ("" : Str))) (ev_var rfl) (sq_of h7) (by rw [List.length_map]; omega) (fun x => rfl)
          (fun i x H2 _ hx => by
            rw [List.getElem?_map] at hx
            cases hz : ws[i]? with
            | none => rw [hz] at hx; cases hx
            | some wd =>
              rw [hz] at hx
              have ex : x = numV wd := (Option.some.inj hx).symm
              subst ex
              have ez : ws.getD i ("" : Str) = wd := by rw [List.getD_eq_getElem?_getD, hz]; rfl
              rw [ez]
              exact et_isN (ev_var rfl)) (fun i x H2 _ hx _ => by
            rw [List.getElem?_map] at hx
            cases hz : ws[i]? with
            | none => rw [hz] at hx; cases hx
            | some wd =>
              rw [hz] at hx
              have ex : x = numV wd := (Option.some.inj hx).symm
              subst ex
              have ez : ws.getD i ("" : Str) = wd := by rw [List.getD_eq_getElem?_getD, hz]; rfl
              rw [ez]
              exact ev_var rfl)
        rw [List.length_map] at g
        exact g
      cases hnum : nums ws with
      | none =>
        obtain ⟨i, wd, h1, h2⟩ := nums_bad hnum
        have hil := (List.getElem?_eq_some_iff.mp h1).1
        have hpos2 : 0 < (given ws.length (fun i => decide (numV (ws.getD i ("" : Str)) = .non)) (fun i => numV (ws.getD i ("" : Str)))).length := by
          unfold given
          rw [List.length_map]
          refine List.length_pos_of_mem (a := i) (List.mem_filter.mpr ⟨List.mem_range.mpr hil, decide_eq_true ?_⟩)
          rw [List.getD_eq_getElem?_getD, h1]
          show numV wd = .non
          unfold numV
          rw [h2]
        refine q_when (b := true) (et_is (et_gt (ev_lenNL gl) ev_c) (decide_eq_true (by omega))) (fun _ H8 e8 => s_ret ev_c fun H9 e9 => qN ?_ H9 ((e7.trans e8).trans e9)) (fun h => nomatch h)
        rw [hread, hnum]
        rfl
      | some vs =>
        have hv := nums_vals hnum
        have hz0 : (given ws.length (fun i => decide (numV (ws.getD i ("" : Str)) = .non)) (fun i => numV (ws.getD i ("" : Str)))).length = 0 := by
          unfold given
          rw [List.length_map, List.filter_eq_nil_iff.mpr]
          · rfl
          · intro i hi
            have hi := List.mem_range.mp hi
            have g := congrArg (fun l => l[i]?) hv
            have g : (ws.map numV)[i]? = (vs.map V.int)[i]? := g
            rw [List.getElem?_map, List.getElem?_map, List.getElem?_eq_getElem hi] at g
            rw [List.getD_eq_getElem?_getD, List.getElem?_eq_getElem hi]
            have g2 : some (numV ws[i]) = (vs[i]?).map V.int := g
            cases hvi : vs[i]? with
            | none => rw [hvi] at g2; cases g2
            | some y =>
              rw [hvi] at g2
              have g3 : numV ws[i] = V.int y := Option.some.inj g2
              show ¬ decide (numV ws[i] = .non) = true
              rw [g3]
              simp
        refine q_when (b := false) (et_is (et_gt (ev_lenNL gl) ev_c) (decide_eq_false (by omega))) (fun h => nomatch h) fun _ H8 e8 => ?_
        rw [hnum] at hread
        rw [hv] at h7
        exact s_retU (eu_tup (ea_cons (ev_var rfl) (ea_cons (ev_var rfl) ea_nil)) (by show (2 : Nat) ≤ 100000; decide)) fun p9 H9 n9 e9 h9 => q vs n hread p9 p7 H9 (fresh_back (e7.trans e8) n9) ((e7.trans e8).trans e9) h9 (e9 _ _ (e8 _ _ h7))
theorem oklaw_cell_at (T : Top K mg "_law_cell_at" slaw_cell_at ["script", "k"]) (nb : NB mg) : Cal0 P w K mg base "_law_cell_at" 1 ["script", "k"] (spCell K) := by
  obtain ⟨f, fd, F, hm, hb⟩ := T
  refine ⟨f, fd, F.ok sclaw_cell_at (fun vs H Q E h => ?_) (fun cdv A outer s H vs Q E hr h => ?_), hm, F.kp, hb⟩
  · obtain ⟨a, cs, k, rfl, _⟩ := h
    rfl
  · obtain ⟨a, cs, k, rfl, hS, h0, q⟩ := h
    refine ⟨_, (pss_cons (ps_if (pt_cmpR op_lt (pv 1) (pe_callB (k_len K) (by rfl) nb.len (by decide +kernel) (pa_cons (pv 0) pa_nil)) (nomark _)) (pss_one (ps_ret (pe_ix (k_ixL K) (pv 0) (pv 1) (fun _ _ => rfl)))) pss_nil)
      (pss_one (ps_ret pe_int))), ?_⟩
    refine q_when (et_lt (ev_var rfl) (ev_lenL (ev_var rfl) hS)) (fun hb H1 e1 => ?_) (fun hb H1 e1 => ?_)
    · have hlt := of_decide_eq_true hb
      rw [List.length_map] at hlt
      exact s_ret (ev_itemL (ev_var rfl) (ev_var rfl) (ex_l e1 hS) (atI_map h0 hlt)) fun H2 e2 => q.go (e1.trans e2)
    · have hge := of_decide_eq_false hb
      rw [List.length_map] at hge
      have e : cell cs k = 0 := by
        unfold cell
        rw [List.getD_eq_getElem?_getD, List.getElem?_eq_none (by omega)]
        rfl
      rw [e] at q
      exact s_ret ev_c fun H2 e2 => q.go (e1.trans e2)
theorem oklaw_number_by (T : Top K mg "_law_number_by" slaw_number_by ["cell", "way"]) : Cal0 P w K mg base "_law_number_by" 1 ["cell", "way"] spNumBy := by
  obtain ⟨f, fd, F, hm, hb⟩ := T
  refine ⟨f, fd, F.ok sclaw_number_by (fun vs H Q E h => ?_) (fun cdv A outer s H vs Q E hr h => ?_), hm, F.kp, hb⟩
  · obtain ⟨c, way, rfl, _⟩ := h
    rfl
  · obtain ⟨c, way, rfl, q⟩ := h
    refine ⟨_, (pss_cons (ps_if (pt_cmpR op_eq (pv 1) pe_int (nomark _)) (pss_one (ps_ret (pe_op op_sub (pe_op op_mod (pv 0) pe_int) pe_int))) pss_nil)
      (pss_cons (ps_if (pt_cmpR op_eq (pv 1) pe_int (nomark _)) (pss_one (ps_ret (pe_op op_mod (pv 0) pe_int))) pss_nil)
      (pss_cons (ps_if (pt_cmpR op_eq (pv 1) pe_int (nomark _)) (pss_one (ps_ret (pe_op op_sub (pe_op op_mod (pv 0) (pe_op op_add (pe_op op_mul pe_int (pe_op op_pow pe_int pe_int)) pe_int)) (pe_op op_pow pe_int pe_int)))) pss_nil)
      (pss_one (ps_ret (pe_ix (k_ixL K) (pe_lst (pa_cons (pe_op op_pow pe_int pe_int) (pa_cons (pe_un un_neg (pe_op op_pow pe_int pe_int)) (pa_cons (pe_op op_sub (pe_op op_pow pe_int pe_int) (pe_op op_mod (pe_op op_fdivP (pv 0) pe_int) pe_int)) pa_nil)))) (pe_op op_mod (pv 0) pe_int) (fun _ _ => rfl))))))), ?_⟩
    have p12 : ∀ {σ : L2.St} {H : Hp}, Ev (tOp (rI CPow fun i j => .int (i ^ j.toNat)) (tC (.int 10)) (tC (.int 12))) σ H (.int 1000000000000) := ev_int (ev_pow ev_c ev_c ⟨by decide, by decide, by decide⟩) (by decide)
    refine q_when (et_eq (ev_var rfl) ev_c) (fun hb H1 e1 => ?_) (fun h1 H1 e1 => ?_)
    · have e := of_decide_eq_true hb
      refine s_ret (ev_sub (ev_mod (ev_var rfl) ev_c (by decide)) ev_c) fun H2 e2 => ?_
      have g := q.go (e1.trans e2)
      unfold numberBy at g
      rw [if_pos e] at g
      exact g
    have n1 := of_decide_eq_false h1
    refine q_when (et_eq (ev_var rfl) ev_c) (fun hb H2 e2 => ?_) (fun h2 H2 e2 => ?_)
    · have e := of_decide_eq_true hb
      refine s_ret (ev_mod (ev_var rfl) ev_c (by decide)) fun H3 e3 => ?_
      have g := q.go ((e1.trans e2).trans e3)
      unfold numberBy at g
      rw [if_neg n1, if_pos e] at g
      exact g
    have n2 := of_decide_eq_false h2
    refine q_when (et_eq (ev_var rfl) ev_c) (fun hb H3 e3 => ?_) (fun h3 H3 e3 => ?_)
    · have e := of_decide_eq_true hb
      refine s_ret (ev_sub (ev_mod (ev_var rfl) (ev_add (ev_mul ev_c p12 (.inl (by decide))) ev_c) (by decide)) p12) fun H4 e4 => ?_
      have g := q.go (((e1.trans e2).trans e3).trans e4)
      unfold numberBy at g
      rw [if_neg n1, if_neg n2, if_pos e] at g
      exact g
    have n3 := of_decide_eq_false h3
    refine s_ret (ev_itemNL (el_lst (ea_cons p12 (ea_cons (ev_negI p12) (ea_cons (ev_sub p12 (ev_mod (ev_div (ev_var rfl) ev_c (by decide) (by decide)) ev_c (by decide))) ea_nil))) (by show (3 : Nat) ≤ 100000; decide)) (ev_mod (ev_var rfl) ev_c (by decide)) (v := .int (numberBy c way)) ?_) fun H4 e4 => q.go (((e1.trans e2).trans e3).trans e4)
    unfold numberBy
    rw [if_neg n1, if_neg n2, if_neg n3]
    have h0 : c % 3 = 0 ∨ c % 3 = 1 ∨ c % 3 = 2 := by omega
    rcases h0 with e | e | e
    · rw [e, if_pos rfl]
      exact atI_nat (j := 0) rfl
    · rw [e, if_neg (by decide), if_pos rfl]
      exact atI_nat (j := 1) rfl
    · rw [e, if_neg (by decide), if_neg (by decide)]
      exact atI_nat (j := 2) rfl
theorem oklaw_word_by (T : Top K mg "_law_word_by" slaw_word_by ["cell"]) (nb : NB mg) : Cal0 P w K mg base "_law_word_by" 1 ["cell"] (spPick wordAt) := by
  obtain ⟨f, fd, F, hm, hb⟩ := T
  refine ⟨f, fd, F.ok sclaw_word_by (fun vs H Q E h => ?_) (fun cdv A outer s H vs Q E hr h => ?_), hm, F.kp, hb⟩
  · obtain ⟨c, rfl, _⟩ := h
    rfl
  · obtain ⟨c, rfl, q⟩ := h
    refine ⟨_, (pss_cons (ps_set (i := 1) sclaw_word_by.nd rfl (Or.inl rfl) (pe_lst (pa_cons pe_str (pa_cons pe_str (pa_cons pe_str (pa_cons pe_str (pa_cons pe_str (pa_cons pe_str (pa_cons pe_str (pa_cons pe_str (pa_cons pe_str (pa_cons pe_str pa_nil))))))))))))
      (pss_cons (ps_set (i := 1) sclaw_word_by.nd rfl (Or.inl rfl) (pe_op op_cat (pv 1) (pe_lst (pa_cons pe_str (pa_cons pe_str (pa_cons pe_str (pa_cons pe_str pa_nil)))))))
      (pss_one (ps_ret (pe_ix (k_ixL K) (pv 1) (pe_op op_mod (pv 0) pe_int) (fun _ _ => rfl)))))), ?_⟩
    have m0 := Int.emod_nonneg c (show (14 : Int) ≠ 0 by decide)
    have m1 := Int.emod_lt_of_pos c (show (0 : Int) < 14 by decide)
    have ix : atI (words1.map V.str ++ words2.map V.str) (c % 14) = some (.str (wordAt c)) := by
      rw [show c % 14 = (((c % 14).toNat : Nat) : Int) by omega]
      refine atI_nat ?_
      unfold wordAt
      rw [← List.map_append, List.getElem?_map, List.getD_eq_getElem?_getD, List.getElem?_eq_getElem (show (c % 14).toNat < (words1 ++ words2).length by show _ < 14; omega)]
      rfl
    refine q_asgL (xs := words1.map V.str) (el_lst (ea_cons ev_c (ea_cons ev_c (ea_cons ev_c (ea_cons ev_c (ea_cons ev_c (ea_cons ev_c (ea_cons ev_c (ea_cons ev_c (ea_cons ev_c (ea_cons ev_c ea_nil)))))))))) (by show (10 : Nat) ≤ 100000; decide)) fun p H1 n1 e1 h1 => ?_
    refine q_asgL (xs := words1.map V.str ++ words2.map V.str) (el_cat (ev_var rfl) h1 (el_lst (vs := words2.map V.str) (ea_cons ev_c (ea_cons ev_c (ea_cons ev_c (ea_cons ev_c ea_nil)))) (by show (4 : Nat) ≤ 100000; decide)) (by show (14 : Nat) ≤ 100000; decide)) fun p2 H2 n2 e2 h2 => ?_
    exact s_ret (ev_itemL (K := K) (ev_var rfl) (ev_mod (ev_var rfl) ev_c (by decide)) (sq_of h2) ix) fun H3 e3 => q.go ((e1.trans e2).trans e3)
theorem oklaw_round_by (T : Top K mg "_law_round_by" slaw_round_by ["cell"]) (nb : NB mg) : Cal0 P w K mg base "_law_round_by" 1 ["cell"] (spPick roundAt) := by
  obtain ⟨f, fd, F, hm, hb⟩ := T
  refine ⟨f, fd, F.ok sclaw_round_by (fun vs H Q E h => ?_) (fun cdv A outer s H vs Q E hr h => ?_), hm, F.kp, hb⟩
  · obtain ⟨c, rfl, _⟩ := h
    rfl
  · obtain ⟨c, rfl, q⟩ := h
    refine ⟨_, (pss_one (ps_ret (pe_ix (k_ixL K) (pe_lst (pa_cons pe_str (pa_cons pe_str (pa_cons pe_str (pa_cons pe_str (pa_cons pe_str (pa_cons pe_str (pa_cons pe_str (pa_cons pe_str (pa_cons pe_str (pa_cons pe_str (pa_cons pe_str (pa_cons pe_str pa_nil))))))))))))) (pe_op op_mod (pv 0) pe_int) (fun _ _ => rfl)))), ?_⟩
    have m0 := Int.emod_nonneg c (show (12 : Int) ≠ 0 by decide)
    have m1 := Int.emod_lt_of_pos c (show (0 : Int) < 12 by decide)
    have ix : atI (rounds1.map V.str) (c % 12) = some (.str (roundAt c)) := by
      rw [show c % 12 = (((c % 12).toNat : Nat) : Int) by omega]
      refine atI_nat ?_
      unfold roundAt
      rw [List.getElem?_map, List.getD_eq_getElem?_getD, List.getElem?_eq_getElem (show (c % 12).toNat < rounds1.length by show _ < 12; omega)]
      rfl
    exact s_ret (ev_itemNL (K := K) (xs := rounds1.map V.str) (el_lst (ea_cons ev_c (ea_cons ev_c (ea_cons ev_c (ea_cons ev_c (ea_cons ev_c (ea_cons ev_c (ea_cons ev_c (ea_cons ev_c (ea_cons ev_c (ea_cons ev_c (ea_cons ev_c (ea_cons ev_c ea_nil)))))))))))) (by show (12 : Nat) ≤ 100000; decide)) (ev_mod (ev_var rfl) ev_c (by decide)) ix) fun H3 e3 => q.go e3
theorem oklaw_sign_by (T : Top K mg "_law_sign_by" slaw_sign_by ["cell"]) (nb : NB mg) : Cal0 P w K mg base "_law_sign_by" 1 ["cell"] (spPick signAt) := by
  obtain ⟨f, fd, F, hm, hb⟩ := T
  refine ⟨f, fd, F.ok sclaw_sign_by (fun vs H Q E h => ?_) (fun cdv A outer s H vs Q E hr h => ?_), hm, F.kp, hb⟩
  · obtain ⟨c, rfl, _⟩ := h
    rfl
  · obtain ⟨c, rfl, q⟩ := h
    refine ⟨_, (pss_cons (ps_set (i := 1) sclaw_sign_by.nd rfl (Or.inl rfl) pe_str)
      (pss_cons (ps_set (i := 1) sclaw_sign_by.nd rfl (Or.inl rfl) (pe_op op_add_str (pv 1) pe_str))
      (pss_one (ps_ret (pe_ix ix_str (pv 1) (pe_op op_mod (pv 0) pe_int) (fun _ _ => rfl)))))), ?_⟩
    have h94 : (TL.tl (signs1 ++ signs2)).length = 94 := by decide +kernel
    have hl : (signs1 ++ signs2).length = 94 := by rw [TL.len_tl, h94]
    have hl1 : signs1.length + signs2.length ≤ 100000 := by decide +kernel
    have m0 := Int.emod_nonneg c (show (94 : Int) ≠ 0 by decide)
    have m1 := Int.emod_lt_of_pos c (show (0 : Int) < 94 by decide)
    have ix : atI (signs1 ++ signs2).cps.toList (c % 94) = some ((TL.tl (signs1 ++ signs2)).getD (c % 94).toNat 0) := by
      rw [show c % 94 = (((c % 94).toNat : Nat) : Int) by omega]
      refine atI_nat ?_
      rw [Int.toNat_natCast, List.getD_eq_getElem?_getD, List.getElem?_eq_getElem (by rw [h94]; omega)]
      rfl
    refine q_asg (v := .str signs1) ev_c fun H1 e1 => ?_
    refine q_asg (v := .str (signs1 ++ signs2)) (ev_catS (ev_var rfl) (ev_c (v := .str signs2)) hl1) fun H2 e2 => ?_
    exact s_ret (ev_op (ev_var rfl) (ev_mod (ev_var rfl) ev_c (by decide)) (rv_ixS (by omega) ix)) fun H3 e3 => q.go ((e1.trans e2).trans e3)
theorem oklaw_spoiled (T : Top K mg "_law_spoiled" slaw_spoiled ["text", "cell"]) (nb : NB mg) (claw_sign_by : Cal0 P w K mg base "_law_sign_by" 1 ["cell"] (spPick signAt)) (claw_word_by : Cal0 P w K mg base "_law_word_by" 1 ["cell"] (spPick wordAt)) (claw_round_by : Cal0 P w K mg base "_law_round_by" 1 ["cell"] (spPick roundAt)) :
    Cal0 P w K mg base "_law_spoiled" 2 ["text", "cell"] spSpoil := by
  obtain ⟨f, fd, F, hm, hb⟩ := T
  refine ⟨f, fd, F.ok sclaw_spoiled (fun vs H Q E h => ?_) (fun cdv A outer s H vs Q E hr h => ?_), hm, F.kp, hb⟩
  · obtain ⟨z, c, rfl, _⟩ := h
    rfl
  · obtain ⟨z, c, rfl, hz, q⟩ := h
    refine ⟨_, (pss_cons (ps_set (i := 2) sclaw_spoiled.nd rfl (Or.inl rfl) (pe_op op_mod (pe_op op_fdivP (pv 1) pe_int) (pe_op op_add (pe_callB call_len_str (by rfl) nb.len (by decide +kernel) (pa_cons (pv 0) pa_nil)) pe_int)))
      (pss_cons (ps_set (i := 3) sclaw_spoiled.nd rfl (Or.inl rfl) (pe_op op_fdivP (pe_op op_fdivP (pv 1) pe_int) (pe_op op_add (pe_callB call_len_str (by rfl) nb.len (by decide +kernel) (pa_cons (pv 0) pa_nil)) pe_int)))
      (pss_cons (ps_set (i := 4) sclaw_spoiled.nd rfl (Or.inl rfl) (pe_op op_mod (pv 1) pe_int))
      (pss_cons (ps_if (pt_cmpR op_eq (pv 4) pe_int (nomark _)) (pss_one (ps_ret (pe_op op_add_str (pe_op op_add_str (pe_slice sl_str (pv 0) po_none (po_some (pv 2))) (pe_cal claw_sign_by (hr.mono (by decide)) pass0 (pa_cons (pv 3) pa_nil))) (pe_slice sl_str (pv 0) (po_some (pv 2)) po_none)))) pss_nil)
      (pss_cons (ps_if (pt_cmpR op_eq (pv 4) pe_int (nomark _)) (pss_one (ps_ret (pe_op op_add_str (pe_op op_add_str (pe_slice sl_str (pv 0) po_none (po_some (pv 2))) (pe_cal claw_sign_by (hr.mono (by decide)) pass0 (pa_cons (pv 3) pa_nil))) (pe_slice sl_str (pv 0) (po_some (pe_op op_add (pv 2) pe_int)) po_none)))) pss_nil)
      (pss_cons (ps_if (pt_cmpR op_eq (pv 4) pe_int (nomark _)) (pss_one (ps_ret (pe_op op_add_str (pe_op op_add_str (pe_slice sl_str (pv 0) po_none (po_some (pv 2))) pe_str) (pe_slice sl_str (pv 0) (po_some (pv 2)) po_none)))) pss_nil)
      (pss_cons (ps_if (pt_cmpR op_eq (pv 4) pe_int (nomark _)) (pss_one (ps_ret (pe_op op_add_str (pe_slice sl_str (pv 0) po_none (po_some (pv 2))) (pe_slice sl_str (pv 0) (po_some (pe_op op_add (pv 2) pe_int)) po_none)))) pss_nil)
      (pss_cons (ps_if (pt_cmpR op_eq (pv 4) pe_int (nomark _)) (pss_one (ps_ret (pe_op op_add_str (pe_cal claw_round_by (hr.mono (by decide)) pass0 (pa_cons (pv 3) pa_nil)) (pe_slice sl_str (pv 0) (po_some (pe_m1 PySem.F.slot_str_find PySem.F.type_str_find mt_find (pv 0) pe_str)) po_none)))) pss_nil)
      (pss_cons (ps_if (pt_cmpR op_eq (pv 4) pe_int (nomark _)) (pss_one (ps_ret (pe_op op_add_str (pv 0) (pe_op op_repS pe_str (pe_op op_mod (pv 3) pe_int))))) pss_nil)
      (pss_cons (ps_if (pt_cmpR op_eq (pv 4) pe_int (nomark _)) (pss_one (ps_ret (pe_op op_add_str (pe_op op_add_str (pe_slice sl_str (pv 0) po_none (po_some (pv 2))) (pe_ix ix_str pe_str (pe_op op_mod (pv 3) pe_int) (fun _ _ => rfl))) (pe_slice sl_str (pv 0) (po_some (pv 2)) po_none)))) pss_nil)
      (pss_cons (ps_set (i := 5) sclaw_spoiled.nd rfl (Or.inl rfl) (pe_split (pv 0) pe_str))
      (pss_cons (ps_expr (pe_bm PySem.F.plainAttrs_list PySem.F.slot_list_insert PySem.F.type_list_insert mt_insert (pv 5) (pa_cons (pe_op op_add pe_int (pe_op op_mod (pv 2) (pe_callB (k_len K) (by rfl) nb.len (by decide +kernel) (pa_cons (pv 5) pa_nil)))) (pa_cons (pe_cal claw_word_by (hr.mono (by decide)) pass0 (pa_cons (pv 3) pa_nil)) pa_nil))))
      (pss_one (ps_ret (pe_join pe_str (pv 5)))))))))))))))), ?_⟩
    have hlen : ∀ {σ : L2.St} {H : Hp}, σ[0]? = some (some (.str z)) → Ev (tOp (rI0 fun i j => .int (i + j)) (tCB (fun xs H Q => ∃ z, xs = [.str z] ∧ z.length ≤ sizeLine ∧ Q (.int z.length) H) (tCons (tVar 0) tNil)) (tC (.int 1))) σ H (.int ((z.length : Int) + 1)) := fun h => ev_add (ev_lenS (ev_var h) (by omega)) ev_c
    have cl : ∀ a b : Option Int, (cutS z a b).length ≤ 1500 := fun a b => by have := cutS_length z a b; omega
    refine q_asg (ev_mod (ev_div (ev_var rfl) ev_c (by decide) (by decide)) (hlen rfl) (by omega)) fun H1 e1 => ?_
    generalize hpl : c / 8 % ((z.length : Int) + 1) = pl
    have pl0 : 0 ≤ pl := by rw [← hpl]; exact Int.emod_nonneg _ (by omega)
    refine q_asg (ev_div (ev_div (ev_var rfl) ev_c (by decide) (by decide)) (hlen rfl) (by omega) (by omega)) fun H2 e2 => ?_
    generalize c / 8 / ((z.length : Int) + 1) = rs
    refine q_asg (ev_mod (ev_var rfl) ev_c (by decide)) fun H3 e3 => ?_
    have e3 := (e1.trans e2).trans e3
    generalize c % 8 = way
    have fin : ∀ {z' : Str} {H' : Hp}, z'.length ≤ 3500 → Ex H H' → ∀ H2, Ex H' H2 → Q (.str z') H2 := fun h e H2 e2 => q _ h H2 (e.trans e2)
    refine q_when (et_eq (ev_var rfl) ev_c) (fun _ H4 e4 => ?_) fun _ H4 e4 => ?_
    · have h1 := cl none (some pl)
      have h2 := cl (some pl) none
      have h3 := signAt_len rs
      exact s_ret (ev_catS (ev_catS (ev_cutS (ev_var rfl) eo_none (eo_some (ev_var rfl)) (by omega)) (ev_call (ea_cons (ev_var rfl) ea_nil) spv_pick) (by omega)) (ev_cutS (ev_var rfl) (eo_some (ev_var rfl)) eo_none (by omega)) (by rw [len_app]; omega)) (fin (by rw [len_app, len_app]; omega) (e3.trans e4))
    have e4 := e3.trans e4
    refine q_when (et_eq (ev_var rfl) ev_c) (fun _ H5 e5 => ?_) fun _ H5 e5 => ?_
    · have h1 := cl none (some pl)
      have h2 := cl (some (pl + 1)) none
      have h3 := signAt_len rs
      exact s_ret (ev_catS (ev_catS (ev_cutS (ev_var rfl) eo_none (eo_some (ev_var rfl)) (by omega)) (ev_call (ea_cons (ev_var rfl) ea_nil) spv_pick) (by omega)) (ev_cutS (ev_var rfl) (eo_some (ev_add (ev_var rfl) ev_c)) eo_none (by omega)) (by rw [len_app]; omega)) (fin (by rw [len_app, len_app]; omega) (e4.trans e5))
    have e5 := e4.trans e5
    refine q_when (et_eq (ev_var rfl) ev_c) (fun _ H6 e6 => ?_) fun _ H6 e6 => ?_
    · have h1 := cl none (some pl)
      have h2 := cl (some pl) none
      have h3 : ("\n" : Str).length = 1 := by decide +kernel
      exact s_ret (ev_catS (ev_catS (ev_cutS (ev_var rfl) eo_none (eo_some (ev_var rfl)) (by omega)) (ev_c (v := .str "\n")) (by omega)) (ev_cutS (ev_var rfl) (eo_some (ev_var rfl)) eo_none (by omega)) (by rw [len_app]; omega)) (fin (by rw [len_app, len_app]; omega) (e5.trans e6))
    have e6 := e5.trans e6
    refine q_when (et_eq (ev_var rfl) ev_c) (fun _ H7 e7 => ?_) fun _ H7 e7 => ?_
    · have h1 := cl none (some pl)
      have h2 := cl (some (pl + 1)) none
      exact s_ret (ev_catS (ev_cutS (ev_var rfl) eo_none (eo_some (ev_var rfl)) (by omega)) (ev_cutS (ev_var rfl) (eo_some (ev_add (ev_var rfl) ev_c)) eo_none (by omega)) (by omega)) (fin (by rw [len_app]; omega) (e6.trans e7))
    have e7 := e6.trans e7
    refine q_when (et_eq (ev_var rfl) ev_c) (fun _ H8 e8 => ?_) fun _ H8 e8 => ?_
    · have h2 := cl (some (Txt.find z (":" : Str))) none
      have h3 := roundAt_len rs
      exact s_ret (ev_catS (ev_call (ea_cons (ev_var rfl) ea_nil) spv_pick) (ev_cutS (ev_var rfl) (eo_some (ev_find (ev_var rfl) ev_c)) eo_none (by omega)) (by omega)) (fin (by rw [len_app]; omega) (e7.trans e8))
    have e8 := e7.trans e8
    refine q_when (et_eq (ev_var rfl) ev_c) (fun _ H9 e9 => ?_) fun _ H9 e9 => ?_
    · obtain ⟨m1, m2⟩ := mul5 rs
      exact s_ret (ev_catS (ev_var rfl) (ev_repS (ev_c (v := .str " 5")) (ev_mod (ev_var rfl) ev_c (by decide)) m1) (by omega)) (fin (by rw [len_app]; omega) (e8.trans e9))
    have e9 := e8.trans e9
    refine q_when (et_eq (ev_var rfl) ev_c) (fun _ H10 e10 => ?_) fun _ H10 e10 => ?_
    · have h1 := cl none (some pl)
      have h2 := cl (some pl) none
      have m0 := Int.emod_nonneg rs (show (6 : Int) ≠ 0 by decide)
      have m1 := Int.emod_lt_of_pos rs (show (0 : Int) < 6 by decide)
      have h6 : (TL.tl ("_ :-+0" : Str)).length = 6 := by decide +kernel
      obtain ⟨d, hd⟩ : ∃ d, (TL.tl ("_ :-+0" : Str))[(rs % 6).toNat]? = some d := ⟨_, List.getElem?_eq_getElem (by rw [h6]; omega)⟩
      have ix : atI ("_ :-+0" : Str).cps.toList (rs % 6) = some d := by
        rw [show rs % 6 = (((rs % 6).toNat : Nat) : Int) by omega]
        refine atI_nat ?_
        exact hd
      have h3 : (⟨#[d]⟩ : Str).length = 1 := rfl
      exact s_ret (ev_catS (ev_catS (ev_cutS (ev_var rfl) eo_none (eo_some (ev_var rfl)) (by omega)) (ev_op (ev_c (v := .str "_ :-+0")) (ev_mod (ev_var rfl) ev_c (by decide)) (rv_ixS (by decide +kernel) ix)) (by omega)) (ev_cutS (ev_var rfl) (eo_some (ev_var rfl)) eo_none (by omega)) (by rw [len_app]; omega)) (fin (by rw [len_app, len_app]; omega) (e9.trans e10))
    have e10 := e9.trans e10
    refine q_asgL (el_split (ev_var rfl) ev_c (by decide +kernel) (by omega)) fun p H11 n11 e11 h11 => ?_
    have e11 := e10.trans e11
    have hw := split_weight z (" " : Str) (by decide +kernel)
    have hbl : (" " : Str).length = 1 := by decide +kernel
    have hpos := split_pos z (" " : Str)
    have hle := split_le z (" " : Str)
    generalize Txt.split z (" " : Str) = ws at h11 hw hpos hle
    have m0 := Int.emod_nonneg pl (show ((ws.map V.str).length : Int) ≠ 0 by rw [List.length_map]; omega)
    have m1 := Int.emod_lt_of_pos pl (show 0 < ((ws.map V.str).length : Int) by rw [List.length_map]; omega)
    have wl := wordAt_len rs
    refine q_insert h11 (ev_var rfl) (ev_add ev_c (ev_mod (ev_var rfl) (ev_lenL (K := K) (ev_var rfl) (sq_of h11)) (by rw [List.length_map]; omega))) (ev_call (ea_cons (ev_var rfl) ea_nil) spv_pick) (by rw [List.length_map]; omega) ⟨by omega, by rw [List.length_map] at m1 ⊢; omega⟩ fun H12 e12 => ?_
    generalize (1 + pl % ((ws.map V.str).length : Int)).toNat = at'
    have hys : ∀ l : List Str, ∀ k : Nat, ((l.take k ++ [wordAt rs] ++ l.drop k).map (·.length)).sum ≤ (l.map (·.length)).sum + 20 ∧ (l.take k ++ [wordAt rs] ++ l.drop k).length = l.length + 1 := fun l k => by
      have e := List.take_append_drop k l
      have e2 := congrArg (fun m : List Str => (m.map (·.length)).sum) e
      have e3 := congrArg List.length e
      simp only [List.map_append, List.sum_append, List.length_append, List.map_cons, List.map_nil, List.sum_cons, List.sum_nil, List.length_cons, List.length_nil] at e2 e3 ⊢
      omega
    obtain ⟨y1, y2⟩ := hys ws at'
    have hj := join_len (" " : Str) (ws.take at' ++ [wordAt rs] ++ ws.drop at')
    exact s_ret (ev_joinV (K := K) (p := p) (ys := ws.take at' ++ [wordAt rs] ++ ws.drop at') ev_c (ev_var rfl) (by rw [upd_same, List.map_append, List.map_append, List.map_take, List.map_drop]; rfl) (by rw [hbl, y2]; omega)) (fin (by rw [hbl, y2] at hj; omega) (Ex.mut (e11.trans e12) (fresh_back e10 n11)))
theorem okfigures_of {C : Addr} (T : Top K mg "figures_of" sfigures_of ["word"]) (nb : NB mg) (cFIGURES : Cst mg "FIGURES" (.str "0123456789") (Value.str ("0123456789" : Str) tFIGURES)) (xBadText : Exc K mg "BadText" C) : CalE P w K mg base "figures_of" 1 ["word"] (spFigX C) := by
  obtain ⟨f, fd, F, hm, hb⟩ := T
  refine ⟨f, fd, F.okX scfigures_of (fun vs H Q E h => ?_) (fun cdv A outer s H vs Q E hr h => ?_), hm, F.kp, hb⟩
  · obtain ⟨z, rfl, _⟩ := h
    rfl
  · obtain ⟨z, rfl, hz, q, qE⟩ := h
    refine ⟨_, (pss_cons (ps_if (PW.pt (pw_or (pt_cmpR op_lt (pe_callB call_len_str (by rfl) nb.len (by decide +kernel) (pa_cons (pv 0) pa_nil)) pe_int (nomark _)) (pw_or (pt_cmpR op_gt (pe_callB call_len_str (by rfl) nb.len (by decide +kernel) (pa_cons (pv 0) pa_nil)) pe_int (nomark _)) (pw_or1 (PW.pt (pw_and (pt_cmpR op_eq (pe_ix ix_str (pv 0) pe_int (fun _ _ => rfl)) pe_str (nomark _)) (pw_and1 (pt_cmpR op_gt (pe_callB call_len_str (by rfl) nb.len (by decide +kernel) (pa_cons (pv 0) pa_nil)) pe_int (nomark _))))))))) (pss_one (ps_raise rfl (takes_of rfl rfl rfl rfl) (pmk_own PySem.F.excBase_ValueError xBadText.x xBadText.gC xBadText.k (raises_own xBadText.b xBadText.t) rfl))) pss_nil)
      (pss_cons (ps_for (passes_of rfl) rfl (pi_str (pv 0)) (pg_name (i := 1) scfigures_of.nd rfl (Or.inl rfl)) (pss_one (ps_if (pt_cmpR op_notIn_sign (pv 1) (pe_glob (by rfl) cFIGURES.gm cFIGURES.rel) (by with_unfolding_all rfl)) (pss_one (ps_raise rfl (takes_of rfl rfl rfl rfl) (pmk_own PySem.F.excBase_ValueError xBadText.x xBadText.gC xBadText.k (raises_own xBadText.b xBadText.t) rfl))) pss_nil)))
      (pss_one (ps_ret (pe_callTy call_int_str (by rfl) nb.int (by decide +kernel) (pa_cons (pv 0) pa_nil)))))), ?_⟩
    have zero : TL.tl ("0" : Str) = [48] := by decide +kernel
    have hl : z.length = (TL.tl z).length := TL.len_tl z
    refine q_when (et_or (et_lt (ev_lenS (ev_var rfl) (by omega)) ev_c) fun h0 => et_or (et_gt (ev_lenS (ev_var rfl) (by omega)) ev_c) fun _ =>
      et_and (a := decide ((TL.tl z)[0]? = some 48)) (by
        have h0 := of_decide_eq_false h0
        obtain ⟨c, hc⟩ : ∃ c, (TL.tl z)[0]? = some c := ⟨_, List.getElem?_eq_getElem (by omega)⟩
        refine et_is (et_eqS (ev_op (ev_var rfl) ev_c (rv_ixS (c := c) (by omega) (atI_nat (j := 0) hc))) ev_c) ?_
        rw [Bool.eq_iff_iff, decide_eq_true_iff, decide_eq_true_iff, hc]
        constructor
        · intro h
          have h2 : [c] = [48] := (congrArg TL.tl h).trans zero
          injection h2 with h2
          rw [h2]
        · intro h
          cases h
          exact TL.ext_tl zero.symm) fun _ => et_gt (ev_lenS (ev_var rfl) (by omega)) ev_c) (fun hb H1 e1 => ?_) fun hb H1 e1 => ?_
    · refine qE (figO_none fun g => ?_) H1 e1
      obtain ⟨g1, g2, g3, g4⟩ := g
      rw [Bool.or_eq_true, Bool.or_eq_true, Bool.and_eq_true, decide_eq_true_iff, decide_eq_true_iff, decide_eq_true_iff, decide_eq_true_iff] at hb
      rcases hb with hb | hb | ⟨hb, hb2⟩
      · omega
      · omega
      · have := g3 hb
        omega
    · rw [Bool.or_eq_false_iff, Bool.or_eq_false_iff, Bool.and_eq_false_iff, decide_eq_false_iff_not, decide_eq_false_iff_not, decide_eq_false_iff_not, decide_eq_false_iff_not] at hb
      obtain ⟨b1, b2, b3⟩ := hb
      have ef : TL.tl ("0123456789" : Str) = [48, 49, 50, 51, 52, 53, 54, 55, 56, 57] := by decide +kernel
      refine q_forS (ev_var rfl) (fun i σ' H' => ∃ y1 : Option V, σ' = [some (.str z), y1] ∧ Ex H H' ∧ ∀ (j d : Nat), j < i → (TL.tl z)[j]? = some d → 48 ≤ d ∧ d ≤ 57) (fun H2 e2 => ⟨none, rfl, e1.trans e2, fun j d h => absurd h (Nat.not_lt_zero j)⟩) ?_ ?_
      · rintro i d σ' H' hd ⟨y1, rfl, e, hall⟩
        refine s_when (et_noSign (ev_var rfl) ev_c) (fun hb H2 e2 => ?_) (fun hb H2 e2 => ⟨_, rfl, e.trans e2, fun j d' hj hd' => ?_⟩)
        · refine qE (figO_none fun g => ?_) H2 (e.trans e2)
          have hr := g.2.2.2 d (List.mem_of_getElem? hd)
          rw [show ("0123456789" : Str).cps.toList = [48, 49, 50, 51, 52, 53, 54, 55, 56, 57] from ef, decide_eq_true (by simp only [List.mem_cons]; omega)] at hb
          cases hb
        · by_cases hji : j = i
          · subst hji
            rw [hd] at hd'
            cases hd'
            rw [show ("0123456789" : Str).cps.toList = [48, 49, 50, 51, 52, 53, 54, 55, 56, 57] from ef] at hb
            have hm : d ∈ [48, 49, 50, 51, 52, 53, 54, 55, 56, 57] := by
              rw [Bool.not_eq_false', decide_eq_true_iff] at hb
              exact hb
            simp only [List.mem_cons, List.not_mem_nil, or_false] at hm
            omega
          · exact hall j d' (by omega) hd'
      · rintro σ' H' ⟨y1, rfl, e, hall⟩
        have g : Fig z := ⟨by omega, by omega, fun h => (b3.elim (fun z => absurd h z) fun z => by omega), fun c hc => by
          obtain ⟨j, hj, e⟩ := List.mem_iff_getElem.mp hc
          exact hall j c hj (by rw [List.getElem?_eq_getElem hj, e])⟩
        exact s_ret (ev_intS (ev_var rfl) (fig_int g) (by omega)) fun H2 e2 => q _ (figO_some g) H2 (e.trans e2)
theorem oknumber_of {C : Addr} (T : Top K mg "number_of" snumber_of ["word"]) (nb : NB mg) (cMOST : Cst mg "MOST" (.int 1000000000000) (Value.int 1000000000000 tMOST)) (xBadText : Exc K mg "BadText" C) (cfigures_of : CalE P w K mg base "figures_of" 1 ["word"] (spFigX C)) : CalE P w K mg base "number_of" 2 ["word"] (spNumX C) := by
  obtain ⟨f, fd, F, hm, hb⟩ := T
  refine ⟨f, fd, F.okX scnumber_of (fun vs H Q E h => ?_) (fun cdv A outer s H vs Q E hr h => ?_), hm, F.kp, hb⟩
  · obtain ⟨z, rfl, _⟩ := h
    rfl
  · obtain ⟨z, rfl, hz, q, qE⟩ := h
    refine ⟨_, (pss_cons (ps_if (pt_cmpR op_eq (pe_slice sl_str (pv 0) po_none (po_some pe_int)) pe_str (nomark _)) (pss_cons (ps_set (i := 1) scnumber_of.nd rfl (Or.inl rfl) (pe_un un_neg (pe_cal cfigures_of (hr.mono (by decide)) (passes_call (takes_of rfl rfl rfl rfl) (fun _ _ _ _ h => h)) (pa_cons (pe_slice sl_str (pv 0) (po_some pe_int) po_none) pa_nil))))
      (pss_one (ps_if (pt_cmpR op_eq (pv 1) pe_int (nomark _)) (pss_one (ps_raise rfl (takes_of rfl rfl rfl rfl) (pmk_own PySem.F.excBase_ValueError xBadText.x xBadText.gC xBadText.k (raises_own xBadText.b xBadText.t) rfl))) pss_nil))) (pss_one (ps_set (i := 1) scnumber_of.nd rfl (Or.inl rfl) (pe_cal cfigures_of (hr.mono (by decide)) (passes_call (takes_of rfl rfl rfl rfl) (fun _ _ _ _ h => h)) (pa_cons (pv 0) pa_nil)))))
      (pss_cons (ps_if (pt_cmpR op_gt (pe_callB call_abs (by rfl) nb.abs (by decide +kernel) (pa_cons (pv 1) pa_nil)) (pe_glob (by rfl) cMOST.gm cMOST.rel) (nomark _)) (pss_one (ps_raise rfl (takes_of rfl rfl rfl rfl) (pmk_own PySem.F.excBase_ValueError xBadText.x xBadText.gC xBadText.k (raises_own xBadText.b xBadText.t) rfl))) pss_nil)
      (pss_one (ps_ret (pv 1))))), ?_⟩
    have hcl := cutS_length z (some 1) none
    have rest : ∀ (D : Ends) (v : Int) (H1 : Hp), Ex H H1 → ((1000000000000 < v ∨ 1000000000000 < -v) → ∀ H2, Ex H H2 → E (.ref C) none H2) → (¬ (1000000000000 < v ∨ 1000000000000 < -v) → ∀ H2, Ex H H2 → D.rt (.int v) H2) →
        tSeq (tIfS (tTest (tOp (rI0 fun i j => .bl (decide (j < i))) (tCB (fun xs H Q => ∃ i, xs = [.int i] ∧ Q (.int (if i < 0 then -i else i)) H) (tCons (tVar 1) tNil)) (tC (.int 1000000000000)))) (fun _ _ H => E (.ref C) none H) tNext) (tRet (tVar 1)) D [some (.str z), some (.int v)] H1 := fun D v H1 e1 k1 k2 =>
      q_when (et_gt (ev_abs (ev_var rfl)) ev_c) (fun hb H2 e2 => k1 (by have hb := of_decide_eq_true hb; split at hb <;> omega) H2 (e1.trans e2)) fun hb H2 e2 => s_ret (ev_var rfl) fun H3 e3 => k2 (by have hb := of_decide_eq_false hb; split at hb <;> omega) H3 ((e1.trans e2).trans e3)
    by_cases h0 : cutS z none (some 1) = ("-" : Str)
    · have en := numO_minus h0
      refine q_if (b := true) (et_is (et_eqS (ev_cutS (ev_var rfl) eo_none (eo_some ev_c) (by omega)) ev_c) (decide_eq_true h0)) (fun _ H1 e1 => ?_) (fun hb => nomatch hb)
      refine q_callNeg (ea_cons (ev_cutS (ev_var rfl) (eo_some ev_c) eo_none (by omega)) ea_nil) fun H2 e2 => ?_
      have e2 := e1.trans e2
      refine ⟨_, rfl, by omega, fun v hv H3 e3 => ?_, fun hno H3 e3 => qE (by rw [en, hno]) H3 (e2.trans e3)⟩
      rw [hv] at en
      have en : numO z = if v < 1 ∨ 1000000000000 < v then none else some (-v) := en
      have v0 := figO_nonneg hv
      refine ⟨v, rfl, ?_⟩
      refine s_when (et_eq (ev_var rfl) ev_c) (fun hb H4 e4 => ?_) (fun hb H4 e4 => ?_)
      · have := of_decide_eq_true hb
        exact qE (by rw [en, if_pos (Or.inl (by omega))]) H4 ((e2.trans e3).trans e4)
      · have hb := of_decide_eq_false hb
        exact rest _ (-v) H4 ((e2.trans e3).trans e4) (fun h => qE (by rw [en, if_pos (Or.inr (by omega))])) (fun h => q _ (by rw [en, if_neg (by omega)]))
    · have en := numO_plain h0
      refine q_if (b := false) (et_is (et_eqS (ev_cutS (ev_var rfl) eo_none (eo_some ev_c) (by omega)) ev_c) (decide_eq_false h0)) (fun hb => nomatch hb) fun _ H1 e1 => ?_
      refine s_call (ea_cons (ev_var rfl) ea_nil) fun H2 e2 => ?_
      have e2 := e1.trans e2
      refine ⟨_, rfl, by omega, fun v hv H3 e3 => ?_, fun hno H3 e3 => qE (by rw [en, hno]) H3 (e2.trans e3)⟩
      rw [hv] at en
      have en : numO z = if 1000000000000 < v then none else some v := en
      have v0 := figO_nonneg hv
      exact rest _ v H3 (e2.trans e3) (fun h => qE (by rw [en, if_pos (by omega)])) (fun h => q _ (by rw [en, if_neg (by omega)]))
theorem okread {C : Addr} (T : Top K mg "read" sread ["text"]) (nb : NB mg) (cGREATEST : Cst mg "GREATEST" (.int 24) (Value.int 24 tGREATEST)) (cLENGTH : Cst mg "LENGTH" (.int 60) (Value.int 60 tLENGTH)) (xBadText : Exc K mg "BadText" C) (cfigures_of : CalE P w K mg base "figures_of" 1 ["word"] (spFigX C)) (cnumber_of : CalE P w K mg base "number_of" 2 ["word"] (spNumX C)) :
    CalE P w K mg base "read" 3 ["text"] (spReadX C) := by
  obtain ⟨f, fd, F, hm, hb⟩ := T
  refine ⟨f, fd, F.okX scread (fun vs H Q E h => ?_) (fun cdv A outer s H vs Q E hr h => ?_), hm, F.kp, hb⟩
  · obtain ⟨z, rfl, _⟩ := h
    rfl
  · obtain ⟨z, rfl, hz, q, qE⟩ := h
    refine ⟨_, (pss_cons (ps_set (i := 1) scread.nd rfl (Or.inl rfl) (pe_m1 PySem.F.slot_str_find PySem.F.type_str_find mt_find (pv 0) pe_str))
      (pss_cons (ps_if (pt_cmpR op_lt (pv 1) pe_int (nomark _)) (pss_one (ps_raise rfl (takes_of rfl rfl rfl rfl) (pmk_own PySem.F.excBase_ValueError xBadText.x xBadText.gC xBadText.k (raises_own xBadText.b xBadText.t) rfl))) pss_nil)
      (pss_cons (ps_set (i := 2) scread.nd rfl (Or.inl rfl) (pe_cal cfigures_of (hr.mono (by decide)) (passes_call (takes_of rfl rfl rfl rfl) (fun _ _ _ _ h => h)) (pa_cons (pe_slice sl_str (pv 0) po_none (po_some (pv 1))) pa_nil)))
      (pss_cons (ps_set (i := 3) scread.nd rfl (Or.inl rfl) (pe_split (pe_slice sl_str (pv 0) (po_some (pe_op op_add (pv 1) pe_int)) po_none) pe_str))
      (pss_cons (ps_if (PW.pt (pw_or (pt_cmpR op_lt (pv 2) pe_int (nomark _)) (pw_or (pt_cmpR op_gt (pv 2) (pe_glob (by rfl) cGREATEST.gm cGREATEST.rel) (nomark _)) (pw_or (pt_cmpR op_ne (pe_ix (k_ixL K) (pv 3) pe_int (fun _ _ => rfl)) pe_str (nomark _)) (pw_or1 (pt_cmpR op_gt (pe_callB (k_len K) (by rfl) nb.len (by decide +kernel) (pa_cons (pv 3) pa_nil)) (pe_op op_add (pe_glob (by rfl) cLENGTH.gm cLENGTH.rel) pe_int) (nomark _))))))) (pss_one (ps_raise rfl (takes_of rfl rfl rfl rfl) (pmk_own PySem.F.excBase_ValueError xBadText.x xBadText.gC xBadText.k (raises_own xBadText.b xBadText.t) rfl))) pss_nil)
      (pss_one (ps_ret (pe_tup (pa_cons (pe_lcX (own := [("word", 4)]) (g := gName 4) (tt := tYes) (E := E) rfl rfl (takes_of rfl rfl rfl rfl) (fun _ _ _ _ h => h) rfl scread.nd (k_list K (pe_slice (k_slL K) (pv 3) (po_some pe_int) po_none)) (blkOk_by (by kernel_rfl)) (fun _ _ _ _ _ => pg_name (i := 4) scread.nd rfl (Or.inl rfl)) (fun _ _ _ _ _ => pts_nil) (fun _ _ _ _ _ xe hx => (pe_cal cnumber_of (hr.mono (by decide)) hx (pa_cons (pv 4) pa_nil)))) (pa_cons (pv 2) pa_nil)))))))))), ?_⟩
    generalize hk : Txt.find z (":" : Str) = k
    refine q_asg (v := .int k) (ev_int (ev_find (ev_var rfl) ev_c) hk) fun H1 e1 => ?_
    refine q_when (et_lt (ev_var rfl) ev_c) (fun hb H2 e2 => qE (readO_colon (by rw [hk]; exact of_decide_eq_true hb)) H2 (e1.trans e2)) fun hb0 H2 e2 => ?_
    have hb0 : ¬ Txt.find z (":" : Str) < 0 := by rw [hk]; exact of_decide_eq_false hb0
    have hc1 := cutS_length z none (some k)
    have hc2 := cutS_length z (some (k + 1)) none
    refine q_call (ea_cons (ev_cutS (ev_var rfl) eo_none (eo_some (ev_var rfl)) (by omega)) ea_nil) fun H3 e3 => ?_
    have e3 := (e1.trans e2).trans e3
    refine ⟨_, rfl, by omega, fun n hn H4 e4 => ?_, fun hno H4 e4 => qE (readO_round (by rw [hk]; exact hno)) H4 (e3.trans e4)⟩
    have e4 := e3.trans e4
    have hn' : figO (cutS z none (some (Txt.find z (":" : Str)))) = some n := by rw [hk]; exact hn
    have hwo : Txt.split (cutS z (some (k + 1)) none) (" " : Str) = wordsOf z := by unfold wordsOf; rw [hk]
    refine q_asgL (xs := (wordsOf z).map V.str) (by
      rw [← hwo]
      exact el_split (ev_cutS (ev_var rfl) (eo_some (ev_add (ev_var rfl) ev_c)) eo_none (by omega)) ev_c (by decide +kernel) (by omega)) fun p H5 n5 e5 h5 => ?_
    have e5 := e4.trans e5
    have hpos : 1 ≤ (wordsOf z).length := by rw [← hwo]; exact split_pos _ _
    have hle : (wordsOf z).length ≤ 5002 := by rw [← hwo]; have := split_le (cutS z (some (k + 1)) none) (" " : Str); omega
    have hwl : ∀ w ∈ wordsOf z, w.length ≤ 5000 := fun w hw => by
      rw [← hwo] at hw
      have := part_short hw
      omega
    obtain ⟨w0, hw0⟩ : ∃ w0, (wordsOf z)[0]? = some w0 := ⟨_, List.getElem?_eq_getElem (by omega)⟩
    have ix0 : atI ((wordsOf z).map V.str) 0 = some (.str w0) := atI_nat (j := 0) (by rw [List.getElem?_map, hw0]; rfl)
    refine q_when (et_or (et_lt (ev_var rfl) ev_c) fun _ => et_or (et_gt (ev_var rfl) ev_c) fun _ => et_or (et_neS (ev_itemL (K := K) (ev_var rfl) ev_c (sq_of h5) ix0) ev_c) fun _ => et_gt (ev_lenL (K := K) (ev_var rfl) (sq_of h5)) (ev_add ev_c ev_c)) (fun hb H6 e6 => ?_) fun hb H6 e6 => ?_
    · refine qE (readO_bad hn' ?_) H6 (e5.trans e6)
      rw [Bool.or_eq_true, Bool.or_eq_true, Bool.or_eq_true, decide_eq_true_iff, decide_eq_true_iff, decide_eq_true_iff, List.length_map] at hb
      rcases hb with hb | hb | hb | hb
      · exact Or.inl hb
      · exact Or.inr (Or.inl hb)
      · refine Or.inr (Or.inr (Or.inl fun e => ?_))
        rw [hw0] at e
        cases e
        rw [decide_eq_true rfl] at hb
        cases hb
      · exact Or.inr (Or.inr (Or.inr (by omega)))
    · have hgood : ¬ (n < 1 ∨ 24 < n ∨ (wordsOf z)[0]? ≠ some ("" : Str) ∨ 61 < (wordsOf z).length) := by
        rw [Bool.or_eq_false_iff, Bool.or_eq_false_iff, Bool.or_eq_false_iff, decide_eq_false_iff_not, decide_eq_false_iff_not, decide_eq_false_iff_not, List.length_map] at hb
        obtain ⟨b1, b2, b3, b4⟩ := hb
        rintro (h | h | h | h)
        · exact b1 h
        · exact b2 h
        · refine h ?_
          rw [hw0]
          rw [Bool.not_eq_false', decide_eq_true_iff] at b3
          rw [b3]
        · omega
      have hread := readO_good hb0 hn' hgood
      have h6 := e6 _ _ h5
      have e6 := e5.trans e6
      generalize hws : (wordsOf z).drop 1 = ws at hread
      have hwsl : ws.length ≤ 5002 := by rw [← hws, List.length_drop]; omega
      have hcut : cutV ((wordsOf z).map V.str) (some 1) none = ws.map V.str := by
        unfold cutV
        rw [show HT.sIx ((wordsOf z).map V.str).length 0 (some 1) = min 1 ((wordsOf z).map V.str).length from HT.sIx_nat _ _ 1, List.length_map, Nat.min_eq_left hpos, ← List.map_drop, hws]
        show (ws.map V.str).take ((wordsOf z).length - 1) = _
        rw [List.take_of_length_le (by rw [List.length_map, ← hws, List.length_drop]; omega)]
      refine s_retTupLc (K := K) (xs := ws.map V.str) (by
        rw [← hcut]
        exact el_sl (ev_var rfl) (eo_some ev_c) eo_none (sq_of h6)) (fun x => rfl) (fun a l i H' => H l = none ∧ Ex H H' ∧ H' a = some (.lst (ws.map V.str)) ∧ a ≠ l ∧ ∃ vs : List Int, H' l = some (.lst (vs.map V.int)) ∧ vs.length = i ∧ nums (ws.take i) = some vs)
        (fun a l H7 hl e7 h7 h7' hal => ⟨fresh_back e6 hl, e6.trans e7, h7', hal, [], h7, rfl, by rw [List.take_zero]; rfl⟩) (fun a l i H7 h => sq_of h.2.2.1) ?_ ?_
      · rintro a l i x H7 hx ⟨nl, e7, ha, hal, vs, h7, hvl, hnum⟩
        rw [List.getElem?_map] at hx
        cases hwi : ws[i]? with
        | none => rw [hwi] at hx; cases hx
        | some wd =>
          rw [hwi] at hx
          have ex : x = V.str wd := (Option.some.inj hx).symm
          subst ex
          have hil := (List.getElem?_eq_some_iff.mp hwi).1
          have hwm := List.mem_of_getElem? hwi
          refine (ea_cons (ev_var rfl) ea_nil) H7 (Ex.refl H7) _ fun H8 e8 => ?_
          refine ⟨wd, rfl, hwl wd (by rw [← hws] at hwm; exact List.mem_of_mem_drop hwm), fun v hv H9 e9 => ?_, fun hno H9 e9 => qE ?_ H9 ((e7.trans e8).trans e9)⟩
          · have E9 := e8.trans e9
            refine ⟨_, E9 _ _ h7, sz_lt (by rw [List.length_map]; omega), nl, Ex.mut (e7.trans E9) nl, ?_, hal, vs ++ [v], ?_, by rw [List.length_append, hvl]; rfl, ?_⟩
            · rw [upd_ne hal]
              exact E9 _ _ ha
            · rw [upd_same, List.map_append]
              rfl
            · rw [List.take_add_one, hwi]
              exact nums_snoc hv hnum
          · rw [hread, nums_none hno hwm]
            rfl
      · rintro a l H7 ⟨nl, e7, ha, hal, vs, h7, hvl, hnum⟩
        rw [List.length_map, List.take_length] at hnum
        rw [hnum] at hread
        refine (ev_var rfl) H7 (Ex.refl H7) _ fun H8 e8 => ⟨by show 2 ≤ sizeLine; decide, fun p2 hp2 => ?_⟩
        exact q vs n hread p2 l _ (fresh_back (e7.trans e8) hp2) ((e7.trans e8).trans (Ex.new hp2)) upd_same ((Ex.new hp2) _ _ (e8 _ _ h7))
theorem oklaw_whole (T : Top K mg "_law_whole" slaw_whole ["found"]) (nb : NB mg) : Cal0 P w K mg base "_law_whole" 1 ["found"] spWhole := by
  obtain ⟨f, fd, F, hm, hb⟩ := T
  refine ⟨f, fd, F.ok sclaw_whole (fun vs H Q E h => ?_) (fun cdv A outer s H vs Q E hr h => ?_), hm, F.kp, hb⟩
  · obtain ⟨x, rfl, _⟩ := h
    rfl
  · obtain ⟨x, rfl, ⟨i, rfl⟩, q⟩ := h
    refine ⟨_, (pss_one (ps_ret (pe_and (pe_callB (k_isi K) (by rfl) nb.isinstance (by decide +kernel) (pa_cons (pv 0) (pa_cons (pe_bltn (v := .ty "int") (by rfl) nb.int (by decide +kernel) rfl) pa_nil))) (pe_one (pe_not (pe_callB (k_isi K) (by rfl) nb.isinstance (by decide +kernel) (pa_cons (pv 0) (pa_cons (pe_bltn (v := .ty "bool") (by rfl) nb.bool (by decide +kernel) rfl) pa_nil)))))))), ?_⟩
    exact s_ret (ev_andV (a := true) (b := true) (ev_isi (ev_var rfl) ev_c (ty_int i) (by decide +kernel)) fun _ =>
      ev_notV (a := false) (ev_isi (ev_var rfl) ev_c (ty_int i) (by decide +kernel))) fun H2 e2 => q.go e2
theorem oklaw_is_told (T : Top K mg "_law_is_told" slaw_is_told ["found", "numbers", "n"]) (nb : NB mg) (claw_whole : Cal0 P w K mg base "_law_whole" 1 ["found"] spWhole) : Cal0 P w K mg base "_law_is_told" 2 ["found", "numbers", "n"] (spTold K) := by
  obtain ⟨f, fd, F, hm, hb⟩ := T
  refine ⟨f, fd, F.ok sclaw_is_told (fun vs H Q E h => ?_) (fun cdv A outer s H vs Q E hr h => ?_), hm, F.kp, hb⟩
  · obtain ⟨p, q, b, xs, n, rfl, _⟩ := h
    rfl
  · obtain ⟨p, r, b, xs, n, rfl, hp, hr', hS, q⟩ := h
    refine ⟨_, (pss_cons (ps_if (PW.pt (pw_or (pt_not (pt_val (pe_callB (k_isi K) (by rfl) nb.isinstance (by decide +kernel) (pa_cons (pv 0) (pa_cons (pe_bltn (v := .ty "tuple") (by rfl) nb.tuple (by decide +kernel) rfl) pa_nil))))) (pw_or (pt_cmpR op_ne (pe_callB (k_len K) (by rfl) nb.len (by decide +kernel) (pa_cons (pv 0) pa_nil)) pe_int (nomark _)) (pw_or1 (pt_not (pt_val (pe_callB (k_isi K) (by rfl) nb.isinstance (by decide +kernel) (pa_cons (pe_ix (k_ixT K) (pv 0) pe_int (fun _ _ => rfl)) (pa_cons (pe_bltn (v := .ty "list") (by rfl) nb.list (by decide +kernel) rfl) pa_nil))))))))) (pss_one (ps_ret pe_bl)) pss_nil)
      (pss_cons (ps_for PassesOwn.never rfl (k_list K (pe_ix (k_ixT K) (pv 0) pe_int (fun _ _ => rfl))) (pg_name (i := 3) sclaw_is_told.nd rfl (Or.inl rfl)) (pss_one (ps_if (pt_not (pt_val (pe_cal claw_whole (hr.mono (by decide)) pass0 (pa_cons (pv 3) pa_nil)))) (pss_one (ps_ret pe_bl)) pss_nil)))
      (pss_one (ps_ret (pe_and (pe_cal claw_whole (hr.mono (by decide)) pass0 (pa_cons (pe_ix (k_ixT K) (pv 0) pe_int (fun _ _ => rfl)) pa_nil)) (pe_and (pe_cmpR (k_eqD K hr.units) (pe_ix (k_ixT K) (pv 0) pe_int (fun _ _ => rfl)) (pv 1) (nomark _)) (pe_one (pe_cmpR op_eq (pe_ix (k_ixT K) (pv 0) pe_int (fun _ _ => rfl)) (pv 2) (nomark _))))))))), ?_⟩
    have x0 : atI [V.ref r, V.int n] 0 = some (.ref r) := atI_nat (j := 0) rfl
    have x1 : atI [V.ref r, V.int n] 1 = some (.int n) := atI_nat (j := 1) rfl
    refine q_when (b := false) (et_or (a := false) (et_not (a := true) (et_B (ev_isi (K := K) (ev_var rfl) ev_c (ty_tup hp) (by decide +kernel)))) fun _ => et_or (a := false) (et_is (et_ne (ev_lenT (K := K) (ev_var rfl) (st_of hp)) ev_c) (by rfl)) fun _ =>
      et_not (a := true) (et_B (ev_isi (K := K) (ev_itemT (ev_var rfl) ev_c (st_of hp) x0) ev_c (ty_lst hr') (by decide +kernel)))) (fun hb => nomatch hb) fun _ H1 e1 => ?_
    refine q_forLn (K := K) (ev_itemT (ev_var rfl) ev_c (st_of (e1 _ _ hp)) x0) (sq_of (e1 _ _ hr')) (fun i σ' H' => ∃ y3 : Option V, σ' = [some (.ref p), some (.ref b), some (.int n), y3] ∧ Ex H H') (fun H2 e2 => ⟨none, rfl, e1.trans e2⟩) (fun i σ' H' _ h => by
      obtain ⟨_, _, e⟩ := h
      exact sq_of (e _ _ hr')) ?_ ?_
    · rintro i x σ' H' hx ⟨y3, rfl, e⟩
      obtain ⟨z, hz, rfl⟩ := int_at hx
      refine s_when (b := false) (et_not (a := true) (et_B (ev_call (ea_cons (ev_var rfl) ea_nil) spv_whole))) (fun hb => nomatch hb) fun _ H2 e2 => ⟨_, rfl, e.trans e2⟩
    · rintro σ' H' ⟨y3, rfl, e⟩
      have hp' := st_of (K := K) (e _ _ hp)
      refine s_ret (v := .bl true) (ev_is (ev_andV (ev_call (ea_cons (ev_itemT (ev_var rfl) ev_c hp' x1) ea_nil) spv_whole) fun _ => ev_andV (ev_op (ev_itemT (ev_var rfl) ev_c hp' x0) (ev_var rfl) (rv_eqL (sq_of (e _ _ hr')) (ex_l e hS))) fun _ => ev_eqI (ev_itemT (ev_var rfl) ev_c hp' x1) (ev_var rfl)) ?_) fun H2 e2 => q.go (e.trans e2)
      rw [decide_eq_true rfl, decide_eq_true rfl]
      rfl
theorem oklaw {C Cr R : Addr} {f : Addr} {fd : FuncData} (F : Fun K "law" "law" slaw f fd) (nb : NB mg) (xBadText : Exc K mg "BadText" C) (xBadRound : Exc K mg "BadRound" Cr) (xRestError : Exc K mg "RestError" R) (cg : Caught K mg C Cr R) (claw_cell_at : Cal0 P w K mg base "_law_cell_at" 1 ["script", "k"] (spCell K)) (claw_number_by : Cal0 P w K mg base "_law_number_by" 1 ["cell", "way"] spNumBy)
    (claw_text : Cal0 P w K mg base "_law_text" 1 ["numbers", "n"] (spShown K)) (claw_spoiled : Cal0 P w K mg base "_law_spoiled" 2 ["text", "cell"] spSpoil) (claw_due : Cal0 P w K mg base "_law_due" 3 ["text"] spDue) (cread : CalE P w K mg base "read" 3 ["text"] (spReadX C)) (claw_is_told : Cal0 P w K mg base "_law_is_told" 2 ["found", "numbers", "n"] (spTold K)) : FnOk P w K mg base CX0 4 f fd ["script"] (spLaw K) := by
  refine F.ok sclaw (fun vs H Q E h => ?_) (fun cdv A outer s H vs Q E hr h => ?_)
  · obtain ⟨a, ns, rfl, _⟩ := h
    rfl
  · obtain ⟨a, ns, rfl, hS, hlen, q⟩ := h
    refine ⟨_, (pss_cons (ps_set (i := 1) sclaw.nd rfl (Or.inl rfl) (pe_op op_add pe_int (pe_op op_mod (pe_cal claw_cell_at (hr.mono (by decide)) pass0 (pa_cons (pv 0) (pa_cons pe_int pa_nil))) pe_int)))
      (pss_cons (ps_set (i := 2) sclaw.nd rfl (Or.inr rfl) (pe_op op_mod (pe_cal claw_cell_at (hr.mono (by decide)) pass0 (pa_cons (pv 0) (pa_cons pe_int pa_nil))) pe_int))
      (pss_cons (ps_if (pt_cmpR op_eq (pe_op op_mod (pe_op op_fdivP (pe_cal claw_cell_at (hr.mono (by decide)) pass0 (pa_cons (pv 0) (pa_cons pe_int pa_nil))) pe_int) pe_int) pe_int (nomark _)) (pss_one (ps_set (i := 2) sclaw.nd rfl (Or.inr rfl) (pe_op op_add pe_int (pe_op op_mod (pe_op op_fdivP (pe_cal claw_cell_at (hr.mono (by decide)) pass0 (pa_cons (pv 0) (pa_cons pe_int pa_nil))) pe_int) pe_int)))) pss_nil)
      (pss_cons (ps_setLc (i := 3) (own := [("k", 9)]) (g := gName 9) (tt := tYes) rfl sclaw.nd rfl rfl (sw_true rfl rfl rfl (by decide +kernel)) (pi_range1 (by rfl) nb.range (pa_cons (pv 2) pa_nil)) (blkOk_by (by kernel_rfl)) (fun _ _ _ _ _ => pg_name (i := 9) sclaw.nd rfl (Or.inl rfl)) (fun _ _ _ _ _ => pts_nil) (fun _ _ _ _ _ => (pe_cal claw_number_by (hr.mono (by decide)) pass0 (pa_cons (pe_cal claw_cell_at (hr.mono (by decide)) pass0 (pa_cons (pv 0) (pa_cons (pe_op op_add pe_int (pv 9)) pa_nil))) (pa_cons (pe_op op_mod (pe_op op_add (pv 2) (pv 9)) pe_int) pa_nil)))))
      (pss_cons (ps_set (i := 4) sclaw.nd rfl (Or.inl rfl) (pe_cal claw_text (hr.mono (by decide)) pass0 (pa_cons (pv 3) (pa_cons (pv 1) pa_nil))))
      (pss_cut (ps_if (pt_cmpR op_gt (pe_op op_mod (pe_cal claw_cell_at (hr.mono (by decide)) pass0 (pa_cons (pv 0) (pa_cons pe_int pa_nil))) pe_int) pe_int (nomark _)) (pss_one (ps_set (i := 4) sclaw.nd rfl (Or.inl rfl) (pe_cal claw_spoiled (hr.mono (by decide)) pass0 (pa_cons (pv 4) (pa_cons (pe_op op_mod (pe_op op_fdivP (pe_cal claw_cell_at (hr.mono (by decide)) pass0 (pa_cons (pv 0) (pa_cons pe_int pa_nil))) pe_int) (pe_op op_pow pe_int pe_int)) pa_nil))))) pss_nil)
      (pss_cons (ps_set (i := 5) sclaw.nd rfl (Or.inl rfl) (pe_cal claw_due (hr.mono (by decide)) pass0 (pa_cons (pv 4) pa_nil)))
      (pss_cons (ps_set (i := 6) sclaw.nd rfl (Or.inl rfl) pe_non)
      (pss_cons (ps_set (i := 7) sclaw.nd rfl (Or.inl rfl) (pe_lst pa_nil))
      (pss_cons (ps_try_as (i := 8) (tb := fun W => tAsg (tCallS (spReadX C) (WE W) (tCons (tVar 4) tNil)) (gName 6)) (ts := tSuite K C Cr 8 7) (Wout := fun _ _ _ _ => False) rfl rfl sclaw.nd rfl rfl ⟨rfl, by decide, Or.inl xRestError.gC⟩ takes0
        (fun W pn xe tk _ => pss_one (ps_set (i := 6) sclaw.nd rfl (Or.inl rfl) (by exact (pe_calS cread (hr.mono (by decide)) (fun σ => passAt tk σ) (by exact (pa_cons (pv 4) pa_nil))))))
        (fun a oe cls d pn hz hf => suite_of hz fun hz => pss_one (ps_set (i := 7) sclaw.nd rfl (Or.inl rfl) (by exact (pe_lst (pa_cons (pe_callB (k_isE K cg.c hz hf) (by rfl) nb.isinstance (by decide +kernel) (pa_cons (pv 8) (pa_cons (pe_glob (by rfl) xBadText.gC rfl) pa_nil))) (pa_cons (pe_callB (k_isE K cg.c hz hf) (by rfl) nb.isinstance (by decide +kernel) (pa_cons (pv 8) (pa_cons (pe_bltn (v := .ty "ValueError") (by rfl) cg.ve (by decide +kernel) rfl) pa_nil))) (pa_cons (pe_callB (k_isE K cg.c hz hf) (by rfl) nb.isinstance (by decide +kernel) (pa_cons (pv 8) (pa_cons (pe_glob (by rfl) xBadRound.gC rfl) pa_nil))) pa_nil)))))))) 
      (pss_cons (ps_if (pt_cmpR op_isN (pv 5) pe_non (nomark _)) (pss_one (ps_ret (pe_cmpR (k_eqD K hr.units) (pv 7) (pe_lst (pa_cons pe_bl (pa_cons pe_bl (pa_cons pe_bl pa_nil)))) (nomark _)))) pss_nil)
      (pss_one (ps_ret (pe_and (pe_cmpR (k_eqD K hr.units) (pv 7) (pe_lst pa_nil) (nomark _)) (pe_one (pe_cal claw_is_told (hr.mono (by decide)) pass0 (pa_cons (pv 6) (pa_cons (pe_ix (k_ixT K) (pv 5) pe_int (fun _ _ => rfl)) (pa_cons (pe_ix (k_ixT K) (pv 5) pe_int (fun _ _ => rfl)) pa_nil))))))))))))))))))), ?_⟩
    have p12 : ∀ {σ : L2.St} {H : Hp}, Ev (tOp (rI CPow fun i j => .int (i ^ j.toNat)) (tC (.int 10)) (tC (.int 12))) σ H (.int 1000000000000) := ev_int (ev_pow ev_c ev_c ⟨by decide, by decide, by decide⟩) (by decide)
    refine q_asg (ev_add ev_c (ev_mod (ev_cell hS (Ex.refl H) (ev_var rfl) ev_c (by decide)) ev_c (by decide))) fun H1 e1 => ?_
    have hn := goodN_of (cell ns 0)
    generalize 1 + cell ns 0 % 24 = n at hn ⊢
    refine q_asg (ev_mod (ev_cell hS e1 (ev_var rfl) ev_c (by decide)) ev_c (by decide)) fun H2 e2 => ?_
    have e2 := e1.trans e2
    obtain ⟨c, hc, hcv⟩ : ∃ c : Nat, c ≤ 60 ∧ (c : Int) = if cell ns 1 / 9 % 8 = 1 then 58 + cell ns 1 / 72 % 3 else cell ns 1 % 9 := by
      by_cases h : cell ns 1 / 9 % 8 = 1
      · rw [if_pos h]
        exact ⟨(58 + cell ns 1 / 72 % 3).toNat, by omega, by omega⟩
      · rw [if_neg h]
        exact ⟨(cell ns 1 % 9).toNat, by omega, by omega⟩
    refine q_ifAsg (v := .int (c : Int)) (et_eq (ev_mod (ev_div (ev_cell hS e2 (ev_var rfl) ev_c (by decide)) ev_c (by decide) (by decide)) ev_c (by decide)) ev_c) (fun hb => ?_) (fun hb => ?_) fun H3 e3 => ?_
    · refine ev_int (ev_add ev_c (ev_mod (ev_div (ev_cell hS e2 (ev_var rfl) ev_c (by decide)) ev_c (by decide) (by decide)) ev_c (by decide))) ?_
      rw [hcv, if_pos (of_decide_eq_true hb)]
    · rw [hcv, if_neg (of_decide_eq_false hb)]
      rfl
    have e3 := e2.trans e3
    generalize hxs : ((List.range c).map fun k : Nat => numberBy (cell ns (3 + (k : Int))) (((c : Int) + (k : Int)) % 4)) = xs
    have hxl : xs.length = c := by rw [← hxs, List.length_map, List.length_range]
    have hbd : ∀ x ∈ xs, inB x := fun x hx => by
      rw [← hxs] at hx
      obtain ⟨k, _, rfl⟩ := List.mem_map.mp hx
      exact numberBy_le _ _
    refine q_asgL (xs := xs.map V.int) ?_ fun p4 H4 n4 e4 h4 => ?_
    · have g := el_lcR1 (σ := [some (.ref a), some (.int n), some (.int (c : Int)), none, none, none, none, none, none, none]) (H := H3) (j := 9) (vs := [9]) (t := tYes) (te := tCall spNumBy [] E0 (tCons (tCall (spCell K) [] E0 (tCons (tVar 0) (tCons (tOp (rI0 fun i j => .int (i + j)) (tC (.int 3)) (tVar 9)) tNil))) (tCons (tOp (rI (fun _ j => 0 < j) fun i j => .int (i % j)) (tOp (rI0 fun i j => .int (i + j)) (tVar 2) (tVar 9)) (tC (.int 4))) tNil))) (ta := tCons (tVar 2) tNil) (n := (c : Int))
        (fun _ => true) (fun i => V.int (numberBy (cell ns (3 + (i : Int))) (((c : Int) + (i : Int)) % 4))) (ea_cons (ev_var rfl) ea_nil) ⟨by omega, by omega⟩ (fun x => rfl) (fun i H2 _ _ => et_yes)
        (fun i H2 e _ _ => ev_call (ea_cons (ev_call (ea_cons (ev_var rfl) (ea_cons (ev_add ev_c (ev_var rfl)) ea_nil)) (spv_cell (ex_l (e3.trans e) hS) (by omega))) (ea_cons (ev_mod (ev_add (ev_var rfl) (ev_var rfl)) ev_c (by decide)) ea_nil)) spv_numBy)
      have eg : given ((c : Nat) : Int).toNat (fun _ => true) (fun i => V.int (numberBy (cell ns (3 + (i : Int))) (((c : Int) + (i : Int)) % 4))) = xs.map V.int := by
        unfold given
        rw [List.filter_eq_self.mpr fun _ _ => rfl, Int.toNat_natCast, ← hxs, List.map_map]
        rfl
      rw [eg] at g
      exact g
    have e4 := e3.trans e4
    refine q_asg (ev_call (ea_cons (ev_var rfl) (ea_cons (ev_var rfl) ea_nil)) (fun H1 e Q q E => ⟨p4, xs, n, rfl, sq_of (e _ _ h4), by omega, hn, hbd, fun H2 e2 => q H2 e2⟩ : SpV (spShown K) [.ref p4, .int n] H4 (.str (shownS n xs)))) fun H5 e5 => ?_
    have e5 := e4.trans e5
    have hls := shown_len hn (xs := xs) (by omega) hbd
    refine q_cut (M := fun σ' H' => ∃ z : Str, σ' = [some (.ref a), some (.int n), some (.int (c : Int)), some (.ref p4), some (.str z), none, none, none, none, none] ∧ z.length ≤ 5000) ?_ ?_
    · refine s_when (et_gt (ev_mod (ev_cell hS e5 (ev_var rfl) ev_c (by decide)) ev_c (by decide)) ev_c) (fun _ H6 e6 => ?_) fun _ H6 e6 => ⟨_, rfl, by omega⟩
      have e6 := e5.trans e6
      refine s_call (ea_cons (ev_var rfl) (ea_cons (ev_mod (ev_div (ev_cell hS e6 (ev_var rfl) ev_c (by decide)) ev_c (by decide) (by decide)) p12 (by decide)) ea_nil)) fun H7 e7 => ?_
      exact ⟨_, _, rfl, by omega, fun z' hz' H8 e8 => ⟨z', rfl, by omega⟩⟩
    · rintro σ' H6 ⟨z, rfl, hz⟩
      refine q_call (ea_cons (ev_var rfl) ea_nil) fun H7 e7 => ?_
      refine ⟨z, rfl, hz, fun ys m hread p q' H8 np e8 h8 h8' => ?_, fun hno H8 e8 => ?_⟩
      · refine q_asg ev_c fun H9 e9 => ?_
        refine q_asgL (el_lst ea_nil (by decide)) fun pm H10 nm e10 h10 => ?_
        refine q_tryAsg (ea_cons (ev_var rfl) ea_nil) fun H11 e11 => ?_
        refine ⟨z, rfl, hz, fun ys2 m2 hread2 p2 q2 H12 np2 e12 h12 h12' => ?_, fun hno => by rw [hread] at hno; cases hno⟩
        rw [hread] at hread2
        cases hread2
        have E12 := e11.trans e12
        have hp := E12 _ _ (e10 _ _ (e9 _ _ h8))
        have hq := E12 _ _ (e10 _ _ (e9 _ _ h8'))
        have hm := E12 _ _ h10
        refine q_when (b := false) (et_is (et_isN (ev_var rfl)) rfl) (fun h => nomatch h) fun _ H13 e13 => ?_
        have x0 : atI [V.ref q', V.int m] 0 = some (.ref q') := atI_nat (j := 0) rfl
        have x1 : atI [V.ref q', V.int m] 1 = some (.int m) := atI_nat (j := 1) rfl
        have hp' := st_of (K := K) (e13 _ _ hp)
        refine s_ret (v := .bl true) (ev_is (ev_andV (ev_opL (ev_var rfl) (el_lst (vs := []) ea_nil (by decide)) fun pe H14 h14 e14 => rv_eqL (K := K) (ns := []) (ms := []) (sq_of (e14 _ _ (e13 _ _ hm))) (sq_of h14)) fun _ =>
          ev_call (ea_cons (ev_var rfl) (ea_cons (ev_itemT (K := K) (ev_var rfl) ev_c hp' x0) (ea_cons (ev_itemT (K := K) (ev_var rfl) ev_c hp' x1) ea_nil))) (fun H1 e Q q E => ⟨p2, q2, q', ys, m, rfl, e _ _ (e13 _ _ h12), e _ _ (e13 _ _ h12'), sq_of (e _ _ (e13 _ _ hq)), fun H2 e2 => q H2 e2⟩ : SpV (spTold K) [.ref p2, .ref q', .int m] H13 (.bl true))) rfl) fun H14 e14 => q H14
      · refine q_asg ev_c fun H9 e9 => ?_
        refine q_asgL (el_lst ea_nil (by decide)) fun pm H10 nm e10 h10 => ?_
        refine q_tryAsg (ea_cons (ev_var rfl) ea_nil) fun H11 e11 => ?_
        refine ⟨z, rfl, hz, (fun ys2 m2 hread2 => by rw [hno] at hread2; cases hread2), fun _ H12 e12 => ?_⟩
        refine ⟨true, cg.ex, fun _ a0 _ => s_marks cg rfl fun p H13 hp e13 h13 => ?_, fun h => nomatch h⟩
        refine q_when (σ := [some (.ref a), some (.int n), some (.int (c : Int)), some (.ref p4), some (.str z), some .non, some .non, some (.ref p), none, none]) (b := true) (et_is (et_isN (ev_var rfl)) rfl) (fun _ H14 e14 => ?_) (fun h => nomatch h)
        exact s_ret (v := .bl true) (ev_opL (ev_var rfl) (el_lst (vs := marksV) (ea_cons ev_c (ea_cons ev_c (ea_cons ev_c ea_nil))) (by show (3 : Nat) ≤ 100000; decide)) fun pe H15 h15 e15 => rv_eqM (K := K) (sq_of (e15 _ _ (e14 _ _ h13))) (sq_of h15)) fun H15 e15 => q H15
end
theorem all_mk {l : PySem.W.OpenLaw} {w : World} {K : PySem.W.Frag} {h : Heap} {mg : Str → Option Value} {fa : Addr} {f1 f2 f3 f4 f5 f6 f7 f8 f9 f10 f11 f12 f13 f14 f15 f16 CRestError CBadRound CBadText : Addr} (X : K.In h) (G : h.Ns mainGlobals mg) (hfa : mg "law" = some (.ref fa))
    {od1 an1 : Option Addr} {sl1 : Array (Option Value)} {oc1 kV1 dc1 pm1 cd1 ct1 : Value}
    (a1 : PySem.W.nsIn K mainGlobals "_law_text" = some (some (.ref f1))) (l1 : K.lookup f1 = some ⟨oc1, od1, .func (PySem.W.fnOf "_law_text" "_law_text" (defArgs slaw_text) (defBody slaw_text) (defScope slaw_text) .none kV1 dc1 pm1 an1 cd1 ct1), sl1⟩) (c1 : PySem.W.codeIn K cd1 "_law_text" = true) (k1 : PySem.W.keepIn K (.ref f1) = true)
    {od2 an2 : Option Addr} {sl2 : Array (Option Value)} {oc2 kV2 dc2 pm2 cd2 ct2 : Value}
    (a2 : PySem.W.nsIn K mainGlobals "_law_figures" = some (some (.ref f2))) (l2 : K.lookup f2 = some ⟨oc2, od2, .func (PySem.W.fnOf "_law_figures" "_law_figures" (defArgs slaw_figures) (defBody slaw_figures) (defScope slaw_figures) .none kV2 dc2 pm2 an2 cd2 ct2), sl2⟩) (c2 : PySem.W.codeIn K cd2 "_law_figures" = true) (k2 : PySem.W.keepIn K (.ref f2) = true)
    {od3 an3 : Option Addr} {sl3 : Array (Option Value)} {oc3 kV3 dc3 pm3 cd3 ct3 : Value}
    (a3 : PySem.W.nsIn K mainGlobals "_law_number_of" = some (some (.ref f3))) (l3 : K.lookup f3 = some ⟨oc3, od3, .func (PySem.W.fnOf "_law_number_of" "_law_number_of" (defArgs slaw_number_of) (defBody slaw_number_of) (defScope slaw_number_of) .none kV3 dc3 pm3 an3 cd3 ct3), sl3⟩) (c3 : PySem.W.codeIn K cd3 "_law_number_of" = true) (k3 : PySem.W.keepIn K (.ref f3) = true)
    {od4 an4 : Option Addr} {sl4 : Array (Option Value)} {oc4 kV4 dc4 pm4 cd4 ct4 : Value}
    (a4 : PySem.W.nsIn K mainGlobals "_law_due" = some (some (.ref f4))) (l4 : K.lookup f4 = some ⟨oc4, od4, .func (PySem.W.fnOf "_law_due" "_law_due" (defArgs slaw_due) (defBody slaw_due) (defScope slaw_due) .none kV4 dc4 pm4 an4 cd4 ct4), sl4⟩) (c4 : PySem.W.codeIn K cd4 "_law_due" = true) (k4 : PySem.W.keepIn K (.ref f4) = true)
    {od5 an5 : Option Addr} {sl5 : Array (Option Value)} {oc5 kV5 dc5 pm5 cd5 ct5 : Value}
    (a5 : PySem.W.nsIn K mainGlobals "_law_cell_at" = some (some (.ref f5))) (l5 : K.lookup f5 = some ⟨oc5, od5, .func (PySem.W.fnOf "_law_cell_at" "_law_cell_at" (defArgs slaw_cell_at) (defBody slaw_cell_at) (defScope slaw_cell_at) .none kV5 dc5 pm5 an5 cd5 ct5), sl5⟩) (c5 : PySem.W.codeIn K cd5 "_law_cell_at" = true) (k5 : PySem.W.keepIn K (.ref f5) = true)
    {od6 an6 : Option Addr} {sl6 : Array (Option Value)} {oc6 kV6 dc6 pm6 cd6 ct6 : Value}
    (a6 : PySem.W.nsIn K mainGlobals "_law_number_by" = some (some (.ref f6))) (l6 : K.lookup f6 = some ⟨oc6, od6, .func (PySem.W.fnOf "_law_number_by" "_law_number_by" (defArgs slaw_number_by) (defBody slaw_number_by) (defScope slaw_number_by) .none kV6 dc6 pm6 an6 cd6 ct6), sl6⟩) (c6 : PySem.W.codeIn K cd6 "_law_number_by" = true) (k6 : PySem.W.keepIn K (.ref f6) = true)
    {od7 an7 : Option Addr} {sl7 : Array (Option Value)} {oc7 kV7 dc7 pm7 cd7 ct7 : Value}
    (a7 : PySem.W.nsIn K mainGlobals "_law_word_by" = some (some (.ref f7))) (l7 : K.lookup f7 = some ⟨oc7, od7, .func (PySem.W.fnOf "_law_word_by" "_law_word_by" (defArgs slaw_word_by) (defBody slaw_word_by) (defScope slaw_word_by) .none kV7 dc7 pm7 an7 cd7 ct7), sl7⟩) (c7 : PySem.W.codeIn K cd7 "_law_word_by" = true) (k7 : PySem.W.keepIn K (.ref f7) = true)
    {od8 an8 : Option Addr} {sl8 : Array (Option Value)} {oc8 kV8 dc8 pm8 cd8 ct8 : Value}
    (a8 : PySem.W.nsIn K mainGlobals "_law_round_by" = some (some (.ref f8))) (l8 : K.lookup f8 = some ⟨oc8, od8, .func (PySem.W.fnOf "_law_round_by" "_law_round_by" (defArgs slaw_round_by) (defBody slaw_round_by) (defScope slaw_round_by) .none kV8 dc8 pm8 an8 cd8 ct8), sl8⟩) (c8 : PySem.W.codeIn K cd8 "_law_round_by" = true) (k8 : PySem.W.keepIn K (.ref f8) = true)
    {od9 an9 : Option Addr} {sl9 : Array (Option Value)} {oc9 kV9 dc9 pm9 cd9 ct9 : Value}
    (a9 : PySem.W.nsIn K mainGlobals "_law_sign_by" = some (some (.ref f9))) (l9 : K.lookup f9 = some ⟨oc9, od9, .func (PySem.W.fnOf "_law_sign_by" "_law_sign_by" (defArgs slaw_sign_by) (defBody slaw_sign_by) (defScope slaw_sign_by) .none kV9 dc9 pm9 an9 cd9 ct9), sl9⟩) (c9 : PySem.W.codeIn K cd9 "_law_sign_by" = true) (k9 : PySem.W.keepIn K (.ref f9) = true)
    {od10 an10 : Option Addr} {sl10 : Array (Option Value)} {oc10 kV10 dc10 pm10 cd10 ct10 : Value}
    (a10 : PySem.W.nsIn K mainGlobals "_law_spoiled" = some (some (.ref f10))) (l10 : K.lookup f10 = some ⟨oc10, od10, .func (PySem.W.fnOf "_law_spoiled" "_law_spoiled" (defArgs slaw_spoiled) (defBody slaw_spoiled) (defScope slaw_spoiled) .none kV10 dc10 pm10 an10 cd10 ct10), sl10⟩) (c10 : PySem.W.codeIn K cd10 "_law_spoiled" = true) (k10 : PySem.W.keepIn K (.ref f10) = true)
    {od11 an11 : Option Addr} {sl11 : Array (Option Value)} {oc11 kV11 dc11 pm11 cd11 ct11 : Value}
    (a11 : PySem.W.nsIn K mainGlobals "figures_of" = some (some (.ref f11))) (l11 : K.lookup f11 = some ⟨oc11, od11, .func (PySem.W.fnOf "figures_of" "figures_of" (defArgs sfigures_of) (defBody sfigures_of) (defScope sfigures_of) .none kV11 dc11 pm11 an11 cd11 ct11), sl11⟩) (c11 : PySem.W.codeIn K cd11 "figures_of" = true) (k11 : PySem.W.keepIn K (.ref f11) = true)
    {od12 an12 : Option Addr} {sl12 : Array (Option Value)} {oc12 kV12 dc12 pm12 cd12 ct12 : Value}
    (a12 : PySem.W.nsIn K mainGlobals "number_of" = some (some (.ref f12))) (l12 : K.lookup f12 = some ⟨oc12, od12, .func (PySem.W.fnOf "number_of" "number_of" (defArgs snumber_of) (defBody snumber_of) (defScope snumber_of) .none kV12 dc12 pm12 an12 cd12 ct12), sl12⟩) (c12 : PySem.W.codeIn K cd12 "number_of" = true) (k12 : PySem.W.keepIn K (.ref f12) = true)
    {od13 an13 : Option Addr} {sl13 : Array (Option Value)} {oc13 kV13 dc13 pm13 cd13 ct13 : Value}
    (a13 : PySem.W.nsIn K mainGlobals "read" = some (some (.ref f13))) (l13 : K.lookup f13 = some ⟨oc13, od13, .func (PySem.W.fnOf "read" "read" (defArgs sread) (defBody sread) (defScope sread) .none kV13 dc13 pm13 an13 cd13 ct13), sl13⟩) (c13 : PySem.W.codeIn K cd13 "read" = true) (k13 : PySem.W.keepIn K (.ref f13) = true)
    {od14 an14 : Option Addr} {sl14 : Array (Option Value)} {oc14 kV14 dc14 pm14 cd14 ct14 : Value}
    (a14 : PySem.W.nsIn K mainGlobals "_law_whole" = some (some (.ref f14))) (l14 : K.lookup f14 = some ⟨oc14, od14, .func (PySem.W.fnOf "_law_whole" "_law_whole" (defArgs slaw_whole) (defBody slaw_whole) (defScope slaw_whole) .none kV14 dc14 pm14 an14 cd14 ct14), sl14⟩) (c14 : PySem.W.codeIn K cd14 "_law_whole" = true) (k14 : PySem.W.keepIn K (.ref f14) = true)
    {od15 an15 : Option Addr} {sl15 : Array (Option Value)} {oc15 kV15 dc15 pm15 cd15 ct15 : Value}
    (a15 : PySem.W.nsIn K mainGlobals "_law_is_told" = some (some (.ref f15))) (l15 : K.lookup f15 = some ⟨oc15, od15, .func (PySem.W.fnOf "_law_is_told" "_law_is_told" (defArgs slaw_is_told) (defBody slaw_is_told) (defScope slaw_is_told) .none kV15 dc15 pm15 an15 cd15 ct15), sl15⟩) (c15 : PySem.W.codeIn K cd15 "_law_is_told" = true) (k15 : PySem.W.keepIn K (.ref f15) = true)
    {od16 an16 : Option Addr} {sl16 : Array (Option Value)} {oc16 kV16 dc16 pm16 cd16 ct16 : Value}
    (a16 : PySem.W.nsIn K mainGlobals "law" = some (some (.ref f16))) (l16 : K.lookup f16 = some ⟨oc16, od16, .func (PySem.W.fnOf "law" "law" (defArgs slaw) (defBody slaw) (defScope slaw) .none kV16 dc16 pm16 an16 cd16 ct16), sl16⟩) (c16 : PySem.W.codeIn K cd16 "law" = true) (k16 : PySem.W.keepIn K (.ref f16) = true)
    (z1 : PySem.W.nsIn K mainGlobals "len" = some none)
    (z2 : PySem.W.nsIn K mainGlobals "range" = some none)
    (z3 : PySem.W.nsIn K mainGlobals "sorted" = some none)
    (z4 : PySem.W.nsIn K mainGlobals "set" = some none)
    (z5 : PySem.W.nsIn K mainGlobals "list" = some none)
    (z6 : PySem.W.nsIn K mainGlobals "dict" = some none)
    (z7 : PySem.W.nsIn K mainGlobals "sum" = some none)
    (z8 : PySem.W.nsIn K mainGlobals "min" = some none)
    (z9 : PySem.W.nsIn K mainGlobals "max" = some none)
    (z10 : PySem.W.nsIn K mainGlobals "abs" = some none)
    (z11 : PySem.W.nsIn K mainGlobals "isinstance" = some none)
    (z12 : PySem.W.nsIn K mainGlobals "str" = some none)
    (z13 : PySem.W.nsIn K mainGlobals "int" = some none)
    (z14 : PySem.W.nsIn K mainGlobals "bool" = some none)
    (z15 : PySem.W.nsIn K mainGlobals "tuple" = some none)
    {tGREATEST : Tok} (gGREATEST : PySem.W.nsIn K mainGlobals "GREATEST" = some (some (Value.int 24 tGREATEST)))
    {tFIGURES : Tok} (gFIGURES : PySem.W.nsIn K mainGlobals "FIGURES" = some (some (Value.str ("0123456789" : Str) tFIGURES)))
    {tMOST : Tok} (gMOST : PySem.W.nsIn K mainGlobals "MOST" = some (some (Value.int 1000000000000 tMOST)))
    {tLENGTH : Tok} (gLENGTH : PySem.W.nsIn K mainGlobals "LENGTH" = some (some (Value.int 60 tLENGTH)))
    (gRestError : PySem.W.nsIn K mainGlobals "RestError" = some (some (.ref CRestError))) (xRestError : PySem.W.excIn K CRestError [.type "ValueError", .type "Exception", .type "BaseException", .type "object"] "ValueError.__new__" = true) (yRestError : PySem.W.keepIn K (.ref CRestError) = true) (bRestError : PySem.W.subIn K (.ref CRestError) (.type "BaseException") = some true) (tRestError : PySem.W.typeIn K (.ref CRestError) = some (.type "type"))
    (gBadRound : PySem.W.nsIn K mainGlobals "BadRound" = some (some (.ref CBadRound))) (xBadRound : PySem.W.excIn K CBadRound [.type "ValueError", .type "Exception", .type "BaseException", .type "object"] "ValueError.__new__" = true) (yBadRound : PySem.W.keepIn K (.ref CBadRound) = true) (bBadRound : PySem.W.subIn K (.ref CBadRound) (.type "BaseException") = some true) (tBadRound : PySem.W.typeIn K (.ref CBadRound) = some (.type "type"))
    (gBadText : PySem.W.nsIn K mainGlobals "BadText" = some (some (.ref CBadText))) (xBadText : PySem.W.excIn K CBadText [.type "ValueError", .type "Exception", .type "BaseException", .type "object"] "ValueError.__new__" = true) (yBadText : PySem.W.keepIn K (.ref CBadText) = true) (bBadText : PySem.W.subIn K (.ref CBadText) (.type "BaseException") = some true) (tBadText : PySem.W.typeIn K (.ref CBadText) = some (.type "type"))
    (zVE : PySem.W.nsIn K mainGlobals "ValueError" = some none)
    (dRE : PySem.W.hasDictIn K CRestError = true)
    (sRE : PySem.W.subIn K (.ref CBadText) (.ref CRestError) = some true)
    (m1 : PySem.W.findIn K (.ref CBadText) "__getattribute__" = some (some (.builtin "BaseException.__getattribute__")))
    (m2 : PySem.W.findIn K (.ref CBadText) "__getattr__" = some none)
    (m4 : PySem.W.hasDictIn K CBadText = true)
    (m5 : PySem.W.findIn K (.ref CBadText) "__class__" = some (some (.builtin "object.__class__")))
    (m6 : PySem.W.specialIn K (.builtin "object.__class__") "__get__" = some (some (.builtin "getset_descriptor.__get__")))
    (m7 : PySem.W.takesIn K (.builtin "object.__class__") = some true)
    (m8 : PySem.W.mroIn K CBadText (.type "object") = some true)
    (v1 : PySem.W.subIn K (.ref CBadText) (.type "ValueError") = some true)
    (v2 : PySem.W.subIn K (.ref CBadText) (.ref CBadRound) = some false)
    (v3 : PySem.W.subIn K (.ref CBadText) (.ref CBadText) = some true)
    (dBT : PySem.W.hasDictIn K CBadRound = true)
    : ∃ fd : FuncData, (∀ (s : Shared) (v : Value), BindsTo s fd ⟨[v], []⟩ [("script", v)]) ∧ ∀ base : Heap, K.In base → base.Ns mainGlobals mg → FnOk l.prog w K mg base CX0 4 fa fd ["script"] (spLaw K) := by
  have e := hfa.symm.trans (PySem.W.mg_of X G a16)
  cases e
  have nb : NB mg := ⟨PySem.W.mg_none_of X G z1, PySem.W.mg_none_of X G z2, PySem.W.mg_none_of X G z3, PySem.W.mg_none_of X G z4, PySem.W.mg_none_of X G z5, PySem.W.mg_none_of X G z6, PySem.W.mg_none_of X G z7, PySem.W.mg_none_of X G z8, PySem.W.mg_none_of X G z9, PySem.W.mg_none_of X G z10, PySem.W.mg_none_of X G z11, PySem.W.mg_none_of X G z12, PySem.W.mg_none_of X G z13, PySem.W.mg_none_of X G z14, PySem.W.mg_none_of X G z15⟩
  have cGREATEST : Cst mg "GREATEST" (.int 24) (Value.int 24 tGREATEST) := ⟨PySem.W.mg_of X G gGREATEST, ⟨_, rfl⟩⟩
  have cFIGURES : Cst mg "FIGURES" (.str ("0123456789" : Str)) (Value.str ("0123456789" : Str) tFIGURES) := ⟨PySem.W.mg_of X G gFIGURES, ⟨_, rfl⟩⟩
  have cMOST : Cst mg "MOST" (.int 1000000000000) (Value.int 1000000000000 tMOST) := ⟨PySem.W.mg_of X G gMOST, ⟨_, rfl⟩⟩
  have cLENGTH : Cst mg "LENGTH" (.int 60) (Value.int 60 tLENGTH) := ⟨PySem.W.mg_of X G gLENGTH, ⟨_, rfl⟩⟩
  have cg : Caught K mg CBadText CBadRound CRestError := ⟨PySem.W.mg_none_of X G zVE, PySem.W.exm_ref bRestError dRE tRestError sRE, ⟨m1, m2, bBadText, m4, m5, m6, m7, m8⟩, kit_self, kit_ve v1, kit_no v2 v3 dBT tBadRound⟩
  have xRestError : Exc K mg "RestError" CRestError := ⟨PySem.W.mg_of X G gRestError, xRestError, yRestError, bRestError, tRestError⟩
  have xBadRound : Exc K mg "BadRound" CBadRound := ⟨PySem.W.mg_of X G gBadRound, xBadRound, yBadRound, bBadRound, tBadRound⟩
  have xBadText : Exc K mg "BadText" CBadText := ⟨PySem.W.mg_of X G gBadText, xBadText, yBadText, bBadText, tBadText⟩
  have F1 := fun_mk (st := slaw_text) l1 c1 k1
  have Tlaw_text : Top K mg "_law_text" slaw_text ["numbers", "n"] := ⟨_, _, F1, PySem.W.mg_of X G a1, F1.binds fun _ _ _ _ _ _ us hl => match us, hl with | [_, _], _ => rfl⟩
  have F2 := fun_mk (st := slaw_figures) l2 c2 k2
  have Tlaw_figures : Top K mg "_law_figures" slaw_figures ["word"] := ⟨_, _, F2, PySem.W.mg_of X G a2, F2.binds fun _ _ _ _ _ _ us hl => match us, hl with | [_], _ => rfl⟩
  have F3 := fun_mk (st := slaw_number_of) l3 c3 k3
  have Tlaw_number_of : Top K mg "_law_number_of" slaw_number_of ["word"] := ⟨_, _, F3, PySem.W.mg_of X G a3, F3.binds fun _ _ _ _ _ _ us hl => match us, hl with | [_], _ => rfl⟩
  have F4 := fun_mk (st := slaw_due) l4 c4 k4
  have Tlaw_due : Top K mg "_law_due" slaw_due ["text"] := ⟨_, _, F4, PySem.W.mg_of X G a4, F4.binds fun _ _ _ _ _ _ us hl => match us, hl with | [_], _ => rfl⟩
  have F5 := fun_mk (st := slaw_cell_at) l5 c5 k5
  have Tlaw_cell_at : Top K mg "_law_cell_at" slaw_cell_at ["script", "k"] := ⟨_, _, F5, PySem.W.mg_of X G a5, F5.binds fun _ _ _ _ _ _ us hl => match us, hl with | [_, _], _ => rfl⟩
  have F6 := fun_mk (st := slaw_number_by) l6 c6 k6
  have Tlaw_number_by : Top K mg "_law_number_by" slaw_number_by ["cell", "way"] := ⟨_, _, F6, PySem.W.mg_of X G a6, F6.binds fun _ _ _ _ _ _ us hl => match us, hl with | [_, _], _ => rfl⟩
  have F7 := fun_mk (st := slaw_word_by) l7 c7 k7
  have Tlaw_word_by : Top K mg "_law_word_by" slaw_word_by ["cell"] := ⟨_, _, F7, PySem.W.mg_of X G a7, F7.binds fun _ _ _ _ _ _ us hl => match us, hl with | [_], _ => rfl⟩
  have F8 := fun_mk (st := slaw_round_by) l8 c8 k8
  have Tlaw_round_by : Top K mg "_law_round_by" slaw_round_by ["cell"] := ⟨_, _, F8, PySem.W.mg_of X G a8, F8.binds fun _ _ _ _ _ _ us hl => match us, hl with | [_], _ => rfl⟩
  have F9 := fun_mk (st := slaw_sign_by) l9 c9 k9
  have Tlaw_sign_by : Top K mg "_law_sign_by" slaw_sign_by ["cell"] := ⟨_, _, F9, PySem.W.mg_of X G a9, F9.binds fun _ _ _ _ _ _ us hl => match us, hl with | [_], _ => rfl⟩
  have F10 := fun_mk (st := slaw_spoiled) l10 c10 k10
  have Tlaw_spoiled : Top K mg "_law_spoiled" slaw_spoiled ["text", "cell"] := ⟨_, _, F10, PySem.W.mg_of X G a10, F10.binds fun _ _ _ _ _ _ us hl => match us, hl with | [_, _], _ => rfl⟩
  have F11 := fun_mk (st := sfigures_of) l11 c11 k11
  have Tfigures_of : Top K mg "figures_of" sfigures_of ["word"] := ⟨_, _, F11, PySem.W.mg_of X G a11, F11.binds fun _ _ _ _ _ _ us hl => match us, hl with | [_], _ => rfl⟩
  have F12 := fun_mk (st := snumber_of) l12 c12 k12
  have Tnumber_of : Top K mg "number_of" snumber_of ["word"] := ⟨_, _, F12, PySem.W.mg_of X G a12, F12.binds fun _ _ _ _ _ _ us hl => match us, hl with | [_], _ => rfl⟩
  have F13 := fun_mk (st := sread) l13 c13 k13
  have Tread : Top K mg "read" sread ["text"] := ⟨_, _, F13, PySem.W.mg_of X G a13, F13.binds fun _ _ _ _ _ _ us hl => match us, hl with | [_], _ => rfl⟩
  have F14 := fun_mk (st := slaw_whole) l14 c14 k14
  have Tlaw_whole : Top K mg "_law_whole" slaw_whole ["found"] := ⟨_, _, F14, PySem.W.mg_of X G a14, F14.binds fun _ _ _ _ _ _ us hl => match us, hl with | [_], _ => rfl⟩
  have F15 := fun_mk (st := slaw_is_told) l15 c15 k15
  have Tlaw_is_told : Top K mg "_law_is_told" slaw_is_told ["found", "numbers", "n"] := ⟨_, _, F15, PySem.W.mg_of X G a15, F15.binds fun _ _ _ _ _ _ us hl => match us, hl with | [_, _, _], _ => rfl⟩
  have F16 := fun_mk (st := slaw) l16 c16 k16
  have Tlaw : Top K mg "law" slaw ["script"] := ⟨_, _, F16, PySem.W.mg_of X G a16, F16.binds fun _ _ _ _ _ _ us hl => match us, hl with | [_], _ => rfl⟩
  refine ⟨PySem.W.fnOf "law" "law" (defArgs slaw) (defBody slaw) (defScope slaw) .none kV16 dc16 pm16 an16 cd16 ct16, fun s v => .of_eq rfl, fun base _ _ => ?_⟩
  have claw_text := oklaw_text (P := l.prog) (w := w) (base := base) Tlaw_text nb
  have claw_figures := oklaw_figures (P := l.prog) (w := w) (base := base) Tlaw_figures nb
  have claw_number_of := oklaw_number_of (P := l.prog) (w := w) (base := base) Tlaw_number_of nb claw_figures
  have claw_due := oklaw_due (P := l.prog) (w := w) (base := base) Tlaw_due nb claw_figures claw_number_of
  have claw_cell_at := oklaw_cell_at (P := l.prog) (w := w) (base := base) Tlaw_cell_at nb
  have claw_number_by := oklaw_number_by (P := l.prog) (w := w) (base := base) Tlaw_number_by
  have claw_word_by := oklaw_word_by (P := l.prog) (w := w) (base := base) Tlaw_word_by nb
  have claw_round_by := oklaw_round_by (P := l.prog) (w := w) (base := base) Tlaw_round_by nb
  have claw_sign_by := oklaw_sign_by (P := l.prog) (w := w) (base := base) Tlaw_sign_by nb
  have claw_spoiled := oklaw_spoiled (P := l.prog) (w := w) (base := base) Tlaw_spoiled nb claw_sign_by claw_word_by claw_round_by
  have cfigures_of := okfigures_of (P := l.prog) (w := w) (base := base) Tfigures_of nb cFIGURES xBadText
  have cnumber_of := oknumber_of (P := l.prog) (w := w) (base := base) Tnumber_of nb cMOST xBadText cfigures_of
  have cread := okread (P := l.prog) (w := w) (base := base) Tread nb cGREATEST cLENGTH xBadText cfigures_of cnumber_of
  have claw_whole := oklaw_whole (P := l.prog) (w := w) (base := base) Tlaw_whole nb
  have claw_is_told := oklaw_is_told (P := l.prog) (w := w) (base := base) Tlaw_is_told nb claw_whole
  exact oklaw F16 nb xBadText xBadRound xRestError cg claw_cell_at claw_number_by claw_text claw_spoiled claw_due cread claw_is_told
end Sr
open PySem PySem.W PyProof.Rows
set_option maxRecDepth 100000 in
set_option maxHeartbeats 0 in
theorem PySem.Challenge.cw_sumrests_k13_lists_read_or_refused_holds : PySem.Challenge.rw_sumrests_k13_lists_read_or_refused.Holds := by
  w_on; o_law; k_head; (case hw => w_witness2)
  k_fill
  refine L2.walk_of (l := PySem.Challenge.rw_sumrests_k13_lists_read_or_refused) (n := 63) (k := 4) (x := "script") (CX := fun _ => L2.CX0) (sp := fun w => Sr.spLaw _) rfl (by decide) rfl ⟨rfl, by decide, by decide⟩ (fun w h Y => PySem.W.kIn_of Y) ?F (fun _ _ a ns hl _ hS => ⟨a, ns, rfl, hS, hl, fun _ => rfl⟩) (fun _ _ _ _ _ h => h)
  case F =>
    intro w mg fa h KX G hmg
    refine' Sr.all_mk KX G hmg ?a1 ?l1 ?c1 ?k1 ?a2 ?l2 ?c2 ?k2 ?a3 ?l3 ?c3 ?k3 ?a4 ?l4 ?c4 ?k4 ?a5 ?l5 ?c5 ?k5 ?a6 ?l6 ?c6 ?k6 ?a7 ?l7 ?c7 ?k7 ?a8 ?l8 ?c8 ?k8 ?a9 ?l9 ?c9 ?k9 ?a10 ?l10 ?c10 ?k10 ?a11 ?l11 ?c11 ?k11 ?a12 ?l12 ?c12 ?k12 ?a13 ?l13 ?c13 ?k13 ?a14 ?l14 ?c14 ?k14 ?a15 ?l15 ?c15 ?k15 ?a16 ?l16 ?c16 ?k16 ?z1 ?z2 ?z3 ?z4 ?z5 ?z6 ?z7 ?z8 ?z9 ?z10 ?z11 ?z12 ?z13 ?z14 ?z15 ?gGREATEST ?gFIGURES ?gMOST ?gLENGTH ?gRestError ?xRestError ?yRestError ?bRestError ?tRestError ?gBadRound ?xBadRound ?yBadRound ?bBadRound ?tBadRound ?gBadText ?xBadText ?yBadText ?bBadText ?tBadText ?zVE ?dRE ?sRE ?m1 ?m2 ?m4 ?m5 ?m6 ?m7 ?m8 ?v1 ?v2 ?v3 ?dBT
    (case a1 => k_is); (case l1 => k_is); (case c1 => k_is); (case k1 => k_is); (case a2 => k_is); (case l2 => k_is)
    (case c2 => k_is); (case k2 => k_is); (case a3 => k_is); (case l3 => k_is); (case c3 => k_is); (case k3 => k_is)
    (case a4 => k_is); (case l4 => k_is); (case c4 => k_is); (case k4 => k_is); (case a5 => k_is); (case l5 => k_is)
    (case c5 => k_is); (case k5 => k_is); (case a6 => k_is); (case l6 => k_is); (case c6 => k_is); (case k6 => k_is)
    (case a7 => k_is); (case l7 => k_is); (case c7 => k_is); (case k7 => k_is); (case a8 => k_is); (case l8 => k_is)
    (case c8 => k_is); (case k8 => k_is); (case a9 => k_is); (case l9 => k_is); (case c9 => k_is); (case k9 => k_is)
    (case a10 => k_is); (case l10 => k_is); (case c10 => k_is); (case k10 => k_is); (case a11 => k_is); (case l11 => k_is)
    (case c11 => k_is); (case k11 => k_is); (case a12 => k_is); (case l12 => k_is); (case c12 => k_is); (case k12 => k_is)
    (case a13 => k_is); (case l13 => k_is); (case c13 => k_is); (case k13 => k_is); (case a14 => k_is); (case l14 => k_is)
    (case c14 => k_is); (case k14 => k_is); (case a15 => k_is); (case l15 => k_is); (case c15 => k_is); (case k15 => k_is)
    (case a16 => k_is); (case l16 => k_is); (case c16 => k_is); (case k16 => k_is); (case z1 => k_is); (case z2 => k_is)
    (case z3 => k_is); (case z4 => k_is); (case z5 => k_is); (case z6 => k_is); (case z7 => k_is); (case z8 => k_is)
    (case z9 => k_is); (case z10 => k_is); (case z11 => k_is); (case z12 => k_is); (case z13 => k_is); (case z14 => k_is)
    (case z15 => k_is); (case gGREATEST => k_is); (case gFIGURES => k_is); (case gMOST => k_is); (case gLENGTH => k_is); (case gRestError => k_is)
    (case xRestError => k_exc); (case yRestError => k_is); (case bRestError => k_is); (case tRestError => k_is); (case gBadRound => k_is); (case xBadRound => k_exc)
    (case yBadRound => k_is); (case bBadRound => k_is); (case tBadRound => k_is); (case gBadText => k_is); (case xBadText => k_exc); (case yBadText => k_is)
    (case bBadText => k_is); (case tBadText => k_is); (case zVE => k_is); (case dRE => k_is); (case sRE => k_is); (case m1 => k_is)
    (case m2 => k_is); (case m4 => k_is); (case m5 => k_is); (case m6 => k_is); (case m7 => k_is); (case m8 => k_is)
    (case v1 => k_is); (case v2 => k_is); (case v3 => k_is); (case dBT => k_is)
