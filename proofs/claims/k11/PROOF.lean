import PyProof.Rows.All
import Wide.All
import OpenK.AllK
import Wide.FinOn
import HandS.ForMost
import HandS.ForExc
import HandS.Evl
import HandS.Strs
import HandS.SetFor
import HandS.IsInst
import HandS.Conv
import HandS.Zip
import HandS.Style
import HandS.StrMore
import KE.KEqDeep
import HandS.ExcIs
import PySem.Challenge.RW_sumrests_k11_rounds_refused
set_option Elab.async false
set_option linter.all false
set_option maxRecDepth 100000
set_option maxHeartbeats 4000000
namespace SrSet
open PySem PySem.Spec PyProof.Rows L2
/-! ### set(xs) of a list of ints, told as SetR tells it -/
/-- the object that a new set is -/
abbrev fresh (w : World) : Obj := { cls := .type "set", dict := none, data := .set #[] 0 (.fresh 0 0 (!w.params.followText "set-order")) }
section
variable {P : Program} {w : World} {A : Around} {E : Value → Shared → Prop} {s : Shared}
/-- what filling leaves of a new set at p -/
def Filled (w : World) (s s2 : Shared) (p : Addr) (ns : List Int) : Prop :=
  ∃ (h' : Heap) (tk c : Nat), s2 = { s with heap := h', toks := tk } ∧ SetR w h' p (fun j => decide (j ∈ ns)) c ∧ ∀ b o, s.heap.get? b = some o → h'.get? b = some o
/-- the items are walked into the new set, which stands at the heap's end ahead of the iterator -/
theorem fill {l : Addr} {items : Array Value} {ns : List Int} (hh : A.handled = none) (hl : s.heap.IsList l items) (hi : IntsAre items.toList ns) (hb : ns.length + 1 < scanBound)
    {R : Result → Shared → Prop} (k : ∀ s2, Filled w s s2 s.heap.objs.size ns → R (.ok (.ret .none)) s2) {h1 : Heap} {tk1 : Nat} {it : Addr} (ei : it = s.heap.objs.size + 1)
    (e1 : h1 = (s.heap.push (fresh w)).push { cls := .type "list_iterator", data := .fields #[.ref l, .int 0 0] }) :
    codeAny (model P w) A (.builtin "set.update.loop" ⟨[.ref s.heap.objs.size, .ref it], []⟩) R { s with heap := h1, toks := tk1 } := by
  subst ei
  have len : items.size = ns.length := by
    have q := IntsAre.length hi
    rwa [Array.length_toList] at q
  have lt : l < s.heap.objs.size := by
    obtain ⟨o, ho, _⟩ := hl
    exact Heap.lt_size ho
  have z1 : (s.heap.push (fresh w)).objs.size = s.heap.objs.size + 1 := Heap.size_push ..
  have at0 : h1.get? s.heap.objs.size = some (fresh w) := by
    rw [e1]
    exact Heap.get?_push_of_some _ (Heap.get?_push_size _ rfl)
  have vals : ∀ (i : Nat) (v : Value), items[i]? = some v → ∃ k t, ns[i]? = some k ∧ v = .int k t := fun i v hv => by
    have hlt : i < ns.length := by
      rw [← len]
      exact (Array.getElem?_eq_some_iff.mp hv).1
    obtain ⟨t, e⟩ := IntsAre.int_at hi i v (by rw [Array.getElem?_toList]; exact hv)
    have g : ns[i]? = some (ns.getD i 0) := by
      rw [List.getD_eq_getElem?_getD, List.getElem?_eq_getElem hlt]
      rfl
    exact ⟨_, t, g, e⟩
  have apart : l ≠ s.heap.objs.size + 1 := Nat.ne_of_lt (Nat.lt_succ_of_lt lt)
  refine set_update_ints ((Walks.list (by simpa using hh) _ l apart items).toS) s.heap.objs.size (fun m => ?_) ns len hb vals (items.size - 0) 0 { s with heap := h1, toks := tk1 } rfl (Nat.zero_le _) ?_ ⟨0, Nat.le_refl 0, setR_new_at at0⟩ fun s' c hm hc hS => ?_
  · rcases List.mem_cons.mp m with z | z
    · exact absurd z (Nat.ne_of_lt (Nat.lt_succ_self _))
    · exact absurd (List.mem_singleton.mp z).symm (Nat.ne_of_lt lt)
  · subst e1
    have g : ((s.heap.push (fresh w)).push { cls := .type "list_iterator", data := .fields #[.ref l, .int 0 0] }).get? (s.heap.objs.size + 1) = some { cls := .type "list_iterator", data := .fields #[.ref l, .int 0 0] } := by
      rw [← z1]
      exact Heap.get?_push_size _ rfl
    exact ⟨⟨_, g, rfl, rfl⟩, (hl.push _).push _⟩
  · refine k s' ⟨s'.heap, s'.toks, c, ?_, hS, fun b o e => ?_⟩
    · obtain ⟨h', g2, d', tk', os'⟩ := s'
      have eg : g2 = s.gens := hm.gens
      have ed : d' = s.drawn := hm.drawn
      have eo : os' = s.os := hm.os
      rw [eg, ed, eo]
    · have hb0 : b < s.heap.objs.size := Heap.lt_size e
      refine hm.heap b o (fun m => ?_) ?_
      · rcases List.mem_cons.mp m with z | z
        · exact absurd z (Nat.ne_of_lt hb0)
        · exact absurd (List.mem_singleton.mp z) (Nat.ne_of_lt (Nat.lt_succ_of_lt hb0))
      · rw [e1]
        exact Heap.get?_push_of_some _ (Heap.get?_push_of_some _ e)
theorem made {l : Addr} {items : Array Value} {ns : List Int} {Q : Value → Shared → Prop} (hh : A.handled = none) (hl : s.heap.IsList l items) (hi : IntsAre items.toList ns) (hb : ns.length + 1 < scanBound)
    (k : ∀ s2, Filled w s s2 s.heap.objs.size ns → Q (.ref s.heap.objs.size) s2) : wpAny (model P w) A (call (.type "set") [.ref l]) Q E s := by
  obtain ⟨c, tl, hmro⟩ := F.called_set.mro
  have m1 := F.called_set.made
  have m2 := F.called_set.sub
  refine wpAny_call (codeAny_of_tree ?_)
  show wpAny _ _ (callAny (.type "set") _) _ _ _
  refine wpAny_pure ⟨Code.quiet_builtin _ (by decide +kernel), codeAny_builtin F.entry_type_call ?_⟩
  rw [Around.under_plain (weight_type_call_type "set" [.ref l] []) rfl]
  have t1 := F.called_set.notType
  have t2 := F.called_set.canCreate
  have t3 := F.typeCall_set_1 (.ref l)
  repeat (any_goals (first | assumption | wp_step))
  refine codeAny_mono (code_set_led1 (.ref l) (E := E) (Q₁ := fun obj s₁ => obj = .ref s.heap.objs.size ∧ s₁ = { s with heap := s.heap.push (fresh w) }) ⟨rfl, rfl⟩) fun r s₁ hr => ?_
  match r, hr with
  | .error e, hr => exact hr
  | .ok (.ret obj), hr =>
    obtain ⟨rfl, rfl⟩ := hr
    have g0 : (s.heap.push (fresh w)).get? s.heap.objs.size = some (fresh w) := Heap.get?_push_size _ rfl
    have hT : Shared.TypeIs { s with heap := s.heap.push (fresh w) } (.ref s.heap.objs.size) "set" := ⟨_, g0, rfl⟩
    have i1 := F.called_set.init.lookup
    have i2 := F.called_set.init.bind (.ref s.heap.objs.size)
    repeat (any_goals (first | assumption | wp_step))
    refine codeAny_mono (codeAny_call_builtin (R := wants (fun r s2 => r = .none ∧ Filled w s s2 s.heap.objs.size ns) E) F.called_set.init.plain F.entry_set_init (check_set_init_1 hT ?_)) fun r₂ s₂ h₂ => ?_
    · have b1 := F.sub_list_set
      have b2 := F.sub_list_frozenset
      have b3 : (Value.type "list" == Value.type "dict") = false := by decide
      obtain ⟨⟨oc, od, dt, sl⟩, ho, hc, n, hd⟩ := id hl
      simp only at hc hd
      subst hc hd
      have g1 : (s.heap.push (fresh w)).get? l = some ⟨.type "list", od, .seq items n, sl⟩ := Heap.get?_push_of_some _ ho
      unfold Builtin.«set.__init__» noKeywords Builtin.Frozenset.updateFrom
      generalize eI : pyIter = It
      wp_walk
      subst eI
      refine wpAny_pyIter_list (hl.push _) ?_
      refine wpAny_bind (wpAny_runValue ?_)
      refine fill (A := A.in1.in1) (tk1 := s.toks) (by simpa using hh) hl hi hb (fun s2 hF => ?_) (Heap.size_push ..) rfl
      show wpAny _ _ _ _ _ _
      refine wpAny_pure ?_
      show wpAny _ _ (ret Value.none) _ _ _
      exact wpAny_pure ⟨rfl, hF⟩
    · match r₂, h₂ with
      | .error e, h₂ => exact h₂
      | .ok (.ret v), h₂ =>
        obtain ⟨rfl, hF⟩ := h₂
        repeat (any_goals (first | assumption | wp_step))
        exact k _ hF
      | .ok .next, h₂ => exact h₂.elim
      | .ok .brk, h₂ => exact h₂.elim
      | .ok .cont, h₂ => exact h₂.elim
  | .ok .next, hr => exact hr.elim
  | .ok .brk, hr => exact hr.elim
  | .ok .cont, hr => exact hr.elim
end
/-! ### over the layer -/
theorem nodup_len : ∀ (xs ys : List Int), xs.Nodup → (∀ x ∈ xs, x ∈ ys) → xs.length ≤ ys.length
  | [], _, _, _ => Nat.zero_le _
  | x :: xs, ys, h, m => by
    obtain ⟨h1, h2⟩ := List.nodup_cons.mp h
    have hx : x ∈ ys := m x List.mem_cons_self
    have e := List.length_erase_of_mem hx
    have hp : 0 < ys.length := List.length_pos_of_mem hx
    have ih := nodup_len xs (ys.erase x) h2 fun y hy => (List.mem_erase_of_ne fun z => h1 (by rw [← z]; exact hy)).mpr (m y (List.mem_cons_of_mem _ hy))
    rw [List.length_cons]
    omega
theorem sortedEq : ∀ (xs ys : List Int), xs.Pairwise (· < ·) → ys.Pairwise (· < ·) → (∀ k, k ∈ xs ↔ k ∈ ys) → xs = ys
  | [], [], _, _, _ => rfl
  | [], y :: ys, _, _, m => absurd ((m y).mpr List.mem_cons_self) (by simp)
  | x :: xs, [], _, _, m => absurd ((m x).mp List.mem_cons_self) (by simp)
  | x :: xs, y :: ys, hx, hy, m => by
    obtain ⟨x1, x2⟩ := List.pairwise_cons.mp hx
    obtain ⟨y1, y2⟩ := List.pairwise_cons.mp hy
    have e : x = y := by
      rcases List.mem_cons.mp ((m x).mp List.mem_cons_self) with e | e
      · exact e
      · rcases List.mem_cons.mp ((m y).mpr List.mem_cons_self) with z | z
        · exact z.symm
        · have a := y1 x e
          have b := x1 y z
          omega
    subst e
    rw [sortedEq xs ys x2 y2 fun k => ?_]
    constructor
    · intro hk
      rcases List.mem_cons.mp ((m k).mp (List.mem_cons_of_mem _ hk)) with z | z
      · exact absurd (x1 k hk) (by omega)
      · exact z
    · intro hk
      rcases List.mem_cons.mp ((m k).mpr (List.mem_cons_of_mem _ hk)) with z | z
      · exact absurd (y1 k hk) (by omega)
      · exact z
section
variable {X : Cx}
/-- set(xs), xs a list of ints; c: how many differ -/
def rSetOfL (K : PySem.W.Frag) (w : World) : List V → Hp → VK → Prop := fun xs H Q => ∃ (l : Addr) (ns : List Int), xs = [.ref l] ∧ SqL K H l (ns.map V.int) ∧ ns.length ≤ 2000 ∧
  ∀ (p : Addr) (ks : List Int), ks.Nodup → (∀ k, k ∈ ks ↔ k ∈ ns) → H p = none → Q (.ref p) (upd H p (SetO w p (fun j => decide (j ∈ ns)) ks.length))
theorem cr_setOfL (hc : X.calm = true) : CallR X (.type "set") (rSetOfL X.K X.w) := by
  intro pins s σ H xs us Q I r h
  obtain ⟨l, ns, rfl, hq, hl, q⟩ := h
  rw [Vals.ref1 r]
  obtain ⟨its, rv, pl, hz⟩ := I.list hq
  have hi : IntsAre its.toArray.toList ns := ints_of_vals (by simpa using rv)
  refine made (I.ok.hd hc) pl.isList hi (by unfold scanBound; omega) fun s2 hF => ?_
  obtain ⟨h', tk, c, rfl, hS, k⟩ := hF
  obtain ⟨o, es, ep, t, ho, hex, hdt, g, nd, hm, hb, hf, hn, hr, hl2⟩ := id hS
  have hlen : (es.toList.map keyOf).length = c := by rw [List.length_map, Array.length_toList]; exact hn
  have hmem : ∀ j, j ∈ es.toList.map keyOf ↔ j ∈ ns := fun j => by
    rw [← hm j, decide_eq_true_eq]
  have q2 := q s.heap.objs.size (es.toList.map keyOf) nd hmem (I.hok.fresh (Nat.le_refl _))
  rw [hlen] at q2
  exact ⟨.ref _, _, I.laid (t' := tk) k (Nat.le_refl _) (setO_new hS), rfl, q2⟩
open Evl in
/-- sorted(set(xs)) of a new list of ints below a bound -/
theorem el_sortedSet {K : PySem.W.Frag} {w : World} {te : TE} {σ : L2.St} {H : Hp} {ns ys : List Int} {b : Nat} (h : EvL te σ H (ns.map V.int)) (hl : ns.length ≤ 2000) (hb : b < 64) (hk : ∀ k ∈ ns, 0 ≤ k ∧ k < (b : Int)) (hy : ys.Pairwise (· < ·)) (hm : ∀ k, k ∈ ys ↔ k ∈ ns) :
    EvL (tCB (rSortedSet w) (tCons (tCB (rSetOfL K w) (tCons te tNil)) tNil)) σ H (ys.map V.int) := fun H1 e Q q =>
  h H1 e _ fun p H2 hp e2 h2 => ⟨p, ns, rfl, sq_of h2, hl, fun s ks nd hks hs => ⟨s, _, ks.length, rfl, upd_same, by
      refine Nat.lt_of_le_of_lt (nodup_len ks ((List.range b).map fun i : Nat => (i : Int)) nd fun x hx => ?_) (by rw [List.length_map, List.length_range]; exact hb)
      obtain ⟨h0, h1⟩ := hk x ((hks x).mp hx)
      exact List.mem_map.mpr ⟨x.toNat, List.mem_range.mpr (by omega), by omega⟩,
    fun zs r hz hzm hzl hr => by
      have e3 : Ex H2 (upd H2 s (SetO w s (fun j => decide (j ∈ ns)) ks.length)) := Ex.new hs
      have ez : zs = ys := sortedEq zs ys hz hy fun k => by rw [hzm, hm, decide_eq_true_eq]
      subst ez
      exact q r _ (fresh_back (e2.trans e3) hr) ((e2.trans e3).trans (Ex.new hr)) upd_same⟩⟩
end
end SrSet
namespace Sr
open PySem PySem.Spec PyProof.Rows L2 Evl
/-! ### what a def of the text is worth to its callers: by its name in the module -/
def CalX (CX : CXT) (P : Program) (w : World) (K : PySem.W.Frag) (mg : Str → Option Value) (base : Heap) (x : Str) (k : Nat) (ps : List Str) (sp : Sp) : Prop :=
  ∃ (f : Addr) (fd : FuncData), FnOk P w K mg base CX k f fd ps sp ∧ mg x = some (.ref f) ∧ PySem.W.keepIn K (.ref f) = true ∧ Binds K fd ps []
/-- no exception leaves it; one may -/
abbrev Cal0 (P : Program) (w : World) := CalX CX0 P w
abbrev CalE (P : Program) (w : World) := CalX (L2.CX P w) P w
/-- a def as the top has left it -/
def Top (K : PySem.W.Frag) (mg : Str → Option Value) (x : Str) (st : Stmt) (ps : List Str) : Prop := ∃ (f : Addr) (fd : FuncData), Fun K x x st f fd ∧ mg x = some (.ref f) ∧ Binds K fd ps []
/-- the built-in names stand for themselves -/
structure NB (mg : Str → Option Value) : Prop where
  len : mg "len" = none
  range : mg "range" = none
  sorted : mg "sorted" = none
  set : mg "set" = none
  list : mg "list" = none
  dict : mg "dict" = none
  sum : mg "sum" = none
  min : mg "min" = none
  max : mg "max" = none
  abs : mg "abs" = none
  isinstance : mg "isinstance" = none
  str : mg "str" = none
  int : mg "int" = none
  bool : mg "bool" = none
  tuple : mg "tuple" = none
/-- a constant of the module -/
structure Cst (mg : Str → Option Value) (x : Str) (v : V) (u : Value) : Prop where
  gm : mg x = some u
  rel : RelV v u
/-- an own exception class over ValueError, without an __init__ -/
structure Exc (K : PySem.W.Frag) (mg : Str → Option Value) (x : Str) (C : Addr) : Prop where
  gC : mg x = some (.ref C)
  x : PySem.W.excIn K C [.type "ValueError", .type "Exception", .type "BaseException", .type "object"] "ValueError.__new__" = true
  k : PySem.W.keepIn K (.ref C) = true
  b : PySem.W.subIn K (.ref C) (.type "BaseException") = some true
  t : PySem.W.typeIn K (.ref C) = some (.type "type")
section
variable {X : Cx}
theorem pe_cal {CX : CXT} {x : Str} {k : Nat} {ps : List Str} {sp : Sp} {E : XK} {e : Expr} {es : List Expr} {t : TA} {p pos : Pos} (C : CalX CX X.prog X.w X.K X.mg X.base x k ps sp) (hr : Room k X.A) (hx : Passes CX X E) (ha : PA X (e :: es) t) (hg : Gl X x := by rfl)
    (hdb : (x == ("__debug__" : Str)) = false := by decide) (he : starEach (e :: es) X.env = (false, eval e X.env) :: starEach es X.env := by rfl) (hpl : (backTo pos (starEach es X.env)).any (·.1) = false := by rfl) :
    PE X (.Call (.Name x p) (e :: es) [] pos) (tCall sp [] E t) := by
  obtain ⟨f, fd, F, hm, hk, hb⟩ := C
  exact pe_call F hr hg hm hk hb .nil hx ha hdb he hpl
/-- // by a positive number below 2 ^ 30 -/
theorem op_fdivP : OpR X (binaryOp .FloorDiv) (rI CDiv fun i j => .int (i / j)) := op_fdiv
/-- a op1 b op2 c op3 d, as a test -/
def tCh3 (r1 r2 r3 : R2) (ta tb tc td : TE) : TT := fun σ H Q => ta σ H fun x H1 => tb σ H1 fun y H2 => r1 x y H2 fun z H3 => ∃ k, z = .bl k ∧
  (if k = true then tc σ H3 fun u H4 => r2 y u H4 fun z2 H5 => ∃ k2, z2 = .bl k2 ∧ (if k2 = true then td σ H5 fun v H6 => r3 u v H6 fun z3 H7 => ∃ k3, z3 = .bl k3 ∧ Q k3 H7 else Q false H5) else Q false H3)
theorem pt_chain3 {o1 o2 o3 : CmpOp} {r1 r2 r3 : R2} {a b c d : Expr} {ta tb tc td : TE} {pos : Pos} (h1 : OpR X (compareOp o1) r1) (h2 : OpR X (compareOp o2) r2) (h3 : OpR X (compareOp o3) r3) (ha : PE X a ta) (hb : PE X b tb) (hc : PE X c tc) (hd : PE X d td)
    (hm : lastMarks [o1, o2, o3] [b, c, d] = false := by with_unfolding_all rfl) : PT X (.Compare a [o1, o2, o3] [b, c, d] pos) (tCh3 r1 r2 r3 ta tb tc td) := by
  refine ⟨fun pins s σ H Q I h => ?_⟩
  refine isTrue_chain (thn (ha.run pins s σ H _ I h) fun v s1 ⟨x, H1, I1, rx, q1⟩ => ?_) hm
  refine test_link (thn (hb.run pins s1 σ H1 _ I1 q1) fun u s2 ⟨y, H2, I2, ry, q2⟩ => thn (h1 pins s2 σ H2 x y v u _ I2 rx ry q2) fun e s3 hh => ?_)
  obtain ⟨z, H3, I3, rz, k, ez, q3⟩ := hh
  subst ez
  cases rz
  refine wpAny_truthy_bool ?_
  cases k with
  | false => exact ite_ff ⟨H3, I3, q3⟩
  | true =>
    refine ite_tt (test_link (thn (hc.run pins s3 σ H3 _ I3 q3) fun u4 s4 ⟨y4, H4, I4, r4, q4⟩ => thn (h2 pins s4 σ H4 y y4 u u4 _ I4 ry r4 q4) fun e5 s5 hh => ?_))
    obtain ⟨z5, H5, I5, r5, k5, e5, q5⟩ := hh
    subst e5
    cases r5
    refine wpAny_truthy_bool ?_
    cases k5 with
    | false => exact ite_ff ⟨H5, I5, q5⟩
    | true =>
      refine ite_tt (test_last (thn (hd.run pins s5 σ H5 _ I5 q5) fun u6 s6 ⟨y6, H6, I6, r6, q6⟩ => thn (h3 pins s6 σ H6 y4 y6 u4 u6 _ I6 r4 r6 q6) fun e7 s7 hh => ?_))
      obtain ⟨z7, H7, I7, r7, k7, e7, q7⟩ := hh
      subst e7
      cases r7
      exact wpAny_truthy_bool ⟨H7, I7, q7⟩
end
/-! the layer's rules that speak of the written part, by its own name (so that they serve within a comprehension's block) -/
section
variable {X : Cx} (K : PySem.W.Frag)
theorem k_len (hK : X.K = K := by rfl) : CallR X (.builtin "len") (fun xs H Q => ∃ p ys, xs = [.ref p] ∧ (SqL K H p ys ∨ SqT K H p ys) ∧ Q (.int ys.length) H) := by
  subst hK
  exact call_len_seq
theorem k_listof (hK : X.K = K := by rfl) : CallR X (.type "list") (fun xs H Q => ∃ p ys, xs = [.ref p] ∧ (SqL K H p ys ∨ SqT K H p ys) ∧ ∀ l, H l = none → Q (.ref l) (upd H l (.lst ys))) := by
  subst hK
  exact call_list_of
theorem k_isi (hK : X.K = K := by rfl) : CallR X (.builtin "isinstance") (rIsi K) := by
  subst hK
  exact call_isi
theorem k_sorted (hK : X.K = K := by rfl) : CallR X (.builtin "sorted") (rSorted K) := by
  subst hK
  exact cr_sorted
theorem k_sum (hc : X.calm = true := by rfl) (hK : X.K = K := by rfl) : CallR X (.builtin "sum") (rSum K) := by
  subst hK
  exact cr_sum hc
theorem k_set (w : World) (hc : X.calm = true := by rfl) (hK : X.K = K := by rfl) (hw : X.w = w := by rfl) : CallR X (.type "set") (SrSet.rSetOfL K w) := by
  subst hK hw
  exact SrSet.cr_setOfL hc
theorem k_sortedSet (w : World) (hc : X.calm = true := by rfl) (hw : X.w = w := by rfl) : CallR X (.builtin "sorted") (rSortedSet w) := by
  subst hw
  exact cr_sortedSet hc
theorem k_ixL (hK : X.K = K := by rfl) : IxR X (rIxL K) := by
  subst hK
  exact ix_list
theorem k_ixT (hK : X.K = K := by rfl) : IxR X (rIxT K) := by
  subst hK
  exact ix_tup
theorem k_in (hK : X.K = K := by rfl) : OpR X (compareOp .In) (rIn K false) := by
  subst hK
  exact op_in_seq
theorem k_notIn (hK : X.K = K := by rfl) : OpR X (compareOp .NotIn) (rIn K true) := by
  subst hK
  exact op_notIn_seq
theorem k_eqD (hu : X.A.units + 64 < cLine) (hK : X.K = K := by rfl) : OpR X (compareOp .Eq) (rEqD K) := by
  subst hK
  exact op_eqD hu
theorem k_neD (hu : X.A.units + 64 < cLine) (hK : X.K = K := by rfl) : OpR X (compareOp .NotEq) (rNeD K) := by
  subst hK
  exact op_neD hu
theorem k_slL (hK : X.K = K := by rfl) : SlR X (rSlL K) := by
  subst hK
  exact sl_list
theorem k_rev {e : Expr} {te : TE} {k : Nat} {p1 p2 p3 pos : Pos} (he : PE X e te) (hK : X.K = K := by rfl) : PE X (.Subscript e (.Slice none none (some (.UnaryOp .USub (.Constant (.int 1) k p1) p2)) p3) pos) (tRevL K te) := by
  subst hK
  exact pe_revL he
theorem k_list {tg l : Expr} {tl : TE} (hl : PE X l tl) (hK : X.K = K := by rfl) : PI X tg l (iList K tl) := by
  subst hK
  exact pi_list hl
end
/-! ### more of Evl: what evaluates to what -/
section
variable {K : PySem.W.Frag} {σ : L2.St} {H H' : Hp} {ta tb te tx : TE} {t u : TT} {x y z v : V} {D : Ends} {tu tw tz : TS}
/-- comparisons as tests -/
theorem et_op {r : R2} {b : Bool} (ha : Ev ta σ H x) (hb : Ev tb σ H y) (hr : RV r x y H (.bl b)) : EvT (tTest (tOp r ta tb)) σ H b := et_test (ev_op ha hb hr)
theorem et_lt {i j : Int} (ha : Ev ta σ H (.int i)) (hb : Ev tb σ H (.int j)) : EvT (tTest (tOp (rI0 fun i j => .bl (decide (i < j))) ta tb)) σ H (decide (i < j)) := et_op ha hb rv_I0
theorem et_gt {i j : Int} (ha : Ev ta σ H (.int i)) (hb : Ev tb σ H (.int j)) : EvT (tTest (tOp (rI0 fun i j => .bl (decide (j < i))) ta tb)) σ H (decide (j < i)) := et_op ha hb rv_I0
theorem et_le {i j : Int} (ha : Ev ta σ H (.int i)) (hb : Ev tb σ H (.int j)) : EvT (tTest (tOp (rI0 fun i j => .bl (decide (i ≤ j))) ta tb)) σ H (decide (i ≤ j)) := et_op ha hb rv_I0
theorem et_ge {i j : Int} (ha : Ev ta σ H (.int i)) (hb : Ev tb σ H (.int j)) : EvT (tTest (tOp (rI0 fun i j => .bl (decide (j ≤ i))) ta tb)) σ H (decide (j ≤ i)) := et_op ha hb rv_I0
theorem decInt {i j : Int} : decide (V.int i = V.int j) = decide (i = j) := by
  rw [Bool.eq_iff_iff]
  simp
theorem et_eq {i j : Int} (ha : Ev ta σ H (.int i)) (hb : Ev tb σ H (.int j)) : EvT (tTest (tOp rEq ta tb)) σ H (decide (i = j)) := by
  have h := et_op ha hb (rv_eq (H := H) (x := .int i) (y := .int j) rfl)
  rw [decInt] at h
  exact h
theorem et_ne {i j : Int} (ha : Ev ta σ H (.int i)) (hb : Ev tb σ H (.int j)) : EvT (tTest (tOp rNe ta tb)) σ H (!decide (i = j)) := by
  have h := et_op ha hb (rv_ne (H := H) (x := .int i) (y := .int j) rfl)
  rw [decInt] at h
  exact h
theorem ev_eqI {i j : Int} (ha : Ev ta σ H (.int i)) (hb : Ev tb σ H (.int j)) : Ev (tOp rEq ta tb) σ H (.bl (decide (i = j))) := by
  have h := ev_op ha hb (rv_eq (H := H) (x := .int i) (y := .int j) rfl)
  rw [decInt] at h
  exact h
/-- arithmetic -/
theorem ev_mod {i j : Int} (ha : Ev ta σ H (.int i)) (hb : Ev tb σ H (.int j)) (hj : 0 < j) : Ev (tOp (rI (fun _ j => 0 < j) fun i j => .int (i % j)) ta tb) σ H (.int (i % j)) := ev_op ha hb (rv_I (C := fun _ j => 0 < j) hj)
theorem ev_add {i j : Int} (ha : Ev ta σ H (.int i)) (hb : Ev tb σ H (.int j)) : Ev (tOp (rI0 fun i j => .int (i + j)) ta tb) σ H (.int (i + j)) := ev_op ha hb rv_I0
theorem ev_sub {i j : Int} (ha : Ev ta σ H (.int i)) (hb : Ev tb σ H (.int j)) : Ev (tOp (rI0 fun i j => .int (i - j)) ta tb) σ H (.int (i - j)) := ev_op ha hb rv_I0
theorem ev_div {i j : Int} (ha : Ev ta σ H (.int i)) (hb : Ev tb σ H (.int j)) (hj : 0 < j) (hj' : j < 1073741824) : Ev (tOp (rI CDiv fun i j => .int (i / j)) ta tb) σ H (.int (i / j)) := ev_op ha hb (rv_I (C := CDiv) ⟨hj, hj'⟩)
theorem ev_mul {i j : Int} (ha : Ev ta σ H (.int i)) (hb : Ev tb σ H (.int j)) (h : CMul i j) : Ev (tOp (rI CMul fun i j => .int (i * j)) ta tb) σ H (.int (i * j)) := ev_op ha hb (rv_I (C := CMul) h)
theorem ev_pow {i j : Int} (ha : Ev ta σ H (.int i)) (hb : Ev tb σ H (.int j)) (h : CPow i j) : Ev (tOp (rI CPow fun i j => .int (i ^ j.toNat)) ta tb) σ H (.int (i ^ j.toNat)) := ev_op ha hb (rv_I (C := CPow) h)
theorem ev_negI {i : Int} (ha : Ev ta σ H (.int i)) : Ev (tUn (rU fun i => .int (-i)) ta) σ H (.int (-i)) := ev_un ha ru_neg
theorem ev_int {i j : Int} (h : Ev te σ H (.int i)) (e : i = j) : Ev te σ H (.int j) := by
  rw [← e]
  exact h
theorem ev_min {i j : Int} (ha : Ev ta σ H (.int i)) (hb : Ev tb σ H (.int j)) : Ev (tCB (fun xs H Q => ∃ i j, xs = [.int i, .int j] ∧ Q (.int (if j < i then j else i)) H) (tCons ta (tCons tb tNil))) σ H (.int (if j < i then j else i)) := fun H1 e Q q =>
  ha H1 e _ fun H2 e2 => hb H2 (e.trans e2) _ fun H3 e3 => ⟨i, j, rfl, q H3 (e2.trans e3)⟩
theorem ev_max {i j : Int} (ha : Ev ta σ H (.int i)) (hb : Ev tb σ H (.int j)) : Ev (tCB (fun xs H Q => ∃ i j, xs = [.int i, .int j] ∧ Q (.int (if j > i then j else i)) H) (tCons ta (tCons tb tNil))) σ H (.int (if j > i then j else i)) := fun H1 e Q q =>
  ha H1 e _ fun H2 e2 => hb H2 (e.trans e2) _ fun H3 e3 => ⟨i, j, rfl, q H3 (e2.trans e3)⟩
theorem ev_abs {i : Int} (ha : Ev ta σ H (.int i)) : Ev (tCB (fun xs H Q => ∃ i, xs = [.int i] ∧ Q (.int (if i < 0 then -i else i)) H) (tCons ta tNil)) σ H (.int (if i < 0 then -i else i)) := fun H1 e Q q =>
  ha H1 e _ fun H2 e2 => ⟨i, rfl, q H2 e2⟩
/-- len, list(..) of a list, an item: as the rules of the layer print them -/
theorem ev_lenL {p : Addr} {xs : List V} (ha : Ev ta σ H (.ref p)) (h : SqL K H p xs) : Ev (tCB (fun xs H Q => ∃ p ys, xs = [.ref p] ∧ (SqL K H p ys ∨ SqT K H p ys) ∧ Q (.int ys.length) H) (tCons ta tNil)) σ H (.int (xs.length : Int)) := ev_len ha h
theorem ev_lenNL {xs : List V} (ha : EvL ta σ H xs) : Ev (tCB (fun xs H Q => ∃ p ys, xs = [.ref p] ∧ (SqL K H p ys ∨ SqT K H p ys) ∧ Q (.int ys.length) H) (tCons ta tNil)) σ H (.int (xs.length : Int)) := ev_lenN ha
theorem el_listL {p : Addr} {xs : List V} (ha : Ev ta σ H (.ref p)) (h : SqL K H p xs) : EvL (tCB (fun xs H Q => ∃ p ys, xs = [.ref p] ∧ (SqL K H p ys ∨ SqT K H p ys) ∧ ∀ l, H l = none → Q (.ref l) (upd H l (.lst ys))) (tCons ta tNil)) σ H xs := el_list ha h
theorem ev_itemL {p : Addr} {xs : List V} {i : Int} (ha : Ev ta σ H (.ref p)) (hb : Ev tb σ H (.int i)) (h : SqL K H p xs) (hi : atI xs i = some v) : Ev (tOp (rIxL K) ta tb) σ H v := ev_op ha hb (rv_ixL h hi)
theorem ev_itemNL {xs : List V} {i : Int} (ha : EvL ta σ H xs) (hb : Ev tb σ H (.int i)) (hi : atI xs i = some v) : Ev (tOp (rIxL K) ta tb) σ H v :=
  ev_opL1 ha (fun _ e => hb.mono e) fun _ _ h _ => rv_ixL (sq_of h) hi
theorem atI_map {xs : List Int} {k : Int} (h0 : 0 ≤ k) (h1 : k < xs.length) : atI (xs.map V.int) k = some (.int (xs.getD k.toNat 0)) := by
  have e : k = ((k.toNat : Nat) : Int) := by omega
  have hlt : k.toNat < xs.length := by omega
  rw [e]
  refine atI_nat ?_
  rw [List.getElem?_map, List.getElem?_eq_getElem hlt]
  show some (V.int xs[k.toNat]) = some (V.int (xs.getD ((k.toNat : Nat) : Int).toNat 0))
  rw [Int.toNat_natCast, List.getD_eq_getElem?_getD, List.getElem?_eq_getElem hlt]
  rfl
/-- a call in an assignment, by its promise as it stands -/
theorem q_call {i : Nat} {sp : Sp} {E : XK} {ta : TA} {vs : List V} (h : EvA ta σ H vs) (k : ∀ H1, Ex H H1 → sp vs H1 (fun x H2 => tz D (σ.set i (some x)) H2) E) : tSeq (tAsg (tCall sp [] E ta) (gName i)) tz D σ H := h H (Ex.refl H) _ fun H1 e1 => by
  show sp (vs ++ []) H1 (fun x H2 => tz D (σ.set i (some x)) H2) E
  rw [List.append_nil]
  exact k H1 e1
theorem inV_int (k : Int) (ns : List Int) : inV (.int k) (ns.map V.int) = decide (k ∈ ns) := by
  unfold inV
  rw [Bool.eq_iff_iff, List.any_eq_true, decide_eq_true_eq]
  constructor
  · rintro ⟨x, hx, e⟩
    obtain ⟨z, hz, rfl⟩ := List.mem_map.mp hx
    have : z = k := by
      have e : (z == k) = true := e
      exact eq_of_beq e
    rw [← this]
    exact hz
  · intro h
    refine ⟨.int k, List.mem_map.mpr ⟨k, h, rfl⟩, ?_⟩
    show (k == k) = true
    exact beq_self_eq_true k
theorem q_callS {i : Nat} {sp : Sp} {E : XK} {ta : TA} {vs : List V} (h : EvA ta σ H vs) (k : ∀ H1, Ex H H1 → sp vs H1 (fun x H2 => D.nx (σ.set i (some x)) H2) E) : tAsg (tCall sp [] E ta) (gName i) D σ H := h H (Ex.refl H) _ fun H1 e1 => by
  show sp (vs ++ []) H1 (fun x H2 => D.nx (σ.set i (some x)) H2) E
  rw [List.append_nil]
  exact k H1 e1
theorem flat_ints (ns : List Int) : (ns.map V.int).all flatV = true := by
  rw [List.all_eq_true]
  intro x hx
  obtain ⟨z, _, rfl⟩ := List.mem_map.mp hx
  rfl
theorem s_rcall {sp : Sp} {E : XK} {ta : TA} {vs : List V} (h : EvA ta σ H vs) (k : ∀ H1, Ex H H1 → sp vs H1 D.rt E) : tRet (tCall sp [] E ta) D σ H := h H (Ex.refl H) _ fun H1 e1 => by
  show sp (vs ++ []) H1 D.rt E
  rw [List.append_nil]
  exact k H1 e1
/-- dicts with whole numbers as keys -/
theorem et_din {p : Addr} {kvs : List (Key × V)} {k : Int} (ha : Ev ta σ H (.int k)) (hb : Ev tb σ H (.ref p)) (hp : H p = some (.dK kvs)) : EvT (tB (tDIn ta tb)) σ H (valV kvs (Sum.inl k : Key)).isSome := fun H1 e _ q =>
  ha H1 e _ fun H2 e2 => hb H2 (e.trans e2) _ fun H3 e3 => ⟨p, _, rfl, DGet.k (k := Sum.inl k) (((e.trans e2).trans e3) _ _ hp), _, rfl, q H3 (e2.trans e3)⟩
theorem et_dnotin {p : Addr} {kvs : List (Key × V)} {k : Int} (ha : Ev ta σ H (.int k)) (hb : Ev tb σ H (.ref p)) (hp : H p = some (.dK kvs)) : EvT (tB (tDNotIn ta tb)) σ H (!(valV kvs (Sum.inl k : Key)).isSome) := fun H1 e _ q =>
  ha H1 e _ fun H2 e2 => hb H2 (e.trans e2) _ fun H3 e3 => ⟨p, _, rfl, DGet.k (k := Sum.inl k) (((e.trans e2).trans e3) _ _ hp), _, rfl, q H3 (e2.trans e3)⟩
theorem ev_dnotin {p : Addr} {kvs : List (Key × V)} {k : Int} (ha : Ev ta σ H (.int k)) (hb : Ev tb σ H (.ref p)) (hp : H p = some (.dK kvs)) : Ev (tDNotIn ta tb) σ H (.bl (!(valV kvs (Sum.inl k : Key)).isSome)) := fun H1 e _ q =>
  ha H1 e _ fun H2 e2 => hb H2 (e.trans e2) _ fun H3 e3 => ⟨p, _, rfl, DGet.k (k := Sum.inl k) (((e.trans e2).trans e3) _ _ hp), q H3 (e2.trans e3)⟩
theorem ev_dget {p : Addr} {kvs : List (Key × V)} {k : Int} (ha : Ev ta σ H (.ref p)) (hb : Ev tb σ H (.int k)) (hp : H p = some (.dK kvs)) (hv : valV kvs (Sum.inl k : Key) = some v) : Ev (tDGet ta tb) σ H v := fun H1 e _ q =>
  ha H1 e _ fun H2 e2 => hb H2 (e.trans e2) _ fun H3 e3 => ⟨p, v, rfl, by
    have g := DGet.k (k := (Sum.inl k : Key)) (((e.trans e2).trans e3) _ _ hp)
    rw [hv] at g
    exact g, q H3 (e2.trans e3)⟩
theorem s_dput {p : Addr} {kvs : List (Key × V)} {k : Int} (hp : H p = some (.dK kvs)) (hl : kvs.length < 100000) (hv : Ev te σ H v) (ha : Ev ta σ H (.ref p)) (hb : Ev tb σ H (.int k)) (q : ∀ H1, Ex H H1 → D.nx σ (upd H1 p (.dK (putK kvs (Sum.inl k : Key) v)))) : sDPut ta tb te D σ H :=
  hv H (Ex.refl H) _ fun H1 e1 => ha H1 e1 _ fun H2 e2 => hb H2 (e1.trans e2) _ fun H3 e3 => ⟨p, _, rfl, DPut.k (k := Sum.inl k) (((e1.trans e2).trans e3) _ _ hp) (sz_lt hl), q H3 ((e1.trans e2).trans e3)⟩
theorem q_dput {p : Addr} {kvs : List (Key × V)} {k : Int} (hp : H p = some (.dK kvs)) (hl : kvs.length < 100000) (hv : Ev te σ H v) (ha : Ev ta σ H (.ref p)) (hb : Ev tb σ H (.int k)) (q : ∀ H1, Ex H H1 → tz D σ (upd H1 p (.dK (putK kvs (Sum.inl k : Key) v)))) : tSeq (sDPut ta tb te) tz D σ H :=
  s_dput (D := { D with nx := tz D }) hp hl hv ha hb q
/-- x = {k: v}, a whole number as the key -/
theorem q_disp1 {i : Nat} {k : Int} (e1 : Ev ta σ H (.int k)) (e2 : Ev tb σ H v) (q : ∀ p H2, H p = none → Ex H H2 → H2 p = some (.dK [((Sum.inl k : Key), v)]) → tz D (σ.set i (some (.ref p))) H2) :
    tSeq (tAsg (tDisp [(ta, tb)]) (gName i)) tz D σ H := fun p hp => by
  have s1 : Ex H (upd H p (.dK [])) := Ex.new hp
  refine e1 _ s1 _ fun H2 h2 => e2 _ (s1.trans h2) _ fun H3 h3 => ⟨(h2.trans h3) p _ upd_same, [((Sum.inl k : Key), v)], rfl, by show 1 ≤ 15; decide, ?_⟩
  refine q p _ hp (Ex.mut ((s1.trans h2).trans h3) hp) ?_
  rw [upd_same]
  rfl
/-- is None, is not None -/
theorem et_isN (ha : Ev ta σ H x) : EvT (tTest (tOp (fun x y H Q => y = .non ∧ Q (.bl (decide (x = .non))) H) ta (tC .non))) σ H (decide (x = .non)) := fun H1 e _ q => ha H1 e _ fun H2 e2 => ⟨rfl, _, rfl, q H2 e2⟩
theorem ev_isNV (ha : Ev ta σ H x) : Ev (tOp (fun x y H Q => y = .non ∧ Q (.bl (decide (x = .non))) H) ta (tC .non)) σ H (.bl (decide (x = .non))) := fun H1 e _ q => ha H1 e _ fun H2 e2 => ⟨rfl, q H2 e2⟩
theorem ev_notNV (ha : Ev ta σ H x) : Ev (tOp (fun x y H Q => y = .non ∧ Q (.bl (!decide (x = .non))) H) ta (tC .non)) σ H (.bl (!decide (x = .non))) := fun H1 e _ q => ha H1 e _ fun H2 e2 => ⟨rfl, q H2 e2⟩
/-- tuples -/
theorem ev_lenT {p : Addr} {xs : List V} (ha : Ev ta σ H (.ref p)) (h : SqT K H p xs) : Ev (tCB (fun xs H Q => ∃ p ys, xs = [.ref p] ∧ (SqL K H p ys ∨ SqT K H p ys) ∧ Q (.int ys.length) H) (tCons ta tNil)) σ H (.int (xs.length : Int)) := fun H1 e Q q =>
  ha H1 e _ fun H2 e2 => ⟨p, xs, rfl, Or.inr (ex_t (e.trans e2) h), q H2 e2⟩
theorem ev_itemT {p : Addr} {xs : List V} {i : Int} (ha : Ev ta σ H (.ref p)) (hb : Ev tb σ H (.int i)) (h : SqT K H p xs) (hi : atI xs i = some v) : Ev (tOp (rIxT K) ta tb) σ H v := ev_op ha hb (rv_ixT h hi)
theorem et_ch3 {p1 p2 p3 : Int → Int → Bool} {i j k l : Int} {tc td : TE} (ha : Ev ta σ H (.int i)) (hb : Ev tb σ H (.int j)) (hc : Ev tc σ H (.int k)) (hd : Ev td σ H (.int l)) (h1 : p1 i j = true) (h2 : p2 j k = true) (h3 : p3 k l = true) :
    EvT (tCh3 (rI0 fun i j => .bl (p1 i j)) (rI0 fun i j => .bl (p2 i j)) (rI0 fun i j => .bl (p3 i j)) ta tb tc td) σ H true := fun H1 e Q q =>
  ha H1 e _ fun H2 e2 => hb H2 (e.trans e2) _ fun H3 e3 => ⟨i, j, rfl, rfl, true, congrArg V.bl h1, by
    show tc σ H3 _
    refine hc H3 ((e.trans e2).trans e3) _ fun H4 e4 => ⟨j, k, rfl, rfl, true, congrArg V.bl h2, ?_⟩
    show td σ H4 _
    exact hd H4 (((e.trans e2).trans e3).trans e4) _ fun H5 e5 => ⟨k, l, rfl, rfl, true, congrArg V.bl h3, q H5 (((e2.trans e3).trans e4).trans e5)⟩⟩
/-- len(set(xs)) of a list in which no number is twice -/
theorem ev_lenSet {a : Addr} {ns : List Int} (ha : Ev ta σ H (.ref a)) (h : SqL K H a (ns.map V.int)) (hd : ns.Nodup) (hl : ns.length ≤ 4000) : Ev (RZ.tLenSetI K ta) σ H (.int (ns.length : Int)) := fun H1 e Q q =>
  ha H1 e _ fun H2 e2 => ⟨a, ns, rfl, ex_l (e.trans e2) h, hd, hl, q H2 e2⟩
/-- sum(xs) of a new list -/
theorem ev_sumN {ns : List Int} (ha : EvL ta σ H (ns.map V.int)) : Ev (tCB (rSum K) (tCons ta tNil)) σ H (.int ns.sum) := fun H1 e Q q => ha H1 e _ fun p H2 _ e2 h2 => ⟨p, ns, rfl, sq_of h2, q H2 e2⟩
/-- isinstance(x, T), T a built-in type -/
theorem ev_isi {m n : String} {b : Bool} (ha : Ev ta σ H x) (hb : Ev tb σ H (.ty n)) (ty : ∀ H1, Ex H H1 → TyX K H1 x (.type m)) (hk : kitB m n = some b) : Ev (tCB (rIsi K) (tCons ta (tCons tb tNil))) σ H (.bl b) := fun H1 e Q q =>
  ha H1 e _ fun H2 e2 => hb H2 (e.trans e2) _ fun H3 e3 => ⟨x, .ty n, .type m, .type n, b, rfl, .ty n, ty H3 ((e.trans e2).trans e3), kit_ty hk, q H3 (e2.trans e3)⟩
theorem ty_int (i : Int) : ∀ H1, Ex H H1 → TyX K H1 (.int i) (.type "int") := fun _ _ => .base (.int i)
theorem ty_lst {a : Addr} {xs : List V} (h : H a = some (.lst xs)) : ∀ H1, Ex H H1 → TyX K H1 (.ref a) (.type "list") := fun _ e => .base (.lst (e a _ h))
theorem ty_tup {a : Addr} {xs : List V} (h : H a = some (.tup xs)) : ∀ H1, Ex H H1 → TyX K H1 (.ref a) (.type "tuple") := fun _ e => .base (.tup (e a _ h))
theorem ty_str (z : Str) : ∀ H1, Ex H H1 → TyX K H1 (.str z) (.type "str") := fun _ _ => .base (.str z)
/-- xs + ys -/
theorem el_cat {p : Addr} {xs ys : List V} (ha : Ev ta σ H (.ref p)) (hp : H p = some (.lst xs)) (hb : EvL tb σ H ys) (hz : xs.length + ys.length ≤ 100000) : EvL (tOp rCat ta tb) σ H (xs ++ ys) := fun H1 e Q q =>
  ha H1 e _ fun H2 e2 => hb H2 (e.trans e2) _ fun b H3 hb3 e3 h3 => ⟨p, b, xs, ys, rfl, rfl, ((e.trans e2).trans e3) _ _ hp, h3, sz_of hz, fun r hr => q r _ (fresh_back (e2.trans e3) hr) ((e2.trans e3).trans (Ex.new hr)) upd_same⟩
theorem el_catLL {xs ys : List V} (ha : EvL ta σ H xs) (hb : EvL tb σ H ys) (hz : xs.length + ys.length ≤ 100000) : EvL (tOp rCat ta tb) σ H (xs ++ ys) := fun H1 e Q q =>
  ha H1 e _ fun p H2 hp2 e2 h2 => hb H2 (e.trans e2) _ fun b H3 hb3 e3 h3 => ⟨p, b, xs, ys, rfl, rfl, e3 _ _ h2, h3, sz_of hz, fun r hr => q r _ (fresh_back (e2.trans e3) hr) ((e2.trans e3).trans (Ex.new hr)) upd_same⟩
theorem el_catVV {p q : Addr} {xs ys : List V} (ha : Ev ta σ H (.ref p)) (hp : H p = some (.lst xs)) (hb : Ev tb σ H (.ref q)) (hq : H q = some (.lst ys)) (hz : xs.length + ys.length ≤ 100000) : EvL (tOp rCat ta tb) σ H (xs ++ ys) := fun H1 e Q k =>
  ha H1 e _ fun H2 e2 => hb H2 (e.trans e2) _ fun H3 e3 => ⟨p, q, xs, ys, rfl, rfl, ((e.trans e2).trans e3) _ _ hp, ((e.trans e2).trans e3) _ _ hq, sz_of hz, fun r hr => k r _ (fresh_back (e2.trans e3) hr) ((e2.trans e3).trans (Ex.new hr)) upd_same⟩
/-- calls some of whose arguments are new lists -/
theorem ev_callL {sp : Sp} {E : XK} {ys : List V} (ha : Ev ta σ H x) (hb : EvL tb σ H ys) (hs : ∀ b H1, Ex H H1 → H1 b = some (.lst ys) → SpV sp [x, .ref b] H1 z) : Ev (tCall sp [] E (tCons ta (tCons tb tNil))) σ H z := fun H1 e Q q =>
  ha H1 e _ fun H2 e2 => hb H2 (e.trans e2) _ fun b H3 _ e3 h3 => hs b H3 ((e.trans e2).trans e3) h3 H3 (Ex.refl H3) Q (fun H4 e4 => q H4 ((e2.trans e3).trans e4)) E
theorem ev_callL1 {sp : Sp} {E : XK} {ys : List V} (ha : EvL ta σ H ys) (hb : Ev tb σ H y) (hs : ∀ a H1, Ex H H1 → H1 a = some (.lst ys) → SpV sp [.ref a, y] H1 z) : Ev (tCall sp [] E (tCons ta (tCons tb tNil))) σ H z := fun H1 e Q q =>
  ha H1 e _ fun a H2 _ e2 h2 => hb H2 (e.trans e2) _ fun H3 e3 => hs a H3 ((e.trans e2).trans e3) (e3 _ _ h2) H3 (Ex.refl H3) Q (fun H4 e4 => q H4 ((e2.trans e3).trans e4)) E
theorem ev_callLL {sp : Sp} {E : XK} {xs ys : List V} (ha : EvL ta σ H xs) (hb : EvL tb σ H ys) (hs : ∀ a b H1, Ex H H1 → H1 a = some (.lst xs) → H1 b = some (.lst ys) → SpV sp [.ref a, .ref b] H1 z) : Ev (tCall sp [] E (tCons ta (tCons tb tNil))) σ H z := fun H1 e Q q =>
  ha H1 e _ fun a H2 _ e2 h2 => hb H2 (e.trans e2) _ fun b H3 _ e3 h3 => hs a b H3 ((e.trans e2).trans e3) (e3 _ _ h2) h3 H3 (Ex.refl H3) Q (fun H4 e4 => q H4 ((e2.trans e3).trans e4)) E
theorem el_callL {sp : Sp} {E : XK} {xs zs : List V} (ha : EvL ta σ H xs) (hb : Ev tb σ H y) (hs : ∀ a H1, Ex H H1 → H1 a = some (.lst xs) → SpL sp [.ref a, y] H1 zs) : EvL (tCall sp [] E (tCons ta (tCons tb tNil))) σ H zs := fun H1 e Q q =>
  ha H1 e _ fun a H2 _ e2 h2 => hb H2 (e.trans e2) _ fun H3 e3 => hs a H3 ((e.trans e2).trans e3) (e3 _ _ h2) H3 (Ex.refl H3) Q (fun p H4 hp e4 h4 => q p H4 (fresh_back (e2.trans e3) hp) ((e2.trans e3).trans e4) h4) E
/-- three arguments, the first two new lists -/
theorem el_call3 {sp : Sp} {E : XK} {tc : TE} {xs ys zs : List V} (ha : EvL ta σ H xs) (hb : EvL tb σ H ys) (hc : Ev tc σ H z) (hs : ∀ a b H1, Ex H H1 → H1 a = some (.lst xs) → H1 b = some (.lst ys) → SpL sp [.ref a, .ref b, z] H1 zs) :
    EvL (tCall sp [] E (tCons ta (tCons tb (tCons tc tNil)))) σ H zs := fun H1 e Q q =>
  ha H1 e _ fun a H2 _ e2 h2 => hb H2 (e.trans e2) _ fun b H3 _ e3 h3 => hc H3 ((e.trans e2).trans e3) _ fun H4 e4 => hs a b H4 (((e.trans e2).trans e3).trans e4) (e4 _ _ (e3 _ _ h2)) (e4 _ _ h3) H4 (Ex.refl H4) Q
    (fun p H5 hp e5 h5 => q p H5 (fresh_back ((e2.trans e3).trans e4) hp) (((e2.trans e3).trans e4).trans e5) h5) E
/-- xs[::-1] of a new list -/
theorem el_rev {xs : List V} (ha : EvL ta σ H xs) : EvL (tRevL K ta) σ H xs.reverse := fun H1 e Q q => ha H1 e _ fun a H2 _ e2 h2 => ⟨a, xs, rfl, sq_of h2, fun p hp => q p _ (fresh_back e2 hp) (e2.trans (Ex.new hp)) upd_same⟩
/-- x = [xs, ys], both new -/
theorem q_lst2 {i : Nat} {xs ys : List V} (ha : EvL ta σ H xs) (hb : EvL tb σ H ys) (q : ∀ p a b H2, H p = none → H a = none → H b = none → Ex H H2 → H2 p = some (.lst [.ref a, .ref b]) → H2 a = some (.lst xs) → H2 b = some (.lst ys) → tz D (σ.set i (some (.ref p))) H2) :
    tSeq (tAsg (tLst (tCons ta (tCons tb tNil))) (gName i)) tz D σ H := ha H (Ex.refl H) _ fun a H2 na e2 h2 => hb H2 e2 _ fun b H3 nb e3 h3 => ⟨by show 2 ≤ sizeLine; decide, fun p hp =>
  q p a b _ (fresh_back (e2.trans e3) hp) na (fresh_back e2 nb) ((e2.trans e3).trans (Ex.new hp)) upd_same (Ex.new hp _ _ (e3 _ _ h2)) (Ex.new hp _ _ h3)⟩
theorem et_yes : EvT tYes σ H true := fun H1 _ _ q => q H1 (Ex.refl H1)
theorem int_at {xs : List Int} {i : Nat} {x : V} (h : (xs.map V.int)[i]? = some x) : ∃ z, xs[i]? = some z ∧ x = .int z := by
  rw [List.getElem?_map] at h
  cases e : xs[i]? with
  | none =>
    rw [e] at h
    cases h
  | some z =>
    rw [e] at h
    exact ⟨z, rfl, (Option.some.inj h).symm⟩
theorem range_getD (xs : List Int) : (List.range xs.length).map (fun i => xs.getD i 0) = xs := by
  refine List.ext_getElem? fun i => ?_
  rw [List.getElem?_map]
  by_cases h : i < xs.length
  · rw [List.getElem?_range h, List.getElem?_eq_getElem h]
    show some (xs.getD i 0) = _
    rw [List.getD_eq_getElem?_getD, List.getElem?_eq_getElem h]
    rfl
  · rw [List.getElem?_eq_none (by rw [List.length_range]; omega), List.getElem?_eq_none (by omega)]
    rfl
/-- a comprehension over range(a, b) -/
theorem el_lcR2 {ta : TA} {j : Nat} {vs : List Nat} {lo n : Int} (f : Nat → Bool) (v : Nat → V) (h : EvA ta σ H [.int lo, .int n]) (hn : 0 ≤ lo ∧ lo ≤ 1000 ∧ -1000 ≤ n ∧ n ≤ 30000) (hw : ∀ x, wipe ((wipe σ vs).set j (some x)) vs = wipe σ vs)
    (ht : ∀ (i : Nat) H1, Ex H H1 → lo + (i : Int) < n → EvT t ((wipe σ vs).set j (some (.int (lo + (i : Int))))) H1 (f i)) (he : ∀ (i : Nat) H1, Ex H H1 → lo + (i : Int) < n → f i = true → Ev te ((wipe σ vs).set j (some (.int (lo + (i : Int))))) H1 (v i)) :
    EvL (tLc (iRng2 ta) (gName j) t te vs) σ H (given (n - lo).toNat f v) := fun H0 e Q q => h H0 e _ fun H1 e1 => ⟨lo, n, rfl, ⟨by omega, by omega, by omega, by omega⟩, fun Dl hD =>
  lc_range (lo := lo) (n := (n - lo).toNat) (Cw H1 f v Dl) ⟨hD, Ex.new hD, upd_same⟩ (fun i H' hi p => ⟨hw _, cw_turn p (by omega) (ht i H1 (e.trans e1) (by omega)) (fun hf => he i H1 (e.trans e1) (by omega) hf)⟩)
    (fun H' p => q Dl H' (fresh_back e1 p.1) (e1.trans p.2.1) p.2.2)⟩
theorem given_mem {n : Nat} {f : Nat → Bool} {v : Nat → V} {j : Nat} {x : V} (h : (given n f v)[j]? = some x) : ∃ i, i < n ∧ f i = true ∧ x = v i := by
  have hx := List.mem_of_getElem? h
  unfold given at hx
  obtain ⟨i, hi, e⟩ := List.mem_map.mp hx
  obtain ⟨h1, h2⟩ := List.mem_filter.mp hi
  exact ⟨i, List.mem_range.mp h1, h2, e.symm⟩
/-- a comprehension without a test -/
theorem given_all (xs : List Int) (g : Int → Int) : given xs.length (fun _ => true) (fun i => V.int (g (xs.getD i 0))) = (xs.map g).map V.int := by
  unfold given
  rw [List.filter_eq_self.mpr fun _ _ => rfl]
  have e := congrArg (List.map fun x => V.int (g x)) (range_getD xs)
  rw [List.map_map] at e
  rw [List.map_map]
  exact e
/-- .. with one -/
theorem given_if (xs : List Int) (p : Int → Bool) (g : Int → Int) : given xs.length (fun i => p (xs.getD i 0)) (fun i => V.int (g (xs.getD i 0))) = ((xs.filter p).map g).map V.int := by
  unfold given
  have e : xs.filter p = ((List.range xs.length).filter fun i => p (xs.getD i 0)).map fun i => xs.getD i 0 := by
    have h := congrArg (List.filter p) (range_getD xs)
    rw [List.filter_map] at h
    exact h.symm
  rw [e, List.map_map, List.map_map]
  rfl
theorem given_pos (xs : List Int) (p : Int → Bool) : decide ((0 : Int) < ((given xs.length (fun i => p (xs.getD i 0)) (fun i => V.int (xs.getD i 0))).length : Int)) = xs.any p := by
  have e0 : given xs.length (fun i => p (xs.getD i 0)) (fun i => V.int (xs.getD i 0)) = ((xs.filter p).map id).map V.int := given_if xs p id
  rw [e0, List.length_map, List.length_map]
  by_cases h : xs.any p = true
  · rw [h]
    obtain ⟨x, hx, px⟩ := List.any_eq_true.mp h
    exact decide_eq_true (Int.ofNat_lt.mpr (List.length_pos_of_mem (List.mem_filter.mpr ⟨hx, px⟩)))
  · rw [Bool.not_eq_true] at h
    rw [h]
    refine decide_eq_false fun z => ?_
    have z2 : 0 < (xs.filter p).length := Int.ofNat_lt.mp z
    obtain ⟨x, hx⟩ := List.exists_mem_of_length_pos z2
    obtain ⟨h1, h2⟩ := List.mem_filter.mp hx
    have : xs.any p = true := List.any_eq_true.mpr ⟨x, h1, h2⟩
    rw [h] at this
    cases this
/-! lists of ints compared -/
theorem dp_ints {a : Addr} {ns : List Int} (h : SqL K H a (ns.map V.int)) : Dp K H (.ref a) (.list (ns.map PyData.int)) := by
  refine Dp.lst h ?_
  clear h
  induction ns with
  | nil => exact DpAll.nil
  | cons n ns ih => exact DpAll.cons (Dp.int n) ih
theorem shaped_ints (ns : List Int) : SeqAt.shaped (.list (ns.map PyData.int)) = true := by
  have h1 : ∀ ns : List Int, PyData.canLayAll0 (ns.map PyData.int) = true := fun ns => by
    induction ns with
    | nil => rfl
    | cons n ns ih => simp only [List.map_cons, PyData.canLayAll0, ih, Bool.and_true]; rfl
  have h2 : ∀ ns : List Int, PyData.depthAll (ns.map PyData.int) ≤ 1 := fun ns => by
    induction ns with
    | nil => exact Nat.zero_le _
    | cons n ns ih =>
      simp only [List.map_cons, PyData.depthAll, PyData.depth]
      omega
  have a := h1 ns
  have b := h2 ns
  have c : PyData.depth (.list (ns.map PyData.int)) ≤ 64 := by
    rw [PyData.depth]
    omega
  unfold SeqAt.shaped
  rw [PyData.canLay0, a, decide_eq_true c]
  rfl
theorem eqv_ints (ns ms : List Int) : PyData.eqv (.list (ns.map PyData.int)) (.list (ms.map PyData.int)) = decide (ns = ms) := by
  rw [PyData.eqv]
  exact PySem.W.ked_eqvAll ns ms
/-- a list of two lists, and a new one of the same two -/
theorem shaped_two (ns ms : List Int) : SeqAt.shaped (.list [.list (ns.map PyData.int), .list (ms.map PyData.int)]) = true := by
  have h := shaped_ints ns
  have g := shaped_ints ms
  unfold SeqAt.shaped at h g ⊢
  rw [Bool.and_eq_true, decide_eq_true_eq] at h g
  have d : ∀ ns : List Int, PyData.depth (.list (ns.map PyData.int)) ≤ 2 := fun ns => by
    have k : ∀ ns : List Int, PyData.depthAll (ns.map PyData.int) ≤ 1 := fun ns => by
      induction ns with
      | nil => exact Nat.zero_le _
      | cons n ns ih =>
        simp only [List.map_cons, PyData.depthAll, PyData.depth]
        omega
    have := k ns
    rw [PyData.depth]
    omega
  have d1 := d ns
  have d2 := d ms
  have c : PyData.depth (.list [.list (ns.map PyData.int), .list (ms.map PyData.int)]) ≤ 64 := by
    rw [PyData.depth, PyData.depthAll, PyData.depthAll, PyData.depthAll]
    omega
  rw [decide_eq_true c, PyData.canLay0, PyData.canLayAll0, PyData.canLayAll0, PyData.canLayAll0, h.1, g.1]
  rfl
theorem et_neTwo {p a b : Addr} {ns ms : List Int} {tc : TE} {c d : Addr} (hp : H p = some (.lst [.ref a, .ref b])) (ha : SqL K H a (ns.map V.int)) (hb : SqL K H b (ms.map V.int)) (e1 : Ev ta σ H (.ref p)) (e2 : Ev tb σ H (.ref c)) (e3 : Ev tc σ H (.ref d))
    (hc : SqL K H c (ns.map V.int)) (hd : SqL K H d (ms.map V.int)) : EvT (tTest (tOp (rNeD K) ta (tLst (tCons tb (tCons tc tNil))))) σ H false := fun H1 e Q q =>
  e1 H1 e _ fun H2 h2 => e2 H2 (e.trans h2) _ fun H3 h3 => e3 H3 ((e.trans h2).trans h3) _ fun H4 h4 => ⟨by show 2 ≤ sizeLine; decide, fun r hr => by
    have E4 := ((e.trans h2).trans h3).trans h4
    have E5 : Ex H4 (upd H4 r (.lst [V.ref c, V.ref d])) := Ex.new hr
    refine ⟨.list [.list (ns.map PyData.int), .list (ms.map PyData.int)], .list [.list (ns.map PyData.int), .list (ms.map PyData.int)], Dp.lst (sq_of (E5 _ _ (E4 _ _ hp))) (.cons (dp_ints (ex_l (E4.trans E5) ha)) (.cons (dp_ints (ex_l (E4.trans E5) hb)) .nil)),
      Dp.lst (sq_of upd_same) (.cons (dp_ints (ex_l (E4.trans E5) hc)) (.cons (dp_ints (ex_l (E4.trans E5) hd)) .nil)), shaped_two ns ms, shaped_two ns ms, false, ?_, q _ (((h2.trans h3).trans h4).trans E5)⟩
    have g : PyData.eqv (.list [.list (ns.map PyData.int), .list (ms.map PyData.int)]) (.list [.list (ns.map PyData.int), .list (ms.map PyData.int)]) = true := by
      rw [PyData.eqv, PyData.eqvAll, PyData.eqvAll, PyData.eqvAll, eqv_ints, eqv_ints, decide_eq_true rfl, decide_eq_true rfl]
      rfl
    rw [g]
    rfl⟩
theorem rv_eqL {a b : Addr} {ns ms : List Int} (ha : SqL K H a (ns.map V.int)) (hb : SqL K H b (ms.map V.int)) : RV (rEqD K) (.ref a) (.ref b) H (.bl (decide (ns = ms))) := fun H1 e Q q =>
  ⟨_, _, dp_ints (ex_l e ha), dp_ints (ex_l e hb), shaped_ints ns, shaped_ints ms, by
    rw [eqv_ints]
    exact q H1 (Ex.refl H1)⟩
theorem rv_neL {a b : Addr} {ns ms : List Int} (ha : SqL K H a (ns.map V.int)) (hb : SqL K H b (ms.map V.int)) : RV (rNeD K) (.ref a) (.ref b) H (.bl (!decide (ns = ms))) := fun H1 e Q q =>
  ⟨_, _, dp_ints (ex_l e ha), dp_ints (ex_l e hb), shaped_ints ns, shaped_ints ms, by
    rw [eqv_ints]
    exact q H1 (Ex.refl H1)⟩
end
end Sr
namespace Sr
open PySem PySem.Spec PyProof.Rows L2 Evl
/-! ### the promises: arguments, what they must be, what comes out -/
section
variable (K : PySem.W.Frag)
/-- the k-th cell of the script, or nought -/
def cell (cs : List Int) (k : Int) : Int := cs.getD k.toNat 0
def spCell : Sp := fun vs H Q _ => ∃ (a : Addr) (cs : List Int) (k : Int), vs = [.ref a, .int k] ∧ SqL K H a (cs.map V.int) ∧ 0 ≤ k ∧ RetV (.int (cell cs k)) H Q
/-- is it a whole number -/
def isInt : V → Bool
  | .int _ => true
  | _ => false
def spWhole : Sp := fun vs H Q _ => ∃ x : V, vs = [x] ∧ (∃ i, x = .int i) ∧ RetV (.bl true) H Q
def numberBy (c way : Int) : Int :=
  if way = 0 then c % 9 - 4 else if way = 1 then c % 2 else if way = 2 then c % 2000000000001 - 1000000000000 else
    if c % 3 = 0 then 1000000000000 else if c % 3 = 1 then -1000000000000 else 1000000000000 - c / 3 % 99
theorem numberBy_le (c way : Int) : -1000000000000 ≤ numberBy c way ∧ numberBy c way ≤ 1000000000000 := by
  unfold numberBy
  split
  · omega
  · split
    · omega
    · split
      · omega
      · split
        · omega
        · split <;> omega
def spNumBy : Sp := fun vs H Q _ => ∃ (c way : Int), vs = [.int c, .int way] ∧ RetV (.int (numberBy c way)) H Q
def kindAt (way : Int) (k : Nat) : Int := if way > 3 then (way + (k : Int) / 2) % 4 else way
/-- the drawn numbers -/
def drawn (cs : List Int) (first : Int) (count : Nat) (way : Int) : List Int := (List.range count).map fun k : Nat => numberBy (cell cs (first + (k : Int))) (kindAt way k)
theorem drawn_len (cs : List Int) (first : Int) (count : Nat) (way : Int) : (drawn cs first count way).length = count := by
  unfold drawn
  rw [List.length_map, List.length_range]
theorem drawn_le {cs : List Int} {first : Int} {count : Nat} {way x : Int} (h : x ∈ drawn cs first count way) : -1000000000000 ≤ x ∧ x ≤ 1000000000000 := by
  unfold drawn at h
  obtain ⟨k, _, e⟩ := List.mem_map.mp h
  rw [← e]
  exact numberBy_le _ _
def spNums : Sp := fun vs H Q _ => ∃ (a : Addr) (cs : List Int) (first : Int) (count : Nat) (way : Int), vs = [.ref a, .int first, .int (count : Int), .int way] ∧ SqL K H a (cs.map V.int) ∧ 0 ≤ first ∧ count ≤ 1000 ∧
  RetL ((drawn cs first count way).map V.int) H Q
/-- the set of a list: its rests, rising -/
def hasRest (n : Int) (xs : List Int) (r : Int) : Bool := xs.any fun x => decide ((x - r) % n = 0)
def rset (n : Nat) (xs : List Int) : List Int := ((List.range n).map fun i : Nat => (i : Int)).filter (hasRest n xs)
def goodN (n : Int) : Prop := 1 ≤ n ∧ n ≤ 24
/-- see_round: nothing, or BadRound (the class at C) -/
def spSee (C : Addr) : Sp := fun vs H Q E => ∃ n : Int, vs = [.int n] ∧ (goodN n → RetV .non H Q) ∧ (¬ goodN n → ∀ H2, Ex H H2 → E (.ref C) none H2)
/-- a list and a round: refused, or a new list -/
def spRests (C : Addr) : Sp := fun vs H Q E => ∃ (a : Addr) (xs : List Int) (n : Int), vs = [.ref a, .int n] ∧ SqL K H a (xs.map V.int) ∧ xs.length ≤ 2000 ∧ (goodN n → RetL ((rset n.toNat xs).map V.int) H Q) ∧ (¬ goodN n → ∀ H2, Ex H H2 → E (.ref C) none H2)
def spLawSet : Sp := fun vs H Q _ => ∃ (a : Addr) (xs : List Int) (n : Int), vs = [.ref a, .int n] ∧ SqL K H a (xs.map V.int) ∧ xs.length ≤ 2000 ∧ goodN n ∧ RetL ((rset n.toNat xs).map V.int) H Q
/-- a list of whole numbers, and the one that is due -/
def spIsSet : Sp := fun vs H Q _ => ∃ (a b : Addr) (xs ys : List Int), vs = [.ref a, .ref b] ∧ H a = some (.lst (xs.map V.int)) ∧ SqL K H b (ys.map V.int) ∧ RetV (.bl (decide (xs = ys))) H Q
/-- law's -/
def spLaw : Sp := fun vs H Q _ => ∃ (a : Addr) (ns : List Int), vs = [.ref a] ∧ SqL K H a (ns.map V.int) ∧ ns.length ≤ 63 ∧ ∀ H', Q (.bl true) H'
end
/-! the promises as values -/
section
variable {K : PySem.W.Frag} {H : Hp}
theorem spv_cell {a : Addr} {cs : List Int} {k : Int} (h : SqL K H a (cs.map V.int)) (hk : 0 ≤ k) : SpV (spCell K) [.ref a, .int k] H (.int (cell cs k)) := fun H1 e Q q E => ⟨a, cs, k, rfl, ex_l e h, hk, fun H2 e2 => q H2 e2⟩
theorem spv_whole {i : Int} : SpV spWhole [.int i] H (.bl true) := fun H1 e Q q E => ⟨_, rfl, ⟨i, rfl⟩, fun H2 e2 => q H2 e2⟩
theorem spv_numBy {c way : Int} : SpV spNumBy [.int c, .int way] H (.int (numberBy c way)) := fun H1 e Q q E => ⟨c, way, rfl, fun H2 e2 => q H2 e2⟩
theorem spl_nums {a : Addr} {cs : List Int} {first way : Int} {count : Nat} (h : SqL K H a (cs.map V.int)) (hf : 0 ≤ first) (hc : count ≤ 1000) : SpL (spNums K) [.ref a, .int first, .int (count : Int), .int way] H ((drawn cs first count way).map V.int) := fun H1 e Q q E =>
  ⟨a, cs, first, count, way, rfl, ex_l e h, hf, hc, fun p H2 hp e2 h2 => q p H2 hp e2 h2⟩
theorem spl_rests {C a : Addr} {xs : List Int} {n : Int} (h : SqL K H a (xs.map V.int)) (hl : xs.length ≤ 2000) (hn : goodN n) : SpL (spRests K C) [.ref a, .int n] H ((rset n.toNat xs).map V.int) := fun H1 e Q q E =>
  ⟨a, xs, n, rfl, ex_l e h, hl, fun _ p H2 hp e2 h2 => q p H2 hp e2 h2, fun z => absurd hn z⟩
theorem spl_lawSet {a : Addr} {xs : List Int} {n : Int} (h : SqL K H a (xs.map V.int)) (hl : xs.length ≤ 2000) (hn : goodN n) : SpL (spLawSet K) [.ref a, .int n] H ((rset n.toNat xs).map V.int) := fun H1 e Q q E =>
  ⟨a, xs, n, rfl, ex_l e h, hl, hn, fun p H2 hp e2 h2 => q p H2 hp e2 h2⟩
theorem spv_isSet {a b : Addr} {xs ys : List Int} (h : H a = some (.lst (xs.map V.int))) (h2 : SqL K H b (ys.map V.int)) : SpV (spIsSet K) [.ref a, .ref b] H (.bl (decide (xs = ys))) := fun H1 e Q q E =>
  ⟨a, b, xs, ys, rfl, e _ _ h, ex_l e h2, fun H2 e2 => q H2 e2⟩
end
/-- see_round(n), and what follows it -/
theorem q_see {K : PySem.W.Frag} {H : Hp} {σ : L2.St} {te : TE} {D : Ends} {tz : TS} {C : Addr} {E : XK} {n : Int} (h : Ev te σ H (.int n)) (k : goodN n → ∀ H1, Ex H H1 → tz D σ H1) (kE : ¬ goodN n → ∀ H1, Ex H H1 → E (.ref C) none H1) :
    tSeq (tDrop (tCall (spSee C) [] E (tCons te tNil))) tz D σ H := h H (Ex.refl H) _ fun H1 e1 => ⟨n, rfl, fun g H2 e2 => k g H2 (e1.trans e2), fun g H2 e2 => kE g H2 (e1.trans e2)⟩
/-! the sets' mathematics -/
theorem mem_rset {n : Nat} {xs : List Int} {k : Int} : k ∈ rset n xs ↔ 0 ≤ k ∧ k < n ∧ ∃ x ∈ xs, (x - k) % (n : Int) = 0 := by
  unfold rset hasRest
  rw [List.mem_filter, List.mem_map]
  simp only [List.mem_range, List.any_eq_true, decide_eq_true_eq]
  constructor
  · rintro ⟨⟨i, hi, e⟩, x⟩
    exact ⟨by omega, by omega, x⟩
  · rintro ⟨h0, h1, x⟩
    exact ⟨⟨k.toNat, by omega, by omega⟩, x⟩
theorem rset_rises (n : Nat) (xs : List Int) : (rset n xs).Pairwise (· < ·) := by
  unfold rset
  refine List.Pairwise.filter _ ?_
  rw [List.pairwise_map]
  refine List.Pairwise.imp ?_ (List.pairwise_lt_range (n := n))
  intro a b h
  exact Int.ofNat_lt.mpr h
theorem rset_len (n : Nat) (xs : List Int) : (rset n xs).length ≤ n := by
  unfold rset
  refine Nat.le_trans (List.length_filter_le _ _) ?_
  rw [List.length_map, List.length_range]
  exact Nat.le_refl _
end Sr
namespace Sr
open PySem PySem.Spec PyProof.Rows L2 Evl
/-- the script's cell, as the laws ask it: _law_cell_at(script, k), the script in slot 0 -/
theorem ev_cell {K : PySem.W.Frag} {σ : L2.St} {H H' : Hp} {a : Addr} {cs : List Int} {k : Int} {ta tb : TE} {E : XK} (hS : SqL K H a (cs.map V.int)) (e : Ex H H') (ha : Ev ta σ H' (.ref a)) (hb : Ev tb σ H' (.int k)) (hk : 0 ≤ k) :
    Ev (tCall (spCell K) [] E (tCons ta (tCons tb tNil))) σ H' (.int (cell cs k)) := ev_call (ea_cons ha (ea_cons hb ea_nil)) (spv_cell (ex_l e hS) hk)
/-- how many numbers a law draws: as the script's cell says, or as the script is long -/
theorem countOf (d L w k off most m : Int) (hd : 0 ≤ d ∧ d ≤ m) (hm : 0 ≤ most ∧ most ≤ m) (hL : L ≤ 63) (ho : 0 ≤ off) : ∃ c : Nat, (c : Int) ≤ m ∧ (c : Int) = if w = k then (if most < (if (L - off) > 0 then L - off else 0) then most else (if (L - off) > 0 then L - off else 0)) else d := by
  have g : 0 ≤ (if w = k then (if most < (if (L - off) > 0 then L - off else 0) then most else (if (L - off) > 0 then L - off else 0)) else d) ∧ (if w = k then (if most < (if (L - off) > 0 then L - off else 0) then most else (if (L - off) > 0 then L - off else 0)) else d) ≤ m := by
    split
    · split
      · omega
      · split at * <;> omega
    · omega
  exact ⟨(if w = k then (if most < (if (L - off) > 0 then L - off else 0) then most else (if (L - off) > 0 then L - off else 0)) else d).toNat, by omega, by omega⟩
theorem goodN_of (c : Int) : goodN (1 + c % 24) := by
  unfold goodN
  omega
end Sr
namespace Sr
open PySem PySem.Spec PyProof.Rows L2 Evl
/-! ### sums, shifts, stays -/
theorem rset_congr {n : Nat} {xs ys : List Int} (h : ∀ r, hasRest n xs r = hasRest n ys r) : rset n xs = rset n ys := by
  unfold rset
  rw [show hasRest (n : Int) xs = hasRest n ys from funext h]
theorem hasRest_true {n : Int} {xs : List Int} {r : Int} : hasRest n xs r = true ↔ ∃ x ∈ xs, (x - r) % n = 0 := by
  unfold hasRest
  rw [List.any_eq_true]
  simp only [decide_eq_true_eq]
theorem rset_same {n : Nat} {xs ys : List Int} (h1 : ∀ x ∈ xs, ∃ y ∈ ys, (x - y) % (n : Int) = 0) (h2 : ∀ y ∈ ys, ∃ x ∈ xs, (y - x) % (n : Int) = 0) : rset n xs = rset n ys := by
  refine rset_congr fun r => ?_
  rw [Bool.eq_iff_iff, hasRest_true, hasRest_true]
  have key : ∀ {a b r : Int}, (a - b) % (n : Int) = 0 → (a - r) % (n : Int) = 0 → (b - r) % (n : Int) = 0 := fun {a b r} h g => by
    have d1 := Int.dvd_of_emod_eq_zero h
    have d2 := Int.dvd_of_emod_eq_zero g
    have e : b - r = (a - r) - (a - b) := by omega
    rw [e]
    exact Int.emod_eq_zero_of_dvd (Int.dvd_sub d2 d1)
  constructor
  · rintro ⟨x, hx, e⟩
    obtain ⟨y, hy, g⟩ := h1 x hx
    exact ⟨y, hy, key g e⟩
  · rintro ⟨y, hy, e⟩
    obtain ⟨x, hx, g⟩ := h2 y hy
    exact ⟨x, hx, key g e⟩
/-- all sums of a number of the one and a number of the other -/
def pairs (A B : List Int) : List Int := A.flatMap fun a => B.map fun b => a + b
theorem mem_pairs {A B : List Int} {x : Int} : x ∈ pairs A B ↔ ∃ a ∈ A, ∃ b ∈ B, x = a + b := by
  unfold pairs
  rw [List.mem_flatMap]
  constructor
  · rintro ⟨a, ha, h⟩
    obtain ⟨b, hb, e⟩ := List.mem_map.mp h
    exact ⟨a, ha, b, hb, e.symm⟩
  · rintro ⟨a, ha, b, hb, e⟩
    exact ⟨a, ha, List.mem_map.mpr ⟨b, hb, e.symm⟩⟩
theorem pairs_len (A B : List Int) : (pairs A B).length = A.length * B.length := by
  unfold pairs
  induction A with
  | nil => simp
  | cons a A ih => rw [List.flatMap_cons, List.length_append, ih, List.length_map, List.length_cons, Nat.add_mul, Nat.one_mul, Nat.add_comm]
def ssum (n : Nat) (xs ys : List Int) : List Int := rset n (pairs (rset n xs) (rset n ys))
theorem ssum_comm (n : Nat) (xs ys : List Int) : ssum n xs ys = ssum n ys xs := by
  unfold ssum
  have z : ∀ x : Int, (x - x) % (n : Int) = 0 := fun x => by rw [Int.sub_self]; exact Int.zero_emod _
  refine rset_same (fun x hx => ?_) (fun x hx => ?_)
  all_goals
    obtain ⟨a, ha, b, hb, e⟩ := mem_pairs.mp hx
    exact ⟨x, mem_pairs.mpr ⟨b, hb, a, ha, by rw [e, Int.add_comm]⟩, z x⟩
theorem pairs_le {n : Nat} (hn : n ≤ 24) (xs ys : List Int) : (pairs (rset n xs) (rset n ys)).length ≤ 576 := by
  rw [pairs_len]
  have h1 := rset_len n xs
  have h2 := rset_len n ys
  exact Nat.mul_le_mul (Nat.le_trans h1 hn) (Nat.le_trans h2 hn)
def spSums (K : PySem.W.Frag) (C : Addr) : Sp := fun vs H Q E => ∃ (a b : Addr) (xs ys : List Int) (n : Int), vs = [.ref a, .ref b, .int n] ∧ SqL K H a (xs.map V.int) ∧ SqL K H b (ys.map V.int) ∧ xs.length ≤ 2000 ∧ ys.length ≤ 2000 ∧
  (goodN n → RetL ((ssum n.toNat xs ys).map V.int) H Q) ∧ (¬ goodN n → ∀ H2, Ex H H2 → E (.ref C) none H2)
def spLawSums (K : PySem.W.Frag) : Sp := fun vs H Q _ => ∃ (a b : Addr) (xs ys : List Int) (n : Int), vs = [.ref a, .ref b, .int n] ∧ SqL K H a (xs.map V.int) ∧ SqL K H b (ys.map V.int) ∧ xs.length ≤ 2000 ∧ ys.length ≤ 2000 ∧ goodN n ∧ RetL ((ssum n.toNat xs ys).map V.int) H Q
/-- a list shifted -/
def sshift (n : Nat) (xs : List Int) (by' : Int) : List Int := rset n (xs.map fun x => x + by')
def spShifted (K : PySem.W.Frag) (C : Addr) : Sp := fun vs H Q E => ∃ (a : Addr) (xs : List Int) (b n : Int), vs = [.ref a, .int b, .int n] ∧ SqL K H a (xs.map V.int) ∧ xs.length ≤ 2000 ∧
  (goodN n → RetL ((sshift n.toNat xs b).map V.int) H Q) ∧ (¬ goodN n → ∀ H2, Ex H H2 → E (.ref C) none H2)
theorem shift_mod (n : Nat) (hn : 0 < n) (xs : List Int) (b : Int) : rset n (xs.map fun x => x % (n : Int) + b) = sshift n xs b := by
  unfold sshift
  have k : ∀ x : Int, (x % (n : Int) + b - (x + b)) % (n : Int) = 0 := fun x => by
    have e : x % (n : Int) + b - (x + b) = -(x / (n : Int) * n) := by
      have := Int.mul_ediv_add_emod x n
      rw [Int.mul_comm] at this
      omega
    rw [e]
    exact Int.emod_eq_zero_of_dvd (Int.dvd_neg.mpr (Int.dvd_mul_left _ _))
  have k2 : ∀ x : Int, (x + b - (x % (n : Int) + b)) % (n : Int) = 0 := fun x => by
    have e : x + b - (x % (n : Int) + b) = -(x % (n : Int) + b - (x + b)) := by omega
    rw [e]
    exact Int.emod_eq_zero_of_dvd (Int.dvd_neg.mpr (Int.dvd_of_emod_eq_zero (k x)))
  refine rset_same (fun y hy => ?_) (fun y hy => ?_)
  · obtain ⟨x, hx, rfl⟩ := List.mem_map.mp hy
    exact ⟨_, List.mem_map.mpr ⟨x, hx, rfl⟩, k x⟩
  · obtain ⟨x, hx, rfl⟩ := List.mem_map.mp hy
    exact ⟨_, List.mem_map.mpr ⟨x, hx, rfl⟩, k2 x⟩
/-- what a number's bits tell -/
def halfN (c : Int) : Nat → Int
  | 0 => c
  | i + 1 => halfN c i / 2
def bits (c : Int) (n : Nat) : List Int := ((List.range n).filter fun i => decide (halfN c i % 2 = 1)).map fun i : Nat => (i : Int)
theorem bits_len (c : Int) (n : Nat) : (bits c n).length ≤ n := by
  unfold bits
  rw [List.length_map]
  refine Nat.le_trans (List.length_filter_le _ _) ?_
  rw [List.length_range]
  exact Nat.le_refl _
theorem bits_succ (c : Int) (n : Nat) : bits c (n + 1) = bits c n ++ (if halfN c n % 2 = 1 then [(n : Int)] else []) := by
  unfold bits
  rw [List.range_succ, List.filter_append, List.map_append, List.filter_cons]
  by_cases h : halfN c n % 2 = 1
  · rw [if_pos (decide_eq_true h), if_pos h]
    rfl
  · rw [if_neg (by rw [decide_eq_false h]; decide), if_neg h]
    rfl
def spBits : Sp := fun vs H Q _ => ∃ (c n : Int), vs = [.int c, .int n] ∧ goodN n ∧ RetL ((bits c n.toNat).map V.int) H Q
/-- the shifts that leave a set as it is -/
def stayL (n : Nat) (xs : List Int) : List Int := ((List.range n).map fun i : Nat => (i : Int)).filter fun b => decide (sshift n (rset n xs) b = rset n xs)
def spStays (K : PySem.W.Frag) (C : Addr) : Sp := fun vs H Q E => ∃ (a : Addr) (xs : List Int) (n : Int), vs = [.ref a, .int n] ∧ SqL K H a (xs.map V.int) ∧ xs.length ≤ 2000 ∧
  (goodN n → RetL ((stayL n.toNat xs).map V.int) H Q) ∧ (¬ goodN n → ∀ H2, Ex H H2 → E (.ref C) none H2)
/-- the least divisor of the round that does -/
def IsStep (n : Int) (xs : List Int) (d : Int) : Prop := 1 ≤ d ∧ d ≤ n ∧ n % d = 0 ∧ sshift n.toNat (rset n.toNat xs) d = rset n.toNat xs ∧ ∀ b : Int, 1 ≤ b → b < d → n % b = 0 → sshift n.toNat (rset n.toNat xs) b ≠ rset n.toNat xs
def spStep (K : PySem.W.Frag) (C : Addr) : Sp := fun vs H Q E => ∃ (a : Addr) (xs : List Int) (n : Int), vs = [.ref a, .int n] ∧ SqL K H a (xs.map V.int) ∧ xs.length ≤ 2000 ∧
  (goodN n → ∀ d, IsStep n xs d → RetV (.int d) H Q) ∧ (¬ goodN n → ∀ H2, Ex H H2 → E (.ref C) none H2)
section
variable {K : PySem.W.Frag} {H : Hp}
theorem spl_sums {C a b : Addr} {xs ys : List Int} {n : Int} (h : SqL K H a (xs.map V.int)) (h2 : SqL K H b (ys.map V.int)) (hl : xs.length ≤ 2000) (hl2 : ys.length ≤ 2000) (hn : goodN n) : SpL (spSums K C) [.ref a, .ref b, .int n] H ((ssum n.toNat xs ys).map V.int) := fun H1 e Q q E =>
  ⟨a, b, xs, ys, n, rfl, ex_l e h, ex_l e h2, hl, hl2, fun _ p H2 hp e2 h2 => q p H2 hp e2 h2, fun z => absurd hn z⟩
theorem spl_lawSums {a b : Addr} {xs ys : List Int} {n : Int} (h : SqL K H a (xs.map V.int)) (h2 : SqL K H b (ys.map V.int)) (hl : xs.length ≤ 2000) (hl2 : ys.length ≤ 2000) (hn : goodN n) : SpL (spLawSums K) [.ref a, .ref b, .int n] H ((ssum n.toNat xs ys).map V.int) := fun H1 e Q q E =>
  ⟨a, b, xs, ys, n, rfl, ex_l e h, ex_l e h2, hl, hl2, hn, fun p H2 hp e2 h2 => q p H2 hp e2 h2⟩
theorem spl_shifted {C a : Addr} {xs : List Int} {b n : Int} (h : SqL K H a (xs.map V.int)) (hl : xs.length ≤ 2000) (hn : goodN n) : SpL (spShifted K C) [.ref a, .int b, .int n] H ((sshift n.toNat xs b).map V.int) := fun H1 e Q q E =>
  ⟨a, xs, b, n, rfl, ex_l e h, hl, fun _ p H2 hp e2 h2 => q p H2 hp e2 h2, fun z => absurd hn z⟩
theorem spl_stays {C a : Addr} {xs : List Int} {n : Int} (h : SqL K H a (xs.map V.int)) (hl : xs.length ≤ 2000) (hn : goodN n) : SpL (spStays K C) [.ref a, .int n] H ((stayL n.toNat xs).map V.int) := fun H1 e Q q E =>
  ⟨a, xs, n, rfl, ex_l e h, hl, fun _ p H2 hp e2 h2 => q p H2 hp e2 h2, fun z => absurd hn z⟩
theorem spl_bits {c n : Int} (hn : goodN n) : SpL spBits [.int c, .int n] H ((bits c n.toNat).map V.int) := fun H1 e Q q E => ⟨c, n, rfl, hn, fun p H2 hp e2 h2 => q p H2 hp e2 h2⟩
end
/-- a round's rests, refused or told, in an assignment that may raise -/
theorem q_rests {K : PySem.W.Frag} {H : Hp} {σ : L2.St} {ta tb : TE} {D : Ends} {tz : TS} {C : Addr} {E : XK} {i : Nat} {a : Addr} {xs : List Int} {n : Int} (h1 : Ev ta σ H (.ref a)) (h2 : Ev tb σ H (.int n)) (h : SqL K H a (xs.map V.int)) (hl : xs.length ≤ 2000)
    (k : goodN n → ∀ p H1, H p = none → Ex H H1 → H1 p = some (.lst ((rset n.toNat xs).map V.int)) → tz D (σ.set i (some (.ref p))) H1) (kE : ¬ goodN n → ∀ H1, Ex H H1 → E (.ref C) none H1) :
    tSeq (tAsg (tCall (spRests K C) [] E (tCons ta (tCons tb tNil))) (gName i)) tz D σ H := q_call (ea_cons h1 (ea_cons h2 ea_nil)) fun H1 e1 =>
  ⟨a, xs, n, rfl, ex_l e1 h, hl, fun g p H2 hp e2 h2 => k g p H2 (fresh_back e1 hp) (e1.trans e2) h2, fun g H2 e2 => kE g H2 (e1.trans e2)⟩
end Sr
namespace Sr
/-! ### subgroups of the whole numbers; the shifts that leave a set as it is -/
structure Subg (P : Int → Prop) : Prop where
  zero : P 0
  add : ∀ {a b}, P a → P b → P (a + b)
  neg : ∀ {a}, P a → P (-a)
theorem Subg.mulN {P : Int → Prop} (S : Subg P) {a : Int} (h : P a) : ∀ k : Nat, P ((k : Int) * a)
  | 0 => by
    have e : ((0 : Nat) : Int) * a = 0 := by simp
    rw [e]
    exact S.zero
  | k + 1 => by
    have ih := S.mulN h k
    have e : ((k + 1 : Nat) : Int) * a = (k : Int) * a + a := by
      rw [Int.natCast_add, Int.add_mul]
      simp
    rw [e]
    exact S.add ih h
theorem Subg.mul {P : Int → Prop} (S : Subg P) {a : Int} (h : P a) (k : Int) : P (k * a) := by
  rcases Int.le_total 0 k with g | g
  · have e : k = ((k.toNat : Nat) : Int) := by omega
    rw [e]
    exact S.mulN h _
  · have e : k * a = -((((-k).toNat : Nat) : Int) * a) := by
      have e2 : (((-k).toNat : Nat) : Int) = -k := by omega
      rw [e2, Int.neg_mul, Int.neg_neg]
    rw [e]
    exact S.neg (S.mulN h _)
theorem Subg.sub {P : Int → Prop} (S : Subg P) {a b : Int} (h : P a) (g : P b) : P (a - b) := by
  rw [Int.sub_eq_add_neg]
  exact S.add h (S.neg g)
/-- the least positive member divides all -/
theorem Subg.gen {P : Int → Prop} (S : Subg P) : ∀ (m : Nat) (n : Int), n.toNat = m → 0 < n → P n → ∃ d : Int, 0 < d ∧ d ≤ n ∧ ∀ b, P b ↔ d ∣ b := by
  intro m
  induction m using Nat.strongRecOn with
  | ind m ih =>
    intro n hm hn hP
    by_cases h : ∃ b, P b ∧ b % n ≠ 0
    · obtain ⟨b, hb, hne⟩ := h
      have h0 := Int.emod_nonneg b (show n ≠ 0 by omega)
      have h1 := Int.emod_lt_of_pos b hn
      have hr : P (b % n) := by
        have e : b % n = b - b / n * n := by
          have := Int.mul_ediv_add_emod b n
          rw [Int.mul_comm] at this
          omega
        rw [e]
        exact S.sub hb (S.mul hP _)
      obtain ⟨d, hd, hle, H⟩ := ih (b % n).toNat (by omega) (b % n) rfl (by omega) hr
      exact ⟨d, hd, by omega, H⟩
    · refine ⟨n, hn, Int.le_refl _, fun b => ⟨fun hb => ?_, fun hb => ?_⟩⟩
      · refine Int.dvd_of_emod_eq_zero ?_
        exact Classical.byContradiction fun z => h ⟨b, hb, z⟩
      · obtain ⟨k, rfl⟩ := hb
        rw [Int.mul_comm]
        exact S.mul hP k
/-- a set of whole numbers that a shift leaves as it is -/
def Per (f : Int → Prop) (t : Int) : Prop := ∀ x, f (x + t) ↔ f x
theorem per_subg (f : Int → Prop) : Subg (Per f) where
  zero := fun x => by rw [Int.add_zero]
  add := fun {a b} ha hb x => by
    rw [← Int.add_assoc]
    exact (hb _).trans (ha _)
  neg := fun {a} ha x => by
    have h := ha (x + -a)
    rw [show x + -a + a = x by omega] at h
    exact h.symm
/-! the lists -/
/-- the set that a list tells by a round -/
def In (n : Int) (xs : List Int) (r : Int) : Prop := ∃ x ∈ xs, (x - r) % n = 0
theorem In_per (n : Int) (xs : List Int) : Per (In n xs) n := fun r => by
  unfold In
  constructor
  · rintro ⟨x, hx, e⟩
    refine ⟨x, hx, ?_⟩
    have e2 : x - r = x - (r + n) + n := by omega
    rw [e2, Int.add_emod_right]
    exact e
  · rintro ⟨x, hx, e⟩
    refine ⟨x, hx, ?_⟩
    have e2 : x - (r + n) = x - r - n := by omega
    rw [e2, Int.sub_emod_right]
    exact e
theorem In_iff {n : Int} {xs : List Int} {r : Int} : hasRest n xs r = true ↔ In n xs r := hasRest_true
theorem In_mod {n : Int} (hn : 0 < n) {xs : List Int} {r : Int} : In n xs (r % n) ↔ In n xs r := by
  have h := (per_subg (In n xs)).mul (In_per n xs) (r / n)
  have e : r % n + r / n * n = r := by
    have := Int.mul_ediv_add_emod r n
    rw [Int.mul_comm] at this
    omega
  have g := h (r % n)
  rw [e] at g
  exact g.symm
theorem mem_rset_In {n : Nat} {xs : List Int} {k : Int} : k ∈ rset n xs ↔ 0 ≤ k ∧ k < n ∧ In n xs k := mem_rset
theorem In_rset {n : Nat} (hn : 0 < n) {xs : List Int} {r : Int} : In n (rset n xs) r ↔ In n xs r := by
  have hn' : (0 : Int) < n := by omega
  constructor
  · rintro ⟨x, hx, e⟩
    obtain ⟨h0, h1, y, hy, e2⟩ := mem_rset_In.mp hx
    refine ⟨y, hy, ?_⟩
    have d := Int.dvd_add (Int.dvd_of_emod_eq_zero e) (Int.dvd_of_emod_eq_zero e2)
    rw [show x - r + (y - x) = y - r by omega] at d
    exact Int.emod_eq_zero_of_dvd d
  · intro h
    refine ⟨r % n, mem_rset_In.mpr ⟨Int.emod_nonneg _ (by omega), Int.emod_lt_of_pos _ hn', (In_mod hn').mpr h⟩, ?_⟩
    have e : r % (n : Int) - r = -(r / n * n) := by
      have := Int.mul_ediv_add_emod r n
      rw [Int.mul_comm] at this
      omega
    rw [e]
    exact Int.emod_eq_zero_of_dvd (Int.dvd_neg.mpr (Int.dvd_mul_left _ _))
theorem rset_eq_iff {n : Nat} (hn : 0 < n) {xs ys : List Int} : rset n xs = rset n ys ↔ ∀ r, In n xs r ↔ In n ys r := by
  constructor
  · intro h r
    rw [← In_rset hn, h, In_rset hn]
  · intro h
    refine SrSet.sortedEq _ _ (rset_rises _ _) (rset_rises _ _) fun k => ?_
    rw [mem_rset_In, mem_rset_In, h k]
theorem rset_idem {n : Nat} (hn : 0 < n) (xs : List Int) : rset n (rset n xs) = rset n xs := (rset_eq_iff hn).mpr fun _ => In_rset hn
theorem In_shift {n : Int} {xs : List Int} {b r : Int} : In n (xs.map fun x => x + b) r ↔ In n xs (r - b) := by
  unfold In
  constructor
  · rintro ⟨x, hx, e⟩
    obtain ⟨y, hy, rfl⟩ := List.mem_map.mp hx
    exact ⟨y, hy, by rw [show y - (r - b) = y + b - r by omega]; exact e⟩
  · rintro ⟨y, hy, e⟩
    exact ⟨_, List.mem_map.mpr ⟨y, hy, rfl⟩, by rw [show y + b - r = y - (r - b) by omega]; exact e⟩
/-- a shift stays just where the set is periodic by it -/
theorem stay_iff {n : Nat} (hn : 0 < n) {xs : List Int} {b : Int} : sshift n (rset n xs) b = rset n xs ↔ Per (In n xs) b := by
  rw [← rset_idem hn xs]
  unfold sshift
  rw [rset_idem hn, rset_eq_iff hn]
  constructor
  · intro h r
    have g := h (r + b)
    rw [In_shift, show r + b - b = r by omega, In_rset hn] at g
    exact g.symm
  · intro h r
    rw [In_shift, In_rset hn]
    have g := h (r - b)
    rw [show r - b + b = r by omega] at g
    exact g.symm
theorem step_dvd {n : Int} {xs : List Int} {d : Int} (hn : 0 < n) (h : IsStep n xs d) (b : Int) : Per (In n xs) b ↔ d ∣ b := by
  have en : ((n.toNat : Nat) : Int) = n := by omega
  have hst : ∀ b, sshift n.toNat (rset n.toNat xs) b = rset n.toNat xs ↔ Per (In n xs) b := fun b => by
    rw [stay_iff (by omega), en]
  obtain ⟨h1, h2, h3, h4, h5⟩ := h
  obtain ⟨g, g1, g2, g3⟩ := (per_subg (In n xs)).gen n.toNat n rfl hn (In_per n xs)
  have gn : g ∣ n := (g3 n).mp (In_per n xs)
  have gd : g ∣ d := (g3 d).mp ((hst d).mp h4)
  have e : g = d := by
    have a := Int.le_of_dvd (by omega) gd
    rcases Int.lt_or_le g d with z | z
    · exact absurd ((hst g).mpr ((g3 g).mpr (Int.dvd_refl g))) (h5 g (by omega) z (Int.emod_eq_zero_of_dvd gn))
    · omega
  rw [← e]
  exact g3 b
theorem stays_mult {n : Int} {xs : List Int} {d : Int} (hn : 0 < n) (h : IsStep n xs d) : stayL n.toNat xs = (List.range (n / d).toNat).map fun k : Nat => (k : Int) * d := by
  have en : ((n.toNat : Nat) : Int) = n := by omega
  have hd0 : 0 < d := by have := h.1; omega
  have hq : n / d * d = n := Int.ediv_mul_cancel (Int.dvd_of_emod_eq_zero h.2.2.1)
  have hq0 : 0 ≤ n / d := Int.ediv_nonneg (by omega) (by omega)
  refine SrSet.sortedEq _ _ ?_ ?_ fun k => ?_
  · unfold stayL
    refine List.Pairwise.filter _ ?_
    rw [List.pairwise_map]
    refine List.Pairwise.imp ?_ (List.pairwise_lt_range (n := n.toNat))
    intro a b hab
    exact Int.ofNat_lt.mpr hab
  · rw [List.pairwise_map]
    refine List.Pairwise.imp ?_ (List.pairwise_lt_range (n := (n / d).toNat))
    intro a b hab
    exact Int.mul_lt_mul_of_pos_right (Int.ofNat_lt.mpr hab) hd0
  · unfold stayL
    rw [List.mem_filter, List.mem_map, List.mem_map]
    simp only [List.mem_range, decide_eq_true_eq]
    rw [stay_iff (by omega), en, step_dvd hn h]
    constructor
    · rintro ⟨⟨i, hi, rfl⟩, q, hq2⟩
      have hq3 : 0 ≤ q := by
        rcases Int.lt_or_le q 0 with z | z
        · have : d * q < 0 := Int.mul_neg_of_pos_of_neg hd0 z
          omega
        · exact z
      refine ⟨q.toNat, ?_, ?_⟩
      · have : q < n / d := by
          refine Int.lt_of_mul_lt_mul_right (a := d) ?_ (by omega)
          rw [Int.mul_comm q d, ← hq2, hq]
          omega
        omega
      · rw [show ((q.toNat : Nat) : Int) = q by omega, Int.mul_comm]
        exact hq2.symm
    · rintro ⟨i, hi, rfl⟩
      have h0 : 0 ≤ (i : Int) * d := Int.mul_nonneg (by omega) (by omega)
      have h1 : (i : Int) * d < n := by
        have := Int.mul_lt_mul_of_pos_right (show (i : Int) < n / d by omega) hd0
        omega
      exact ⟨⟨((i : Int) * d).toNat, by omega, by omega⟩, Int.dvd_mul_left _ _⟩
end Sr
namespace Sr
open PySem PySem.Spec PyProof.Rows L2 Evl
/-! ### stretches -/
/-- the rest of the first i numbers' sum -/
def begin (xs : List Int) (n : Int) (i : Nat) : Int := (xs.take i).sum % n
/-- a stretch that leaves nought; none: no two beginnings leave the same -/
def IsStr (xs : List Int) (n : Int) (i j : Nat) : Prop := i < j ∧ j ≤ xs.length ∧ begin xs n i = begin xs n j
def NoStr (xs : List Int) (n : Int) : Prop := ∀ i j : Nat, i < j → j ≤ xs.length → begin xs n i ≠ begin xs n j
def spStretch (K : PySem.W.Frag) (C : Addr) : Sp := fun vs H Q E => ∃ (a : Addr) (xs : List Int) (n : Int), vs = [.ref a, .int n] ∧ SqL K H a (xs.map V.int) ∧ xs.length ≤ 1000 ∧
  (goodN n → (∀ (i j : Nat) (p : Addr) (H2 : Hp), IsStr xs n i j → H p = none → Ex H H2 → H2 p = some (.tup [.int (i : Int), .int (j : Int)]) → Q (.ref p) H2) ∧ (NoStr xs n → ∀ H2, Ex H H2 → Q .non H2)) ∧
  (¬ goodN n → ∀ H2, Ex H H2 → E (.ref C) none H2)
/-- the rests of the beginnings -/
def begs (xs : List Int) (n : Int) : List Int := (List.range (xs.length + 1)).map (begin xs n)
def spBegs (K : PySem.W.Frag) : Sp := fun vs H Q _ => ∃ (a : Addr) (xs : List Int) (n : Int), vs = [.ref a, .int n] ∧ SqL K H a (xs.map V.int) ∧ xs.length ≤ 1000 ∧ goodN n ∧ RetL ((begs xs n).map V.int) H Q
theorem spl_begs {K : PySem.W.Frag} {H : Hp} {a : Addr} {xs : List Int} {n : Int} (h : SqL K H a (xs.map V.int)) (hl : xs.length ≤ 1000) (hn : goodN n) : SpL (spBegs K) [.ref a, .int n] H ((begs xs n).map V.int) := fun H1 e Q q E =>
  ⟨a, xs, n, rfl, ex_l e h, hl, hn, fun p H2 hp e2 h2 => q p H2 hp e2 h2⟩
theorem begin_zero (xs : List Int) (n : Int) : begin xs n 0 = 0 := by
  unfold begin
  rw [List.take_zero]
  exact Int.zero_emod n
theorem begin_succ {xs : List Int} {n : Int} {i : Nat} {x : Int} (h : xs[i]? = some x) : begin xs n (i + 1) = (begin xs n i + x) % n := by
  unfold begin
  rw [sum_take h, Int.emod_add_emod]
theorem begin_lt {xs : List Int} {n : Int} (hn : 0 < n) (i : Nat) : 0 ≤ begin xs n i ∧ begin xs n i < n := ⟨Int.emod_nonneg _ (by omega), Int.emod_lt_of_pos _ hn⟩
theorem begs_nodup {xs : List Int} {n : Int} (h : NoStr xs n) : (begs xs n).Nodup := by
  unfold begs
  rw [List.nodup_iff_pairwise_ne, List.pairwise_map]
  refine List.Pairwise.imp_of_mem ?_ (List.pairwise_lt_range (n := xs.length + 1))
  intro i j _ hj hij
  exact h i j hij (Nat.le_of_lt_succ (List.mem_range.mp hj))
theorem begs_len (xs : List Int) (n : Int) : (begs xs n).length = xs.length + 1 := by
  unfold begs
  rw [List.length_map, List.length_range]
theorem noStr_len {xs : List Int} {n : Int} (hn : 0 < n) (h : NoStr xs n) : (xs.length : Int) < n := by
  have g := SrSet.nodup_len (begs xs n) ((List.range n.toNat).map fun i : Nat => (i : Int)) (begs_nodup h) fun x hx => by
    obtain ⟨i, _, rfl⟩ := List.mem_map.mp hx
    obtain ⟨h0, h1⟩ := begin_lt (xs := xs) hn i
    exact List.mem_map.mpr ⟨(begin xs n i).toNat, List.mem_range.mpr (by omega), by omega⟩
  rw [begs_len, List.length_map, List.length_range] at g
  omega
/-- the sum between two places -/
theorem cut_sum {xs : List Int} {n : Int} {i j : Nat} (h : IsStr xs n i j) : (((xs.drop i).take (j - i)).sum) % n = 0 := by
  obtain ⟨hij, hj, e⟩ := h
  have e1 : xs.take j = xs.take i ++ (xs.drop i).take (j - i) := by
    rw [← List.take_add]
    congr 1
    omega
  unfold begin at e
  rw [e1, List.sum_append] at e
  have e2 := Int.emod_eq_emod_iff_emod_sub_eq_zero.mp e.symm
  have e3 : (xs.take i).sum + ((xs.drop i).take (j - i)).sum - (xs.take i).sum = ((xs.drop i).take (j - i)).sum := by omega
  rw [e3] at e2
  exact e2
end Sr
namespace Sr
open PySem PySem.Spec PyProof.Rows L2 Evl
/-! ### choices and what they leave -/
def Ch (xs : List Int) (n : Int) (k : Nat) (r : Int) : Prop := ∃ s : List Int, s.Sublist xs ∧ s.length = k ∧ s.sum % n = r
theorem ch_len {xs : List Int} {n : Int} {k : Nat} {r : Int} (h : Ch xs n k r) : k ≤ xs.length := by
  obtain ⟨s, h1, h2, _⟩ := h
  have := h1.length_le
  omega
theorem ch_range {xs : List Int} {n : Int} {k : Nat} {r : Int} (hn : 0 < n) (h : Ch xs n k r) : 0 ≤ r ∧ r < n := by
  obtain ⟨s, _, _, rfl⟩ := h
  exact ⟨Int.emod_nonneg _ (by omega), Int.emod_lt_of_pos _ hn⟩
theorem ch_nil {n : Int} {k : Nat} {r : Int} : Ch [] n k r ↔ k = 0 ∧ r = 0 := by
  constructor
  · rintro ⟨s, h1, h2, h3⟩
    rw [List.sublist_nil] at h1
    subst h1
    refine ⟨h2.symm, ?_⟩
    rw [← h3]
    exact Int.zero_emod n
  · rintro ⟨rfl, rfl⟩
    exact ⟨[], List.Sublist.refl _, rfl, Int.zero_emod n⟩
theorem sub_one {l : List Int} {x : Int} (h : l.Sublist [x]) : l = [] ∨ l = [x] := by
  cases h with
  | cons _ h => exact .inl (List.sublist_nil.mp h)
  | cons_cons _ h => exact .inr (by rw [List.sublist_nil.mp h])
theorem ch_snoc {xs : List Int} {n x : Int} {k : Nat} {r : Int} : Ch (xs ++ [x]) n k r ↔ Ch xs n k r ∨ ∃ (j : Nat) (s : Int), k = j + 1 ∧ Ch xs n j s ∧ r = (s + x) % n := by
  constructor
  · rintro ⟨s, h1, h2, h3⟩
    obtain ⟨l1, l2, rfl, g1, g2⟩ := List.sublist_append_iff.mp h1
    rcases sub_one g2 with rfl | rfl
    · left
      rw [List.append_nil] at h2 h3
      exact ⟨l1, g1, h2, h3⟩
    · right
      rw [List.length_append] at h2
      refine ⟨l1.length, l1.sum % n, by rw [← h2]; rfl, ⟨l1, g1, rfl, rfl⟩, ?_⟩
      rw [List.sum_append] at h3
      rw [Int.emod_add_emod, ← h3]
      simp
  · rintro (⟨s, h1, h2, h3⟩ | ⟨j, s, rfl, ⟨l, g1, g2, g3⟩, rfl⟩)
    · exact ⟨s, h1.trans (List.sublist_append_left _ _), h2, h3⟩
    · refine ⟨l ++ [x], g1.append (List.Sublist.refl _), by rw [List.length_append, g2]; rfl, ?_⟩
      rw [List.sum_append, ← g3, Int.emod_add_emod]
      simp
theorem ch_over {xs : List Int} {n : Int} {k : Nat} {r : Int} (h : xs.length < k) : ¬ Ch xs n k r := fun g => by
  have := ch_len g
  omega
/-! ### dicts of rests -/
def Keys (n : Int) (P : Int → Prop) (kvs : List (Key × V)) : Prop :=
  (kvs.map (·.1)).Nodup ∧ (∀ kv ∈ kvs, ∃ r : Int, kv.1 = (Sum.inl r : Key) ∧ 0 ≤ r ∧ r < n) ∧ ∀ r : Int, (valV kvs (Sum.inl r : Key)).isSome = true ↔ P r
theorem keys_nil {n : Int} {P : Int → Prop} (h : ∀ r, ¬ P r) : Keys n P [] := ⟨List.nodup_nil, fun kv h => (nomatch h), fun r => by
  rw [valV_nil]
  exact ⟨fun z => (nomatch z), fun z => absurd z (h r)⟩⟩
theorem keys_iff {n : Int} {P P' : Int → Prop} {kvs : List (Key × V)} (h : Keys n P kvs) (e : ∀ r, P r ↔ P' r) : Keys n P' kvs := ⟨h.1, h.2.1, fun r => (h.2.2 r).trans (e r)⟩
theorem keys_put {n : Int} {P : Int → Prop} {kvs : List (Key × V)} {r : Int} {v : V} (h : Keys n P kvs) (h0 : 0 ≤ r) (h1 : r < n) : Keys n (fun j => P j ∨ j = r) (putK kvs (Sum.inl r : Key) v) := by
  obtain ⟨a, b, c⟩ := h
  refine ⟨?_, ?_, fun j => ?_⟩
  · cases hv : valV kvs (Sum.inl r : Key) with
    | none =>
      rw [putK_new v hv, List.map_append]
      refine List.nodup_append.mpr ⟨a, List.nodup_cons.mpr ⟨fun h => (nomatch h), List.nodup_nil⟩, fun x hx y hy => ?_⟩
      have e : y = (Sum.inl r : Key) := by simpa using hy
      subst e
      exact fun z => valV_not hv (z ▸ hx)
    | some u =>
      have e : (putK kvs (Sum.inl r : Key) v).map (·.1) = kvs.map (·.1) := by
        unfold putK
        rw [valV_any, hv]
        rw [if_pos (show (some u).isSome = true from rfl), List.map_map]
        refine List.map_congr_left fun kv _ => ?_
        show (if kv.1 = _ then (kv.1, v) else kv).1 = kv.1
        by_cases hk : kv.1 = (Sum.inl r : Key)
        · rw [if_pos hk]
        · rw [if_neg hk]
      rw [e]
      exact a
  · intro kv hkv
    cases hv : valV kvs (Sum.inl r : Key) with
    | none =>
      rw [putK_new v hv] at hkv
      rcases List.mem_append.mp hkv with g | g
      · exact b kv g
      · have e : kv = ((Sum.inl r : Key), v) := by simpa using g
        subst e
        exact ⟨r, rfl, h0, h1⟩
    | some u =>
      unfold putK at hkv
      rw [valV_any, hv] at hkv
      rw [if_pos (show (some u).isSome = true from rfl)] at hkv
      obtain ⟨kv', g, rfl⟩ := List.mem_map.mp hkv
      obtain ⟨q, g1, g2⟩ := b kv' g
      refine ⟨q, ?_, g2⟩
      by_cases hk : kv'.1 = (Sum.inl r : Key)
      · rw [if_pos hk]
        exact g1
      · rw [if_neg hk]
        exact g1
  · rw [valV_put]
    by_cases e : j = r
    · subst e
      rw [if_pos rfl]
      exact ⟨fun _ => Or.inr rfl, fun _ => rfl⟩
    · rw [if_neg (fun z => e (Sum.inl.inj z)), c j]
      exact ⟨Or.inl, fun z => z.elim id fun z => absurd z e⟩
theorem valV_mem {kvs : List (Key × V)} {k : Key} : (valV kvs k).isSome = true ↔ k ∈ kvs.map (·.1) := by
  rw [← valV_any, List.any_eq_true]
  constructor
  · rintro ⟨kv, h1, h2⟩
    exact List.mem_map.mpr ⟨kv, h1, of_decide_eq_true h2⟩
  · intro h
    obtain ⟨kv, h1, h2⟩ := List.mem_map.mp h
    exact ⟨kv, h1, decide_eq_true h2⟩
theorem keys_ints {n : Int} {P : Int → Prop} {kvs : List (Key × V)} (h : Keys n P kvs) : ∃ ns : List Int, kvs.map (fun kv => kV kv.1) = ns.map V.int ∧ ns.length = kvs.length ∧ ns.Nodup ∧ (∀ r, r ∈ ns ↔ P r) ∧ ∀ r ∈ ns, 0 ≤ r ∧ r < n := by
  obtain ⟨a, b, c⟩ := h
  have g : ∀ l : List (Key × V), (∀ kv ∈ l, ∃ r : Int, kv.1 = (Sum.inl r : Key) ∧ 0 ≤ r ∧ r < n) → ∃ ns : List Int, l.map (·.1) = ns.map (fun r => (Sum.inl r : Key)) ∧ ∀ r ∈ ns, 0 ≤ r ∧ r < n := by
    intro l
    induction l with
    | nil => exact fun _ => ⟨[], rfl, fun r h => nomatch h⟩
    | cons kv l ih =>
      intro h
      obtain ⟨ns, e, k⟩ := ih fun kv h' => h kv (List.mem_cons_of_mem _ h')
      obtain ⟨r, e2, k2⟩ := h kv List.mem_cons_self
      refine ⟨r :: ns, ?_, fun s hs => ?_⟩
      · rw [List.map_cons, List.map_cons, e, e2]
      · rcases List.mem_cons.mp hs with rfl | hs
        · exact k2
        · exact k s hs
  obtain ⟨ns, e, k⟩ := g kvs b
  refine ⟨ns, ?_, ?_, ?_, fun r => ?_, k⟩
  · have e2 : kvs.map (fun kv => kV kv.1) = (kvs.map (·.1)).map kV := by
      rw [List.map_map]
      rfl
    rw [e2, e, List.map_map]
    rfl
  · have := congrArg List.length e
    simp only [List.length_map] at this
    exact this.symm
  · rw [e] at a
    rw [List.nodup_iff_pairwise_ne] at a ⊢
    rw [List.pairwise_map] at a
    exact a.imp fun h z => h (congrArg (fun r : Int => (Sum.inl r : Key)) z)
  · rw [← c r, valV_mem, e]
    constructor
    · intro h
      exact List.mem_map.mpr ⟨r, h, rfl⟩
    · intro h
      obtain ⟨s, h1, h2⟩ := List.mem_map.mp h
      cases h2
      exact h1
theorem keys_len {n : Int} {P : Int → Prop} {kvs : List (Key × V)} (hn : goodN n) (h : Keys n P kvs) : kvs.length ≤ 24 := by
  obtain ⟨ns, _, e, g, _, k⟩ := keys_ints h
  have q := SrSet.nodup_len ns ((List.range n.toNat).map fun i : Nat => (i : Int)) g fun r hr => by
    obtain ⟨h0, h1⟩ := k r hr
    exact List.mem_map.mpr ⟨r.toNat, List.mem_range.mpr (by omega), by omega⟩
  rw [List.length_map, List.length_range] at q
  have := hn.2
  omega
/-! ### rows of them -/
def Row (H : Hp) (n : Int) (P : Int → Prop) (p : Addr) : Prop := ∃ kvs, H p = some (.dK kvs) ∧ Keys n P kvs
def RowsAt (H : Hp) (n : Int) (P : Nat → Int → Prop) (ps : List Addr) : Prop := ∀ k p, ps[k]? = some p → Row H n (P k) p
def Rows (H : Hp) (p : Addr) (n : Int) (P : Nat → Int → Prop) (m : Nat) : Prop := ∃ ps : List Addr, H p = some (.lst (ps.map V.ref)) ∧ ps.length = m ∧ RowsAt H n P ps
theorem Row.ex {H H' : Hp} {n : Int} {P : Int → Prop} {p : Addr} (e : Ex H H') (h : Row H n P p) : Row H' n P p := by
  obtain ⟨kvs, a, b⟩ := h
  exact ⟨kvs, e _ _ a, b⟩
theorem RowsAt.ex {H H' : Hp} {n : Int} {P : Nat → Int → Prop} {ps : List Addr} (e : Ex H H') (h : RowsAt H n P ps) : RowsAt H' n P ps := fun k p hk => (h k p hk).ex e
theorem Rows.ex {H H' : Hp} {p : Addr} {n : Int} {P : Nat → Int → Prop} {m : Nat} (e : Ex H H') (h : Rows H p n P m) : Rows H' p n P m := by
  obtain ⟨ps, a, b, c⟩ := h
  exact ⟨ps, e _ _ a, b, c.ex e⟩
theorem Row.iff {H : Hp} {n : Int} {P P' : Int → Prop} {p : Addr} (h : Row H n P p) (e : ∀ r, P r ↔ P' r) : Row H n P' p := by
  obtain ⟨kvs, a, b⟩ := h
  exact ⟨kvs, a, keys_iff b e⟩
theorem RowsAt.iff {H : Hp} {n : Int} {P P' : Nat → Int → Prop} {ps : List Addr} (h : RowsAt H n P ps) (e : ∀ k, k < ps.length → ∀ r, P k r ↔ P' k r) : RowsAt H n P' ps := fun k p hk => (h k p hk).iff (e k (List.getElem?_eq_some_iff.mp hk).1)
/-- rows just made, each its own dict -/
def FR (H0 H : Hp) (n : Int) (P : Nat → Int → Prop) (ps : List Addr) : Prop := Ex H0 H ∧ ps.Nodup ∧ (∀ p ∈ ps, H0 p = none) ∧ RowsAt H n P ps
theorem FR.nil {H0 H : Hp} {n : Int} {P : Nat → Int → Prop} (e : Ex H0 H) : FR H0 H n P [] := ⟨e, List.nodup_nil, fun p h => (nomatch h), fun k p h => by cases h⟩
theorem FR.iff {H0 H : Hp} {n : Int} {P P' : Nat → Int → Prop} {ps : List Addr} (h : FR H0 H n P ps) (e : ∀ k, k < ps.length → ∀ r, P k r ↔ P' k r) : FR H0 H n P' ps := ⟨h.1, h.2.1, h.2.2.1, h.2.2.2.iff e⟩
theorem FR.ex {H0 H H' : Hp} {n : Int} {P : Nat → Int → Prop} {ps : List Addr} (h : FR H0 H n P ps) (e : Ex H H') : FR H0 H' n P ps := ⟨h.1.trans e, h.2.1, h.2.2.1, h.2.2.2.ex e⟩
/-- an object that is no dict, and new, may change -/
theorem FR.lst {H0 H : Hp} {n : Int} {P : Nat → Int → Prop} {ps : List Addr} {D : Addr} {xs : List V} {o : HO} (h : FR H0 H n P ps) (hD : H0 D = none) (h1 : H D = some (.lst xs)) : FR H0 (upd H D o) n P ps := by
  obtain ⟨a, b, c, d⟩ := h
  refine ⟨Ex.mut a hD, b, c, fun k p hk => ?_⟩
  obtain ⟨kvs, g1, g2⟩ := d k p hk
  refine ⟨kvs, ?_, g2⟩
  have hne : p ≠ D := fun z => by
    subst z
    rw [h1] at g1
    cases g1
  rw [upd_ne hne]
  exact g1
theorem FR.add {H0 H : Hp} {n : Int} {P : Nat → Int → Prop} {ps : List Addr} {q : Addr} {kvs : List (Key × V)} (h : FR H0 H n P ps) (hq : H q = none) (hk : Keys n (P ps.length) kvs) : FR H0 (upd H q (.dK kvs)) n P (ps ++ [q]) := by
  obtain ⟨a, b, c, d⟩ := h
  have e := Ex.new (o := .dK kvs) hq
  refine ⟨a.trans e, ?_, fun p hp => ?_, fun k p hkp => ?_⟩
  · refine List.nodup_append.mpr ⟨b, List.nodup_cons.mpr ⟨fun h => (nomatch h), List.nodup_nil⟩, fun x hx y hy => ?_⟩
    have ey : y = q := by simpa using hy
    subst ey
    intro z
    subst z
    obtain ⟨k, hk⟩ := List.getElem?_of_mem hx
    obtain ⟨_, g, _⟩ := d k x hk
    rw [hq] at g
    cases g
  · rcases List.mem_append.mp hp with g | g
    · exact c p g
    · have ey : p = q := by simpa using g
      subst ey
      exact fresh_back a hq
  · rw [List.getElem?_append] at hkp
    by_cases hlt : k < ps.length
    · rw [if_pos hlt] at hkp
      exact (d k p hkp).ex e
    · rw [if_neg hlt] at hkp
      have hk0 : k - ps.length = 0 := by
        have := (List.getElem?_eq_some_iff.mp hkp).1
        simp at this
        omega
      rw [hk0] at hkp
      cases hkp
      have ek : k = ps.length := by omega
      subst ek
      exact ⟨kvs, upd_same, hk⟩
theorem FR.put {H0 H : Hp} {n : Int} {P : Nat → Int → Prop} {ps : List Addr} {k : Nat} {q : Addr} {kvs : List (Key × V)} {r : Int} {v : V} (h : FR H0 H n P ps) (hq : ps[k]? = some q) (hv : H q = some (.dK kvs)) (h0 : 0 ≤ r) (h1 : r < n) :
    FR H0 (upd H q (.dK (putK kvs (Sum.inl r : Key) v))) n (fun j s => P j s ∨ (j = k ∧ s = r)) ps := by
  obtain ⟨a, b, c, d⟩ := h
  have hm := List.mem_of_getElem? hq
  refine ⟨Ex.mut a (c q hm), b, c, fun j p hj => ?_⟩
  by_cases e : j = k
  · subst e
    rw [hq] at hj
    cases hj
    obtain ⟨kvs', g1, g2⟩ := d j q hq
    rw [hv] at g1
    cases g1
    exact ⟨_, upd_same, keys_iff (keys_put g2 h0 h1) fun s => ⟨fun z => z.imp id fun z => ⟨rfl, z⟩, fun z => z.imp id fun z => z.2⟩⟩
  · obtain ⟨kvs', g1, g2⟩ := d j p hj
    have hne : p ≠ q := fun z => by
      subst z
      have i1 := (List.getElem?_eq_some_iff.mp hj)
      have i2 := (List.getElem?_eq_some_iff.mp hq)
      obtain ⟨l1, e1⟩ := i1
      obtain ⟨l2, e2⟩ := i2
      exact e ((List.getElem_inj b).mp (e1.trans e2.symm))
    refine ⟨kvs', ?_, keys_iff g2 fun s => ⟨Or.inl, fun z => z.elim id fun z => absurd z.1 e⟩⟩
    rw [upd_ne hne]
    exact g1
theorem FR.rows {H0 H : Hp} {n : Int} {P : Nat → Int → Prop} {ps : List Addr} {p : Addr} (h : FR H0 H n P ps) (hp : H p = some (.lst (ps.map V.ref))) : Rows H p n P ps.length := ⟨ps, hp, rfl, h.2.2.2⟩
/-! ### readings -/
section
variable {K : PySem.W.Frag} {σ : L2.St} {H H' : Hp} {ta tb te tx : TE} {t u : TT} {x y z v : V} {D : Ends} {tu tw tz : TS}
/-- list(d) -/
theorem el_keys {p : Addr} {kvs : List (Key × V)} {ns : List Int} (ha : Ev ta σ H (.ref p)) (hp : H p = some (.dK kvs)) (hk : kvs.map (fun kv => kV kv.1) = ns.map V.int) : EvL (tCB rListD (tCons ta tNil)) σ H (ns.map V.int) := fun H1 e Q q =>
  ha H1 e _ fun H2 e2 => ⟨p, kvs, rfl, (e.trans e2) _ _ hp, fun l hl => q l _ (fresh_back e2 hl) (e2.trans (Ex.new hl)) (by rw [upd_same, hk])⟩
/-- for k in range(i, -1, -1) -/
theorem s_forR3 {ta : TA} {j : Nat} {m : Nat} {lo : Int} (h : EvA ta σ H [.int lo, .int (-1), .int (-1)]) (hl : lo = (m : Int) - 1) (hm : m ≤ 100000) (Pv : Nat → L2.St → Hp → Prop) (h0 : ∀ H1, Ex H H1 → Pv 0 σ H1)
    (hs : ∀ (i : Nat) σ' H', i < m → Pv i σ' H' → tu { D with nx := Pv (i + 1), ct := Pv (i + 1), bk := D.nx } (σ'.set j (some (.int ((m - 1 - i : Nat) : Int)))) H') (hd : ∀ σ' H', Pv m σ' H' → D.nx σ' H') : tFor (iRng3 ta) (gName j) tu D σ H :=
  h H (Ex.refl H) _ fun H1 e => ⟨lo, -1, -1, m, rfl, by
    have g := RgC.neg (i := lo) (j := -1) (by omega) (by omega) (by omega) (by omega)
    have e2 : (lo - -1).toNat = m := by omega
    rw [e2] at g
    exact g, for_rangeC (lo := lo) (n := m) Pv (h0 H1 e) (fun i σ' H' hi p => by
      have e0 : lo + (i : Nat) * (-1 : Int) = ((m - 1 - i : Nat) : Int) := by omega
      show tu { D with nx := Pv (i + 1), ct := Pv (i + 1), bk := D.nx } (σ'.set j (some (.int (lo + (i : Nat) * (-1 : Int))))) H'
      rw [e0]
      exact hs i σ' H' hi p) hd⟩
theorem q_forR3 {ta : TA} {j : Nat} {m : Nat} {lo : Int} (h : EvA ta σ H [.int lo, .int (-1), .int (-1)]) (hl : lo = (m : Int) - 1) (hm : m ≤ 100000) (Pv : Nat → L2.St → Hp → Prop) (h0 : ∀ H1, Ex H H1 → Pv 0 σ H1)
    (hs : ∀ (i : Nat) σ' H', i < m → Pv i σ' H' → tu { D with nx := Pv (i + 1), ct := Pv (i + 1), bk := tz D } (σ'.set j (some (.int ((m - 1 - i : Nat) : Int)))) H') (hd : ∀ σ' H', Pv m σ' H' → tz D σ' H') : tSeq (tFor (iRng3 ta) (gName j) tu) tz D σ H :=
  s_forR3 (D := { D with nx := tz D }) h hl hm Pv h0 hs hd
/-- comprehensions whose items are new objects -/
theorem lcG_R1 {ta : TA} {j : Nat} {vs : List Nat} {n : Int} {Q : VK} (h : EvA ta σ H [.int n]) (hn : 0 ≤ n ∧ n ≤ 40000) (hw : ∀ x, wipe ((wipe σ vs).set j (some x)) vs = wipe σ vs) (Iv : Addr → Nat → Hp → Prop)
    (h0 : ∀ l H1, H l = none → Ex H H1 → H1 l = some (.lst []) → Iv l 0 H1)
    (hs : ∀ l (i : Nat) H1, (i : Int) < n → Iv l i H1 → te ((wipe σ vs).set j (some (.int (i : Int)))) H1 fun y H4 => ∃ acc, H4 l = some (.lst acc) ∧ acc.length < sizeLine ∧ Iv l (i + 1) (upd H4 l (.lst (acc ++ [y]))))
    (hd : ∀ l H1, Iv l n.toNat H1 → Q (.ref l) H1) : tLc (iRng1 ta) (gName j) tYes te vs σ H Q := h H (Ex.refl H) _ fun H1 e1 => ⟨n, rfl, by omega, by omega, fun l hl =>
  lc_range (lo := 0) (n := n.toNat) (Iv l) (h0 l _ (fresh_back e1 hl) (e1.trans (Ex.new hl)) upd_same) (fun i H' hi p => by
    have e0 : (0 : Int) + (i : Int) = (i : Int) := Int.zero_add _
    refine ⟨hw _, ?_⟩
    show te ((wipe σ vs).set j (some (.int ((0 : Int) + (i : Int))))) H' fun y H4 => ∃ acc, H4 l = some (.lst acc) ∧ acc.length < sizeLine ∧ Iv l (i + 1) (upd H4 l (.lst (acc ++ [y])))
    rw [e0]
    exact hs l i H' (by omega) p) (fun H' p => hd l H' p)⟩
theorem lcG_L {a : Addr} {xs : List V} {tl : TE} {j : Nat} {vs : List Nat} {Q : VK} (h : Ev tl σ H (.ref a)) (hx : SqL K H a xs) (hw : ∀ x, wipe ((wipe σ vs).set j (some x)) vs = wipe σ vs) (Iv : Addr → Nat → Hp → Prop)
    (h0 : ∀ l H1, H l = none → Ex H H1 → H1 l = some (.lst []) → Iv l 0 H1) (hI : ∀ l i H1, Iv l i H1 → Ex H H1)
    (hs : ∀ l i x H1, xs[i]? = some x → Iv l i H1 → te ((wipe σ vs).set j (some x)) H1 fun y H4 => ∃ acc, H4 l = some (.lst acc) ∧ acc.length < sizeLine ∧ Iv l (i + 1) (upd H4 l (.lst (acc ++ [y]))))
    (hd : ∀ l H1, Iv l xs.length H1 → Q (.ref l) H1) : tLc (iList K tl) (gName j) tYes te vs σ H Q := h H (Ex.refl H) _ fun H1 e1 => ⟨a, rfl, ⟨xs, ex_l e1 hx⟩, fun l hl =>
  lc_list (xs := xs) (Iv l) (h0 l _ (fresh_back e1 hl) (e1.trans (Ex.new hl)) upd_same) (fun i H' _ p => ex_l (hI l i H' p) hx) (fun i x H' hi p => ⟨hw x, hs l i x H' hi p⟩) (fun H' p => hd l H' p)⟩
end
section
variable {K : PySem.W.Frag} {σ : L2.St} {H H' : Hp} {ta tb te tx : TE} {t u : TT} {x y z v : V} {D : Ends} {tu tw tz : TS}
theorem q_asgOpLc {a : Addr} {xs : List V} {tl : TE} {j : Nat} {vs : List Nat} {r : R2} {g : TG} (h : Ev tl σ H (.ref a)) (hx : SqL K H a xs) (hw : ∀ x, wipe ((wipe σ vs).set j (some x)) vs = wipe σ vs) (Iv : Addr → Nat → Hp → Prop)
    (h0 : ∀ l H1, H l = none → Ex H H1 → H1 l = some (.lst []) → Iv l 0 H1) (hI : ∀ l i H1, Iv l i H1 → Ex H H1)
    (hs : ∀ l i x H1, xs[i]? = some x → Iv l i H1 → te ((wipe σ vs).set j (some x)) H1 fun y H4 => ∃ acc, H4 l = some (.lst acc) ∧ acc.length < sizeLine ∧ Iv l (i + 1) (upd H4 l (.lst (acc ++ [y]))))
    (hd : ∀ l H1, Iv l xs.length H1 → tb σ H1 fun y H2 => r (.ref l) y H2 fun v H3 => g v σ H3 (tz D)) : tSeq (tAsg (tOp r (tLc (iList K tl) (gName j) tYes te vs) tb) g) tz D σ H :=
  lcG_L (Q := fun x H1 => tb σ H1 fun y H2 => r x y H2 fun v H3 => g v σ H3 (tz D)) h hx hw Iv h0 hI hs hd
theorem s_retLc {a : Addr} {xs : List V} {tl : TE} {j : Nat} {vs : List Nat} (h : Ev tl σ H (.ref a)) (hx : SqL K H a xs) (hw : ∀ x, wipe ((wipe σ vs).set j (some x)) vs = wipe σ vs) (Iv : Addr → Nat → Hp → Prop)
    (h0 : ∀ l H1, H l = none → Ex H H1 → H1 l = some (.lst []) → Iv l 0 H1) (hI : ∀ l i H1, Iv l i H1 → Ex H H1)
    (hs : ∀ l i x H1, xs[i]? = some x → Iv l i H1 → te ((wipe σ vs).set j (some x)) H1 fun y H4 => ∃ acc, H4 l = some (.lst acc) ∧ acc.length < sizeLine ∧ Iv l (i + 1) (upd H4 l (.lst (acc ++ [y]))))
    (hd : ∀ l H1, Iv l xs.length H1 → D.rt (.ref l) H1) : tRet (tLc (iList K tl) (gName j) tYes te vs) D σ H :=
  lcG_L (Q := D.rt) h hx hw Iv h0 hI hs hd
theorem q_asgLcR1 {ta : TA} {i j : Nat} {vs : List Nat} {n : Int} (h : EvA ta σ H [.int n]) (hn : 0 ≤ n ∧ n ≤ 40000) (hw : ∀ x, wipe ((wipe σ vs).set j (some x)) vs = wipe σ vs) (Iv : Addr → Nat → Hp → Prop)
    (h0 : ∀ l H1, H l = none → Ex H H1 → H1 l = some (.lst []) → Iv l 0 H1)
    (hs : ∀ l (i : Nat) H1, (i : Int) < n → Iv l i H1 → te ((wipe σ vs).set j (some (.int (i : Int)))) H1 fun y H4 => ∃ acc, H4 l = some (.lst acc) ∧ acc.length < sizeLine ∧ Iv l (i + 1) (upd H4 l (.lst (acc ++ [y]))))
    (hd : ∀ l H1, Iv l n.toNat H1 → tz D (σ.set i (some (.ref l))) H1) : tSeq (tAsg (tLc (iRng1 ta) (gName j) tYes te vs) (gName i)) tz D σ H :=
  lcG_R1 (Q := fun x H1 => tz D (σ.set i (some x)) H1) h hn hw Iv h0 hs hd
end
/-- l.append(f(..)) -/
theorem s_appC {K : PySem.W.Frag} {σ : L2.St} {H : Hp} {ta : TE} {D : Ends} {l : Addr} {xs vs : List V} {sp : Sp} {E : XK} {tc : TA} (hl : H l = some (.lst xs)) (ha : Ev ta σ H (.ref l)) (hv : EvA tc σ H vs)
    (k : ∀ H1, Ex H H1 → sp vs H1 (fun y H2 => rAppend (.ref l) [y] H2 fun _ H4 => D.nx σ H4) E) : tDrop (tBM K "list" rAppend ta (tCons (tCall sp [] E tc) tNil)) D σ H := ha H (Ex.refl H) _ fun H1 e1 =>
  ⟨Or.inl ⟨rfl, xs, sq_of (e1 l _ hl)⟩, hv H1 e1 _ fun H2 e2 => by
    show sp (vs ++ []) H2 (fun y H2 => rAppend (.ref l) [y] H2 fun _ H4 => D.nx σ H4) E
    rw [List.append_nil]
    exact k H2 (e1.trans e2)⟩
theorem atI_end {α : Type} {xs : List α} {v : α} {m : Nat} (h : xs[m]? = some v) (hl : xs.length = m + 1) : atI xs (-1) = some v := by
  have e : xs = xs.take m ++ [v] := by
    have g := List.take_add_one (l := xs) (i := m)
    rw [h, List.take_of_length_le (by omega)] at g
    exact g
  rw [e]
  exact atI_last _ v
/-- return [.. for x in f(..)[i]] -/
theorem s_retLcIx {K : PySem.W.Frag} {σ : L2.St} {H : Hp} {D : Ends} {sp : Sp} {E : XK} {tc : TA} {ti te : TE} {j : Nat} {ws : List Nat} {vs : List V} (hv : EvA tc σ H vs)
    (k : ∀ H1, Ex H H1 → sp vs H1 (fun x H2 => ti σ H2 fun y H3 => rIxL K x y H3 fun z H4 => tLc (iList K (tC z)) (gName j) tYes te ws σ H4 D.rt) E) : tRet (tLc (iList K (tOp (rIxL K) (tCall sp [] E tc) ti)) (gName j) tYes te ws) D σ H :=
  hv H (Ex.refl H) _ fun H1 e1 => by
    show sp (vs ++ []) H1 _ E
    rw [List.append_nil]
    exact k H1 e1
theorem ref_at {xs : List Addr} {i : Nat} {x : V} (h : (xs.map V.ref)[i]? = some x) : ∃ z, xs[i]? = some z ∧ x = .ref z := by
  rw [List.getElem?_map] at h
  cases e : xs[i]? with
  | none => rw [e] at h; cases h
  | some z => rw [e] at h; exact ⟨z, rfl, (Option.some.inj h).symm⟩
theorem s_forNLn {K : PySem.W.Frag} {σ : L2.St} {H : Hp} {D : Ends} {tu : TS} {xs : List V} {tl : TE} {j : Nat} (h : EvL tl σ H xs) (Pv : Addr → Nat → L2.St → Hp → Prop) (h0 : ∀ p H1, H p = none → Ex H H1 → H1 p = some (.lst xs) → Pv p 0 σ H1) (hl : ∀ p i σ' H', i ≤ xs.length → Pv p i σ' H' → SqL K H' p xs)
    (hs : ∀ p i x σ' H', xs[i]? = some x → Pv p i σ' H' → tu { D with nx := Pv p (i + 1), ct := Pv p (i + 1), bk := D.nx } (σ'.set j (some x)) H') (hd : ∀ p σ' H', Pv p xs.length σ' H' → D.nx σ' H') : tFor (iList K tl) (gName j) tu D σ H :=
  s_forNL h Pv h0 hl hs hd
/-! ### promises -/
noncomputable def setRows (n : Int) (xs : List Int) (k : Nat) : List Int := ((List.range n.toNat).map fun i : Nat => (i : Int)).filter fun r => @decide (Ch xs n k r) (Classical.propDecidable _)
theorem mem_setRows {n : Int} {xs : List Int} {k : Nat} {r : Int} (hn : 0 < n) : r ∈ setRows n xs k ↔ Ch xs n k r := by
  unfold setRows
  rw [List.mem_filter]
  constructor
  · rintro ⟨_, h⟩
    exact @of_decide_eq_true _ (Classical.propDecidable _) h
  · intro h
    obtain ⟨h0, h1⟩ := ch_range hn h
    exact ⟨List.mem_map.mpr ⟨r.toNat, List.mem_range.mpr (by omega), by omega⟩, @decide_eq_true _ (Classical.propDecidable _) h⟩
theorem setRows_rises (n : Int) (xs : List Int) (k : Nat) : (setRows n xs k).Pairwise (· < ·) := by
  unfold setRows
  refine List.Pairwise.filter _ ?_
  rw [List.pairwise_map]
  exact (List.pairwise_lt_range (n := n.toNat)).imp fun h => by omega
theorem setRows_len (n : Int) (xs : List Int) (k : Nat) : (setRows n xs k).length ≤ n.toNat := by
  unfold setRows
  have h := List.length_filter_le (fun r => @decide (Ch xs n k r) (Classical.propDecidable _)) ((List.range n.toNat).map fun i : Nat => (i : Int))
  rw [List.length_map, List.length_range] at h
  exact h
/-- what sorted tells of a row's keys -/
theorem sorted_setRows {n : Int} {xs ns ns' : List Int} {k : Nat} (hn : 0 < n) (h : ∀ r, r ∈ ns ↔ Ch xs n k r) (hd : ns.Nodup) (hp : ns'.Perm ns) (hs : ns'.Pairwise (· ≤ ·)) : ns' = setRows n xs k := by
  refine SrSet.sortedEq _ _ ?_ (setRows_rises n xs k) fun r => ?_
  · have g := hp.symm.nodup hd
    rw [List.nodup_iff_pairwise_ne] at g
    exact (hs.and g).imp fun h => by omega
  · rw [hp.mem_iff, h r, mem_setRows hn]
theorem el_catLV {σ : L2.St} {H : Hp} {ta tb : TE} {q : Addr} {xs ys : List V} (ha : EvL ta σ H xs) (hb : Ev tb σ H (.ref q)) (hq : H q = some (.lst ys)) (hz : xs.length + ys.length ≤ 100000) : EvL (tOp rCat ta tb) σ H (xs ++ ys) := fun H1 e Q k =>
  ha H1 e _ fun p H2 hp2 e2 h2 => hb H2 (e.trans e2) _ fun H3 e3 => ⟨p, q, xs, ys, rfl, rfl, e3 _ _ h2, ((e.trans e2).trans e3) _ _ hq, sz_of hz, fun r hr => k r _ (fresh_back (e2.trans e3) hr) ((e2.trans e3).trans (Ex.new hr)) upd_same⟩
/-- sorted(list(d)) -/
theorem el_sortedKeys {K : PySem.W.Frag} {σ : L2.St} {H : Hp} {ta : TE} {p : Addr} {kvs : List (Key × V)} {ns xs : List Int} {n : Int} {k : Nat} (hn : 0 < n) (ha : Ev ta σ H (.ref p)) (hp : H p = some (.dK kvs)) (hk : kvs.map (fun kv => kV kv.1) = ns.map V.int) (h64 : ns.length < 64)
    (h : ∀ r, r ∈ ns ↔ Ch xs n k r) (hd : ns.Nodup) : EvL (tCB (rSorted K) (tCons (tCB rListD (tCons ta tNil)) tNil)) σ H ((setRows n xs k).map V.int) := fun H1 e Q q =>
  el_keys ha hp hk H1 e _ fun l H2 hl e2 h2 => ⟨l, ns, rfl, sq_of h2, h64, fun ns' p7 hperm hsort hp7 => q p7 _ (fresh_back e2 hp7) (e2.trans (Ex.new hp7)) (by rw [upd_same, sorted_setRows hn h hd hperm hsort])⟩
section
variable (K : PySem.W.Frag)
def spWider : Sp := fun vs H Q _ => ∃ (a : Addr) (ys : List Int) (x n : Int), vs = [.ref a, .int x, .int n] ∧ Rows H a n (Ch ys n) (ys.length + 1) ∧ ys.length ≤ 100 ∧ goodN n ∧
  ∀ p H2, H p = none → Ex H H2 → Rows H2 p n (Ch (ys ++ [x]) n) (ys.length + 2) → Q (.ref p) H2
def Layers (H : Hp) (p : Addr) (xs : List Int) (n : Int) : Prop := ∃ qs : List Addr, H p = some (.lst (qs.map V.ref)) ∧ qs.length = xs.length + 1 ∧ ∀ i q, qs[i]? = some q → Rows H q n (Ch (xs.take i) n) (i + 1)
def spLayers : Sp := fun vs H Q _ => ∃ (a : Addr) (xs : List Int) (n : Int), vs = [.ref a, .int n] ∧ SqL K H a (xs.map V.int) ∧ xs.length ≤ 100 ∧ goodN n ∧
  ∀ p H2, H p = none → Ex H H2 → Layers H2 p xs n → Q (.ref p) H2
def spLawTable : Sp := fun vs H Q _ => ∃ (a : Addr) (xs : List Int) (n : Int) (m : Nat), vs = [.ref a, .int n, .int (m : Int)] ∧ SqL K H a (xs.map V.int) ∧ xs.length ≤ 100 ∧ m ≤ 100 ∧ goodN n ∧
  ∀ p H2, H p = none → Ex H H2 → Rows H2 p n (Ch xs n) (m + 1) → Q (.ref p) H2
def spTable (C : Addr) : Sp := fun vs H Q E => ∃ (a : Addr) (xs : List Int) (n : Int), vs = [.ref a, .int n] ∧ SqL K H a (xs.map V.int) ∧ xs.length ≤ 100 ∧
  (goodN n → ∀ (p : Addr) (qs : List Addr) (H2 : Hp), H p = none → Ex H H2 → H2 p = some (.lst (qs.map V.ref)) → qs.length = xs.length + 1 → (∀ k q, qs[k]? = some q → q ≠ p ∧ H q = none ∧ H2 q = some (.lst ((setRows n xs k).map V.int))) → Q (.ref p) H2) ∧
  (¬ goodN n → ∀ H2, Ex H H2 → E (.ref C) none H2)
end
/-- r not in _law_table(xs, n, m)[m] -/
theorem ev_noneInTable {K : PySem.W.Frag} {σ : L2.St} {H : Hp} {ta ti : TE} {tc : TA} {E : XK} {a : Addr} {xs : List Int} {n r : Int} {m : Nat} (ha : Ev ta σ H (.int r)) (hv : EvA tc σ H [.ref a, .int n, .int (m : Int)]) (hi : Ev ti σ H (.int (m : Int))) (hS : SqL K H a (xs.map V.int))
    (hl : xs.length ≤ 100) (hm : m ≤ 100) (hn : goodN n) (hno : ¬ Ch xs n m r) : Ev (tDNotIn ta (tOp (rIxL K) (tCall (spLawTable K) [] E tc) ti)) σ H (.bl true) := fun H1 e Q q =>
  ha H1 e _ fun H2 e2 => hv H2 (e.trans e2) _ fun H3 e3 => ⟨a, xs, n, m, rfl, ex_l ((e.trans e2).trans e3) hS, hl, hm, hn, fun p H4 hp e4 hR => by
    obtain ⟨as, h4, hal, hrows⟩ := hR
    obtain ⟨r1, hr1⟩ : ∃ r1, as[m]? = some r1 := ⟨_, List.getElem?_eq_getElem (by omega)⟩
    obtain ⟨kvs, g1, g2⟩ := hrows m r1 hr1
    have ix : atI (as.map V.ref) (m : Int) = some (.ref r1) := atI_nat (by rw [List.getElem?_map, hr1]; rfl)
    have g4 : (valV kvs (Sum.inl r : Key)).isSome = false := by
      cases h : (valV kvs (Sum.inl r : Key)).isSome with
      | false => rfl
      | true => exact absurd ((g2.2.2 r).mp h) hno
    refine hi H4 (((e.trans e2).trans e3).trans e4) _ fun H5 e5 => ⟨p, _, _, _, rfl, rfl, sq_of (e5 _ _ h4), ix, r1, _, rfl, DGet.k (k := Sum.inl r) (e5 _ _ g1), ?_⟩
    rw [g4]
    exact q H5 (((e2.trans e3).trans e4).trans e5)⟩
end Sr
namespace Sr
open PySem PySem.Spec PyProof.Rows L2 Evl
/-! ### choices told as places -/
def pick (xs : List Int) (ps : List Nat) : Int := (ps.map fun p => xs.getD p 0).sum
def places (ps : List Nat) : List V := ps.map fun p : Nat => V.int (p : Int)
def IsCh (xs : List Int) (count : Nat) (wanted n : Int) (ps : List Nat) : Prop := ps.Pairwise (· < ·) ∧ (∀ p ∈ ps, p < xs.length) ∧ ps.length = count ∧ n ∣ pick xs ps - wanted
theorem pick_cons (xs : List Int) (p : Nat) (ps : List Nat) : pick xs (p :: ps) = xs.getD p 0 + pick xs ps := by
  unfold pick
  rw [List.map_cons, List.sum_cons]
theorem pick_append (xs : List Int) (ps qs : List Nat) : pick xs (ps ++ qs) = pick xs ps + pick xs qs := by
  unfold pick
  rw [List.map_append, List.sum_append]
def spChoose (K : PySem.W.Frag) (C : Addr) : Sp := fun vs H Q E => ∃ (a : Addr) (xs : List Int) (count : Nat) (wanted n : Int), vs = [.ref a, .int (count : Int), .int wanted, .int n] ∧ SqL K H a (xs.map V.int) ∧ xs.length ≤ 100 ∧
  (goodN n → (∀ (ps : List Nat) (p : Addr) (H2 : Hp), IsCh xs count wanted n ps → H p = none → Ex H H2 → H2 p = some (.lst (places ps)) → Q (.ref p) H2) ∧ (¬ Ch xs n count (wanted % n) → ∀ H2, Ex H H2 → Q .non H2)) ∧
  (¬ goodN n → ∀ H2, Ex H H2 → E (.ref C) none H2)
def spIsChoice (K : PySem.W.Frag) : Sp := fun vs H Q _ => ∃ (a b : Addr) (xs : List Int) (ps : List Nat) (count : Nat) (wanted n : Int), vs = [.ref a, .ref b, .int (count : Int), .int wanted, .int n] ∧ H a = some (.lst (places ps)) ∧ SqL K H b (xs.map V.int) ∧ xs.length ≤ 1000 ∧
  0 < n ∧ IsCh xs count wanted n ps ∧ RetV (.bl true) H Q
theorem spv_isChoice {K : PySem.W.Frag} {H : Hp} {a b : Addr} {xs : List Int} {ps : List Nat} {count : Nat} {wanted n : Int} (ha : H a = some (.lst (places ps))) (hb : SqL K H b (xs.map V.int)) (hl : xs.length ≤ 1000) (hn : 0 < n) (h : IsCh xs count wanted n ps) :
    SpV (spIsChoice K) [.ref a, .ref b, .int (count : Int), .int wanted, .int n] H (.bl true) := fun H1 e Q q E => ⟨a, b, xs, ps, count, wanted, n, rfl, e _ _ ha, ex_l e hb, hl, hn, h, fun H2 e2 => q H2 e2⟩
/-- one step of the way back -/
theorem ch_back {xs : List Int} {n x : Int} {k c : Nat} {r : Int} (hn : 0 < n) (hx : xs[k]? = some x) (h : Ch (xs.take (k + 1)) n c r) (hno : ¬ Ch (xs.take k) n c r) : ∃ (j : Nat) (s : Int), c = j + 1 ∧ Ch (xs.take k) n j s ∧ n ∣ s + x - r ∧ (r - x) % n = s := by
  have e : xs.take (k + 1) = xs.take k ++ [x] := by rw [List.take_add_one, hx]; rfl
  rw [e, ch_snoc] at h
  rcases h with h | ⟨j, s, h1, h2, h3⟩
  · exact absurd h hno
  · obtain ⟨g0, g1⟩ := ch_range hn h2
    have d : n ∣ s + x - r := Int.dvd_self_sub_of_emod_eq h3.symm
    refine ⟨j, s, h1, h2, d, ?_⟩
    rw [h3]
    have e2 : (s + x) % n - x = s - n * ((s + x) / n) := by
      rw [Int.emod_def]
      omega
    rw [e2, Int.sub_mul_emod_self_left]
    exact Int.emod_eq_of_lt g0 g1
/-- a choice of places is one of numbers -/
theorem pick_sublist (xs : List Int) : ∀ (ps : List Nat), ps.Pairwise (· < ·) → (∀ p ∈ ps, p < xs.length) → ∃ s : List Int, s.Sublist xs ∧ s.length = ps.length ∧ s.sum = pick xs ps := by
  induction xs with
  | nil =>
    intro ps _ h
    cases ps with
    | nil => exact ⟨[], List.Sublist.refl _, rfl, rfl⟩
    | cons p ps => exact absurd (h p List.mem_cons_self) (Nat.not_lt_zero _)
  | cons x xs ih =>
    have key : ∀ ps : List Nat, ps.Pairwise (· < ·) → (∀ p ∈ ps, 0 < p ∧ p < xs.length + 1) → ∃ s : List Int, s.Sublist xs ∧ s.length = ps.length ∧ s.sum = pick (x :: xs) ps := by
      intro ps hp h
      obtain ⟨s, g1, g2, g3⟩ := ih (ps.map fun p => p - 1) (by
        rw [List.pairwise_map]
        exact hp.imp_of_mem fun {a b} ha hb hab => by
          have := h a ha
          omega) (fun p hp => by
        obtain ⟨q, hq, rfl⟩ := List.mem_map.mp hp
        have := h q hq
        omega)
      refine ⟨s, g1, by rw [g2, List.length_map], ?_⟩
      rw [g3]
      unfold pick
      rw [List.map_map]
      congr 1
      refine List.map_congr_left fun p hp => ?_
      obtain ⟨q, rfl⟩ : ∃ q, p = q + 1 := ⟨p - 1, by have := (h p hp).1; omega⟩
      show xs.getD (q + 1 - 1) 0 = (x :: xs).getD (q + 1) 0
      rw [Nat.add_sub_cancel, List.getD_cons_succ]
    intro ps hp h
    cases ps with
    | nil => exact ⟨[], List.nil_sublist _, rfl, rfl⟩
    | cons p ps =>
      rw [List.pairwise_cons] at hp
      by_cases h0 : p = 0
      · subst h0
        obtain ⟨s, g1, g2, g3⟩ := key ps hp.2 fun q hq => ⟨hp.1 q hq, h q (List.mem_cons_of_mem _ hq)⟩
        refine ⟨x :: s, g1.cons_cons x, by rw [List.length_cons, List.length_cons, g2], ?_⟩
        rw [List.sum_cons, g3, pick_cons]
        rfl
      · obtain ⟨s, g1, g2, g3⟩ := key (p :: ps) (List.pairwise_cons.mpr hp) fun q hq => ⟨by
          rcases List.mem_cons.mp hq with rfl | hq
          · omega
          · have := hp.1 q hq
            omega, h q hq⟩
        exact ⟨s, g1.cons x, g2, g3⟩
theorem ch_of {xs : List Int} {count : Nat} {wanted n : Int} {ps : List Nat} (h : IsCh xs count wanted n ps) : Ch xs n count (wanted % n) := by
  obtain ⟨h1, h2, h3, h4⟩ := h
  obtain ⟨s, g1, g2, g3⟩ := pick_sublist xs ps h1 h2
  refine ⟨s, g1, by omega, ?_⟩
  rw [g3]
  exact Int.emod_eq_emod_iff_emod_sub_eq_zero.mpr (Int.emod_eq_zero_of_dvd h4)
theorem places_ints (ps : List Nat) : places ps = (ps.map fun p : Nat => (p : Int)).map V.int := by
  unfold places
  rw [List.map_map]
  rfl
section
variable {K : PySem.W.Frag} {σ : L2.St} {H H' : Hp} {ta tb te tx : TE} {t u : TT} {x y z v : V} {D : Ends} {tu tw tz : TS}
/-- a call whose first argument is a new list -/
theorem ev_callLA {sp : Sp} {E : XK} {xs vs : List V} {tr : TA} (ha : EvL ta σ H xs) (hb : EvA tr σ H vs) (hs : ∀ a H1, Ex H H1 → H1 a = some (.lst xs) → SpV sp (.ref a :: vs) H1 z) : Ev (tCall sp [] E (tCons ta tr)) σ H z := fun H1 e Q q =>
  ha H1 e _ fun a H2 _ e2 h2 => hb H2 (e.trans e2) _ fun H3 e3 => by
    show sp ((.ref a :: vs) ++ []) H3 Q E
    rw [List.append_nil]
    exact hs a H3 ((e.trans e2).trans e3) (e3 _ _ h2) H3 (Ex.refl H3) Q (fun H4 e4 => q H4 ((e2.trans e3).trans e4)) E
theorem spv_noChoice {C a : Addr} {xs : List Int} {m : Nat} {W n : Int} (ha : SqL K H a (xs.map V.int)) (hl : xs.length ≤ 100) (hn : goodN n) (hno : ¬ Ch xs n m (W % n)) : SpV (spChoose K C) [.ref a, .int (m : Int), .int W, .int n] H .non := fun H1 e Q q E =>
  ⟨a, xs, m, W, n, rfl, ex_l e ha, hl, fun _ => ⟨fun ps p H2 h => absurd (ch_of h) hno, fun _ H2 e2 => q H2 e2⟩, fun z => absurd hn z⟩
/-- a choice told, looked at -/
theorem ev_choiceOf {C : Addr} {E E' : XK} {tl : TE} {tr tr2 : TA} {b : Addr} {xs : List Int} {m : Nat} {W n : Int} (hv : EvL tl σ H (xs.map V.int)) (hr : EvA tr σ H [.int (m : Int), .int W, .int n]) (hr2 : EvA tr2 σ H [.ref b, .int (m : Int), .int W, .int n])
    (hS : SqL K H b (xs.map V.int)) (hC : Ch xs n m (W % n)) (hn : goodN n) (hl : xs.length ≤ 100) : Ev (tCall (spIsChoice K) [] E (tCons (tCall (spChoose K C) [] E' (tCons tl tr)) tr2)) σ H (.bl true) := fun H1 e Q q =>
  hv H1 e _ fun a H2 _ e2 h2 => hr H2 (e.trans e2) _ fun H3 e3 => ⟨a, xs, m, W, n, rfl, sq_of (e3 _ _ h2), hl, fun _ => ⟨fun ps p H4 hps _ e4 h4 => hr2 H4 (((e.trans e2).trans e3).trans e4) _ fun H5 e5 =>
    ⟨p, b, xs, ps, m, W, n, rfl, e5 _ _ h4, ex_l ((((e.trans e2).trans e3).trans e4).trans e5) hS, by omega, by have := hn.1; omega, hps, fun H6 e6 => q H6 ((((e2.trans e3).trans e4).trans e5).trans e6)⟩, fun z => absurd hC z⟩, fun z => absurd hn z⟩
/-- xs.insert(i, y) -/
theorem s_insert {l : Addr} {xs : List V} {i : Int} (hl : H l = some (.lst xs)) (ha : Ev ta σ H (.ref l)) (h1 : Ev tb σ H (.int i)) (h2 : Ev te σ H v) (hz : xs.length < 100000) (h0 : 0 ≤ i ∧ i < 100000) (k : ∀ H1, Ex H H1 → D.nx σ (upd H1 l (.lst (xs.take i.toNat ++ [v] ++ xs.drop i.toNat)))) :
    tDrop (tBM K "list" (fun x vs H Q => ∃ (l : Addr) (xs : List V) (i : Int) (y : V), x = .ref l ∧ vs = [.int i, y] ∧ H l = some (.lst xs) ∧ xs.length < sizeLine ∧ 0 ≤ i ∧ i < 2 ^ 63 ∧ Q .non (upd H l (.lst (xs.take i.toNat ++ [y] ++ xs.drop i.toNat)))) ta (tCons tb (tCons te tNil))) D σ H :=
  ha H (Ex.refl H) _ fun H1 e1 => ⟨Or.inl ⟨rfl, xs, sq_of (e1 l _ hl)⟩, h1 H1 e1 _ fun H2 e2 => h2 H2 (e1.trans e2) _ fun H3 e3 => ⟨l, xs, i, v, rfl, rfl, ((e1.trans e2).trans e3) l _ hl, sz_lt hz, h0.1, by omega, k H3 ((e1.trans e2).trans e3)⟩⟩
theorem q_insert {l : Addr} {xs : List V} {i : Int} (hl : H l = some (.lst xs)) (ha : Ev ta σ H (.ref l)) (h1 : Ev tb σ H (.int i)) (h2 : Ev te σ H v) (hz : xs.length < 100000) (h0 : 0 ≤ i ∧ i < 100000) (k : ∀ H1, Ex H H1 → tz D σ (upd H1 l (.lst (xs.take i.toNat ++ [v] ++ xs.drop i.toNat)))) :
    tSeq (tDrop (tBM K "list" (fun x vs H Q => ∃ (l : Addr) (xs : List V) (i : Int) (y : V), x = .ref l ∧ vs = [.int i, y] ∧ H l = some (.lst xs) ∧ xs.length < sizeLine ∧ 0 ≤ i ∧ i < 2 ^ 63 ∧ Q .non (upd H l (.lst (xs.take i.toNat ++ [y] ++ xs.drop i.toNat)))) ta (tCons tb (tCons te tNil)))) tz D σ H :=
  s_insert (D := { D with nx := tz D }) hl ha h1 h2 hz h0 k
theorem given_rep (m : Nat) (x : Int) : given m (fun _ => true) (fun _ => V.int x) = (List.replicate m x).map V.int := by
  unfold given
  rw [List.filter_eq_self.mpr fun _ _ => rfl, List.map_replicate]
  refine List.eq_replicate_iff.mpr ⟨by rw [List.length_map, List.length_range], fun y hy => ?_⟩
  obtain ⟨_, _, e⟩ := List.mem_map.mp hy
  exact e.symm
/-- xs.clear() -/
theorem q_clear {l : Addr} {xs : List V} (hl : H l = some (.lst xs)) (ha : Ev ta σ H (.ref l)) (k : ∀ H1, Ex H H1 → tz D σ (upd H1 l (.lst []))) : tSeq (tDrop (tBM0 K "list" rClear ta)) tz D σ H :=
  ha H (Ex.refl H) _ fun H1 e1 => ⟨Or.inl ⟨rfl, xs, sq_of (e1 l _ hl)⟩, l, xs, rfl, rfl, e1 l _ hl, k H1 e1⟩
end
/-- the barren list -/
def bar (n : Nat) : List Int := List.replicate (n - 1) 0 ++ List.replicate (n - 1) 1
theorem bar_len (n : Nat) : (bar n).length = 2 * n - 2 := by
  unfold bar
  rw [List.length_append, List.length_replicate, List.length_replicate]
  omega
theorem bar_no {n : Int} (hn : 1 ≤ n) : ¬ Ch (bar n.toNat) n n.toNat 0 := by
  rintro ⟨s, h1, h2, h3⟩
  obtain ⟨l1, l2, rfl, g1, g2⟩ := List.sublist_append_iff.mp h1
  obtain ⟨k1, k2, rfl⟩ := List.sublist_replicate_iff.mp g1
  obtain ⟨j1, j2, rfl⟩ := List.sublist_replicate_iff.mp g2
  rw [List.length_append, List.length_replicate, List.length_replicate] at h2
  rw [List.sum_append] at h3
  have s0 : ∀ (a : Nat) (x : Int), (List.replicate a x).sum = (a : Int) * x := fun a x => by
    induction a with
    | zero => simp
    | succ a ih =>
      rw [List.replicate_succ, List.sum_cons, ih, Int.natCast_add, Int.add_mul]
      simp
      omega
  rw [s0, s0, Int.mul_zero, Int.zero_add, Int.mul_one, Int.emod_eq_of_lt (by omega) (by omega)] at h3
  omega
def spBarren (C : Addr) : Sp := fun vs H Q E => ∃ n : Int, vs = [.int n] ∧ (goodN n → RetL ((bar n.toNat).map V.int) H Q) ∧ (¬ goodN n → ∀ H2, Ex H H2 → E (.ref C) none H2)
def spIsBarren : Sp := fun vs H Q _ => ∃ (a : Addr) (xs : List Int) (n : Int), vs = [.ref a, .int n] ∧ H a = some (.lst (xs.map V.int)) ∧ goodN n ∧ xs.length = 2 * n.toNat - 2 ∧ (∀ x ∈ xs, -1000000000000 ≤ x ∧ x ≤ 1000000000000) ∧ ¬ Ch xs n n.toNat 0 ∧ RetV (.bl true) H Q
theorem bar_le {n : Nat} {x : Int} (h : x ∈ bar n) : -1000000000000 ≤ x ∧ x ≤ 1000000000000 := by
  unfold bar at h
  rcases List.mem_append.mp h with h | h
  · rw [(List.mem_replicate.mp h).2]
    omega
  · rw [(List.mem_replicate.mp h).2]
    omega
/-! ### groups -/
def sel (xs : List Int) (l : List Nat) : List Int := l.map fun k => xs.getD k 0
theorem sel_len (xs : List Int) (l : List Nat) : (sel xs l).length = l.length := by
  unfold sel
  rw [List.length_map]
def spGroups (K : PySem.W.Frag) (C : Addr) : Sp := fun vs H Q E => ∃ (a : Addr) (xs : List Int) (n : Int), vs = [.ref a, .int n] ∧ SqL K H a (xs.map V.int) ∧ xs.length ≤ 100 ∧
  (goodN n → ∀ (gs : List (List Nat)) (p : Addr) (as : List Addr) (H2 : Hp), H p = none → Ex H H2 → H2 p = some (.lst (as.map V.ref)) → as.length = gs.length → (∀ (i : Nat) (q : Addr) (g : List Nat), as[i]? = some q → gs[i]? = some g → H2 q = some (.lst (places g))) →
    (∀ g ∈ gs, IsCh xs n.toNat 0 n g) → gs.flatten.Nodup → ¬ Ch (sel xs ((List.range xs.length).filter fun k => decide (k ∉ gs.flatten))) n n.toNat 0 → Q (.ref p) H2) ∧
  (¬ goodN n → ∀ H2, Ex H H2 → E (.ref C) none H2)
theorem rising_eq {a b : List Nat} (ha : a.Pairwise (· < ·)) (hb : b.Pairwise (· < ·)) (h : ∀ k, k ∈ a ↔ k ∈ b) : a = b := by
  have g := SrSet.sortedEq (a.map fun k : Nat => (k : Int)) (b.map fun k : Nat => (k : Int)) (by
    rw [List.pairwise_map]
    exact ha.imp fun h => by omega) (by
    rw [List.pairwise_map]
    exact hb.imp fun h => by omega) fun k => by
    constructor
    · intro hk
      obtain ⟨j, hj, rfl⟩ := List.mem_map.mp hk
      exact List.mem_map.mpr ⟨j, (h j).mp hj, rfl⟩
    · intro hk
      obtain ⟨j, hj, rfl⟩ := List.mem_map.mp hk
      exact List.mem_map.mpr ⟨j, (h j).mpr hj, rfl⟩
  have g2 := congrArg (List.map Int.toNat) g
  rw [List.map_map, List.map_map] at g2
  have e : (Int.toNat ∘ fun k : Nat => (k : Int)) = id := funext fun k => Int.toNat_natCast k
  rw [e, List.map_id, List.map_id] at g2
  exact g2
/-- what is left behind a group -/
def rest (l ps : List Nat) : List Nat := ((List.range l.length).filter fun k => decide (k ∉ ps)).map fun k => l.getD k 0
def group (l ps : List Nat) : List Nat := ps.map fun p => l.getD p 0
theorem getD_lt {l : List Nat} (hl : l.Pairwise (· < ·)) {i j : Nat} (hij : i < j) (hj : j < l.length) : l.getD i 0 < l.getD j 0 := by
  have := List.pairwise_iff_getElem.mp hl i j (by omega) hj hij
  rw [List.getD_eq_getElem?_getD, List.getD_eq_getElem?_getD, List.getElem?_eq_getElem (show i < l.length by omega), List.getElem?_eq_getElem hj]
  exact this
theorem getD_mem {l : List Nat} {i : Nat} (hi : i < l.length) : l.getD i 0 ∈ l := by
  rw [List.getD_eq_getElem?_getD, List.getElem?_eq_getElem hi]
  exact List.getElem_mem hi
theorem getD_of_mem {l : List Nat} {k : Nat} (h : k ∈ l) : ∃ i, i < l.length ∧ l.getD i 0 = k := by
  obtain ⟨i, hi, e⟩ := List.mem_iff_getElem.mp h
  refine ⟨i, hi, ?_⟩
  rw [List.getD_eq_getElem?_getD, List.getElem?_eq_getElem hi]
  exact e
theorem getD_inj {l : List Nat} (hl : l.Pairwise (· < ·)) {i j : Nat} (hi : i < l.length) (hj : j < l.length) (e : l.getD i 0 = l.getD j 0) : i = j := by
  rcases Nat.lt_trichotomy i j with h | h | h
  · have := getD_lt hl h hj
    omega
  · exact h
  · have := getD_lt hl h hi
    omega
theorem group_rises {l ps : List Nat} (hl : l.Pairwise (· < ·)) (hp : ps.Pairwise (· < ·)) (hb : ∀ p ∈ ps, p < l.length) : (group l ps).Pairwise (· < ·) := by
  unfold group
  rw [List.pairwise_map]
  exact hp.imp_of_mem fun ha hb' h => getD_lt hl h (hb _ hb')
theorem rest_rises {l ps : List Nat} (hl : l.Pairwise (· < ·)) : (rest l ps).Pairwise (· < ·) := by
  unfold rest
  rw [List.pairwise_map]
  exact (List.Pairwise.filter _ (List.pairwise_lt_range (n := l.length))).imp_of_mem fun ha hb' h => getD_lt hl h (List.mem_range.mp (List.mem_filter.mp hb').1)
theorem mem_rest {l ps : List Nat} (hl : l.Pairwise (· < ·)) (hb : ∀ p ∈ ps, p < l.length) {k : Nat} : k ∈ rest l ps ↔ k ∈ l ∧ k ∉ group l ps := by
  unfold rest group
  constructor
  · intro h
    obtain ⟨i, hi, rfl⟩ := List.mem_map.mp h
    obtain ⟨h1, h2⟩ := List.mem_filter.mp hi
    have hi' := List.mem_range.mp h1
    refine ⟨getD_mem hi', fun z => ?_⟩
    obtain ⟨p, hp, e⟩ := List.mem_map.mp z
    have := getD_inj hl (hb p hp) hi' e
    subst this
    exact of_decide_eq_true h2 hp
  · rintro ⟨h1, h2⟩
    obtain ⟨i, hi, rfl⟩ := getD_of_mem h1
    exact List.mem_map.mpr ⟨i, List.mem_filter.mpr ⟨List.mem_range.mpr hi, decide_eq_true fun z => h2 (List.mem_map.mpr ⟨i, z, rfl⟩)⟩, rfl⟩
theorem rest_len {l ps : List Nat} {p : Nat} (hp : p ∈ ps) (hb : p < l.length) : (rest l ps).length < l.length := by
  unfold rest
  rw [List.length_map]
  have h : (List.filter (fun k => decide (k ∉ ps)) (List.range l.length)).length < (List.range l.length).length := by
    rw [List.length_filter_lt_length_iff_exists]
    exact ⟨p, List.mem_range.mpr hb, by simp [hp]⟩
  rw [List.length_range] at h
  exact h
theorem pick_sel {xs : List Int} {l : List Nat} : ∀ {ps : List Nat}, (∀ p ∈ ps, p < l.length) → pick (sel xs l) ps = pick xs (group l ps) := by
  intro ps h
  unfold pick group sel
  rw [List.map_map]
  congr 1
  refine List.map_congr_left fun p hp => ?_
  have := h p hp
  show (l.map fun k => xs.getD k 0).getD p 0 = xs.getD (l.getD p 0) 0
  rw [List.getD_eq_getElem?_getD, List.getElem?_map, List.getD_eq_getElem?_getD (l := l), List.getElem?_eq_getElem this]
  rfl
theorem nodup_rises {l : List Nat} (h : l.Pairwise (· < ·)) : l.Nodup := by
  rw [List.nodup_iff_pairwise_ne]
  exact h.imp fun h => by omega
theorem given_sel (xs : List Int) (l : List Nat) : given l.length (fun _ => true) (fun i => V.int (xs.getD (l.getD i 0) 0)) = (sel xs l).map V.int := by
  unfold given sel
  rw [List.filter_eq_self.mpr fun _ _ => rfl, List.map_map]
  refine List.ext_getElem? fun i => ?_
  rw [List.getElem?_map, List.getElem?_map]
  by_cases h : i < l.length
  · rw [List.getElem?_range h, List.getElem?_eq_getElem h]
    show some (V.int (xs.getD (l.getD i 0) 0)) = some (V.int (xs.getD l[i] 0))
    rw [List.getD_eq_getElem?_getD (l := l), List.getElem?_eq_getElem h]
    rfl
  · rw [List.getElem?_eq_none (by rw [List.length_range]; omega), List.getElem?_eq_none (by omega)]
    rfl
theorem given_group (l ps : List Nat) : given ps.length (fun _ => true) (fun i => V.int ((l.getD (ps.getD i 0) 0 : Nat) : Int)) = places (group l ps) := by
  unfold given places group
  rw [List.filter_eq_self.mpr fun _ _ => rfl, List.map_map]
  refine List.ext_getElem? fun i => ?_
  rw [List.getElem?_map, List.getElem?_map]
  by_cases h : i < ps.length
  · rw [List.getElem?_range h, List.getElem?_eq_getElem h]
    show some (V.int ((l.getD (ps.getD i 0) 0 : Nat) : Int)) = some (V.int ((l.getD ps[i] 0 : Nat) : Int))
    rw [List.getD_eq_getElem?_getD (l := ps), List.getElem?_eq_getElem h]
    rfl
  · rw [List.getElem?_eq_none (by rw [List.length_range]; omega), List.getElem?_eq_none (by omega)]
    rfl
theorem place_at {l : List Nat} {i : Nat} {x : V} (h : (places l)[i]? = some x) : x = .int ((l.getD i 0 : Nat) : Int) ∧ i < l.length := by
  unfold places at h
  rw [List.getElem?_map] at h
  by_cases hi : i < l.length
  · rw [List.getElem?_eq_getElem hi] at h
    rw [List.getD_eq_getElem?_getD, List.getElem?_eq_getElem hi]
    exact ⟨(Option.some.inj h).symm, hi⟩
  · rw [List.getElem?_eq_none (by omega)] at h
    cases h
theorem place_ix {l : List Nat} {i : Nat} (h : i < l.length) : atI (places l) (i : Int) = some (.int ((l.getD i 0 : Nat) : Int)) := by
  refine atI_nat ?_
  unfold places
  rw [List.getElem?_map, List.getElem?_eq_getElem h, List.getD_eq_getElem?_getD, List.getElem?_eq_getElem h]
  rfl
theorem int_ix {xs : List Int} {i : Nat} (h : i < xs.length) : atI (xs.map V.int) (i : Int) = some (.int (xs.getD i 0)) := by
  refine atI_nat ?_
  rw [List.getElem?_map, List.getElem?_eq_getElem h, List.getD_eq_getElem?_getD, List.getElem?_eq_getElem h]
  rfl
theorem mem_ints {l : List Nat} {k : Nat} : decide ((k : Int) ∈ l.map fun p : Nat => (p : Int)) = decide (k ∈ l) := by
  rw [Bool.eq_iff_iff, decide_eq_true_iff, decide_eq_true_iff, List.mem_map]
  constructor
  · rintro ⟨j, hj, e⟩
    have : j = k := by omega
    subst this
    exact hj
  · exact fun h => ⟨k, h, rfl⟩
section
variable {K : PySem.W.Frag} {σ : L2.St} {H H' : Hp} {ta tb te tx : TE} {t u : TT} {x y z v : V} {D : Ends} {tu tw tz : TS}
/-- k not in l -/
theorem et_noPlace {p : Addr} {l : List Nat} {k : Nat} (ha : Ev ta σ H (.int (k : Int))) (hb : Ev tb σ H (.ref p)) (hp : H p = some (.lst (places l))) : EvT (tTest (tOp (rIn K true) ta tb)) σ H (decide (k ∉ l)) := by
  have hp' := hp
  rw [places_ints] at hp'
  have g := et_op ha hb (rv_niL (K := K) (x := .int (k : Int)) (sq_of hp') rfl (flat_ints _))
  rw [inV_int, mem_ints] at g
  refine et_is g ?_
  rw [Bool.eq_iff_iff]
  simp
theorem q_callLA {i : Nat} {sp : Sp} {E : XK} {xs vs : List V} {tr : TA} (ha : EvL ta σ H xs) (hb : EvA tr σ H vs) (k : ∀ b H1, Ex H H1 → H b = none → H1 b = some (.lst xs) → sp (.ref b :: vs) H1 (fun x H2 => tz D (σ.set i (some x)) H2) E) :
    tSeq (tAsg (tCall sp [] E (tCons ta tr)) (gName i)) tz D σ H := ha H (Ex.refl H) _ fun b H2 hb2 e2 h2 => hb H2 e2 _ fun H3 e3 => by
  show sp ((.ref b :: vs) ++ []) H3 (fun x H2 => tz D (σ.set i (some x)) H2) E
  rw [List.append_nil]
  exact k b H3 (e2.trans e3) hb2 (e3 _ _ h2)
end
end Sr
namespace Sr
open PySem PySem.Spec PyProof.Rows L2 Evl
/-! ### exceptions caught -/
/-- what the module says of the classes: C is raised, R is in the clause, T is beside -/
structure Caught (K : PySem.W.Frag) (mg : Str → Option Value) (C T R : Addr) : Prop where
  ve : mg "ValueError" = none
  ex : PySem.W.exmOne K (.ref C) (.ref R) = some true
  c : ExcC K C
  k1 : PySem.W.kitOne K (.ref C) (.ref C) = some true
  k2 : PySem.W.kitOne K (.ref C) (.type "ValueError") = some true
  k3 : PySem.W.kitOne K (.ref C) (.ref T) = some false
theorem kit_self {K : PySem.W.Frag} {C : Addr} : PySem.W.kitOne K (.ref C) (.ref C) = some true := by
  unfold PySem.W.kitOne
  exact if_pos (beq_self_eq_true _)
theorem kit_ve {K : PySem.W.Frag} {C : Addr} (h : PySem.W.subIn K (.ref C) (.type "ValueError") = some true) : PySem.W.kitOne K (.ref C) (.type "ValueError") = some true := by
  unfold PySem.W.kitOne
  rw [if_neg (fun z => by have := beq_iff_eq.mp z; cases this)]
  show (if PySem.W.kitMeta "ValueError" = true then PySem.W.subIn K (.ref C) (.type "ValueError") else none) = some true
  rw [if_pos (by decide +kernel), h]
theorem kit_no {K : PySem.W.Frag} {C T : Addr} (h : PySem.W.subIn K (.ref C) (.ref T) = some false) (h2 : PySem.W.subIn K (.ref C) (.ref C) = some true) (hd : PySem.W.hasDictIn K T = true) (ht : PySem.W.typeIn K (.ref T) = some (.type "type")) : PySem.W.kitOne K (.ref C) (.ref T) = some false := by
  unfold PySem.W.kitOne
  rw [if_neg (fun z => by
    have e := beq_iff_eq.mp z
    injection e with e
    subst e
    rw [h] at h2
    cases h2)]
  obtain ⟨cd, hc, _⟩ := PySem.W.any_some hd
  have e2 : ((PySem.W.clsIn K T).isSome && PySem.W.typeIn K (.ref T) == some (.type "type")) = true := by rw [hc, ht] <;> rfl
  show (if ((PySem.W.clsIn K T).isSome && PySem.W.typeIn K (.ref T) == some (.type "type")) = true then PySem.W.subIn K (.ref C) (.ref T) else none) = some false
  rw [if_pos e2]
  exact h
section
variable {X : Cx}
theorem k_isE (K : PySem.W.Frag) {a D : Addr} {oe : Obj} {pn : List (Addr × Obj)} (C : ExcC K D) (hz : Zc (.ref D) none oe) (hf : ∃ vs, oe.data = .fields vs) (hK : X.K = K := by rfl) : CallR (X.suite a ((a, oe) :: pn)) (.builtin "isinstance") (rIsE K D a) := by
  subst hK
  exact call_isE C hz hf
theorem pe_calS {CX : CXT} {x : Str} {k : Nat} {ps : List Str} {sp : Sp} {E : L2.St → XK} {e : Expr} {es : List Expr} {t : TA} {p pos : Pos} (C : CalX CX X.prog X.w X.K X.mg X.base x k ps sp) (hr : Room k X.A) (hx : ∀ σ, PassesAt CX X σ (E σ)) (ha : PA X (e :: es) t) (hg : Gl X x := by rfl)
    (hdb : (x == ("__debug__" : Str)) = false := by decide) (he : starEach (e :: es) X.env = (false, eval e X.env) :: starEach es X.env := by rfl) (hpl : (backTo pos (starEach es X.env)).any (·.1) = false := by rfl) :
    PE X (.Call (.Name x p) (e :: es) [] pos) (tCallS sp E t) := by
  obtain ⟨f, fd, F, hm, hk, hb⟩ := C
  exact pe_callS F hr hg hm hk hb hx ha hdb he hpl
/-- the suite, for the class that is raised -/
theorem suite_of {a : Addr} {oe : Obj} {cls : Value} {d : Option Addr} {pn : List (Addr × Obj)} {C : Addr} {ss : List Stmt} {t : TS} (hz : Zc cls d oe) (h : Zc (.ref C) none oe → PSs (X.suite a ((a, oe) :: pn)) ss t) :
    PSs (X.suite a ((a, oe) :: pn)) ss (fun D σ H => cls = .ref C ∧ d = none ∧ t D σ H) := ⟨fun pins s σ H D I hh => by
  obtain ⟨rfl, rfl, hh⟩ := hh
  exact (h hz).run pins s σ H D I hh⟩
end
/-- the marks of an exception of the class C in slot i: is it a C, a ValueError, a T -/
def tMarks (K : PySem.W.Frag) (C T a : Addr) (i j : Nat) : TS := tAsg (tLst (tCons (tCB (rIsE K C a) (tCons (tVar i) (tCons (tC (.ref C)) tNil))) (tCons (tCB (rIsE K C a) (tCons (tVar i) (tCons (tC (.ty "ValueError")) tNil))) (tCons (tCB (rIsE K C a) (tCons (tVar i) (tCons (tC (.ref T)) tNil))) tNil)))) (gName j)
def tSuite (K : PySem.W.Frag) (C T : Addr) (i j : Nat) : Addr → Value → Option Addr → TS := fun a cls d D σ H => cls = .ref C ∧ d = none ∧ tMarks K C T a i j D σ H
def marksV : List V := [.bl true, .bl true, .bl false]
section
variable {K : PySem.W.Frag} {mg : Str → Option Value} {σ : L2.St} {H H' : Hp} {ta tb te tx : TE} {t u : TT} {x y z v : V} {D : Ends} {tu tw tz : TS}
theorem s_marks {C T R a : Addr} {i j : Nat} (cg : Caught K mg C T R) (hi : σ[i]? = some (some (.ref a))) (k : ∀ p H1, H p = none → Ex H H1 → H1 p = some (.lst marksV) → D.nx (σ.set j (some (.ref p))) H1) : tSuite K C T i j a (.ref C) none D σ H := by
  refine ⟨rfl, rfl, ?_⟩
  have g : ∀ (c : V) (cv : Value) (b : Bool), (∀ u, RelV c u → u = cv) → PySem.W.kitOne K (.ref C) cv = some b → Ev (tCB (rIsE K C a) (tCons (tVar i) (tCons (tC c) tNil))) σ H (.bl b) := fun c cv b h1 h2 H1 e Q q => (ea_cons (ev_var hi) (ea_cons (ev_c (v := c)) ea_nil)) H1 e _ fun H2 e2 => ⟨c, cv, b, rfl, h1, h2, q H2 e2⟩
  exact s_asgL (el_lst (ea_cons (g _ _ true (fun u h => h) cg.k1) (ea_cons (g _ _ true (fun u h => h) cg.k2) (ea_cons (g _ _ false (fun u h => h) cg.k3) ea_nil))) (by show (3 : Nat) ≤ 100000; decide)) k
/-- a statement f(..) that may raise -/
theorem s_dropCall {sp : Sp} {E : XK} {tc : TA} {vs : List V} (h : EvA tc σ H vs) (k : ∀ H1, Ex H H1 → sp vs H1 (fun _ H2 => D.nx σ H2) E) : tDrop (tCall sp [] E tc) D σ H := h H (Ex.refl H) _ fun H1 e1 => by
  show sp (vs ++ []) H1 (fun _ H2 => D.nx σ H2) E
  rw [List.append_nil]
  exact k H1 e1
theorem s_dropCallS {sp : Sp} {E : L2.St → XK} {tc : TA} {vs : List V} (h : EvA tc σ H vs) (k : ∀ H1, Ex H H1 → sp vs H1 (fun _ H2 => D.nx σ H2) (E σ)) : tDrop (tCallS sp E tc) D σ H := h H (Ex.refl H) _ fun H1 e1 => k H1 e1
theorem q_dropCallS {sp : Sp} {E : L2.St → XK} {tc : TA} {vs : List V} (h : EvA tc σ H vs) (k : ∀ H1, Ex H H1 → sp vs H1 (fun _ H2 => tz D σ H2) (E σ)) : tSeq (tDrop (tCallS sp E tc)) tz D σ H := h H (Ex.refl H) _ fun H1 e1 => k H1 e1
/-- a promise that refuses bad rounds, whatever it tells of good ones -/
def SpAny (sp : Sp) (vs : List V) (H : Hp) (n : Int) (C : Addr) : Prop := ∀ H1, Ex H H1 → ∀ (Q : VK) (E : XK), (goodN n → ∀ v H2, Ex H1 H2 → Q v H2) → (¬ goodN n → ∀ H2, Ex H1 H2 → E (.ref C) none H2) → sp vs H1 Q E
/-- if way == j: f(..) -/
theorem q_ask {sp : Sp} {E : XK} {tc : TA} {vs : List V} {way j n : Int} {C : Addr} (hw : Ev ta σ H (.int way)) (hj : Ev tb σ H (.int j)) (h : ∀ H1, Ex H H1 → EvA tc σ H1 vs) (hs : ∀ H1, Ex H H1 → way = j → SpAny sp vs H1 n C) (kE : way = j → ¬ goodN n → ∀ H1, Ex H H1 → E (.ref C) none H1)
    (k : (way = j → goodN n) → ∀ H1, Ex H H1 → tz D σ H1) : tSeq (tIfS (tTest (tOp rEq ta tb)) (tDrop (tCall sp [] E tc)) tNext) tz D σ H :=
  q_when (et_eq hw hj) (fun hb H1 e1 => by
    have e := of_decide_eq_true hb
    exact s_dropCall (h H1 e1) fun H2 e2 => hs H1 e1 e H2 e2 _ _ (fun hn v H3 e3 => k (fun _ => hn) H3 ((e1.trans e2).trans e3)) (fun hn H3 e3 => kE e hn H3 ((e1.trans e2).trans e3)))
    (fun hb H1 e1 => k (fun z => absurd z (of_decide_eq_false hb)) H1 e1)
theorem s_ask {sp : Sp} {E : XK} {tc : TA} {vs : List V} {way j n : Int} {C : Addr} (hw : Ev ta σ H (.int way)) (hj : Ev tb σ H (.int j)) (h : ∀ H1, Ex H H1 → EvA tc σ H1 vs) (hs : ∀ H1, Ex H H1 → way = j → SpAny sp vs H1 n C) (kE : way = j → ¬ goodN n → ∀ H1, Ex H H1 → E (.ref C) none H1)
    (k : (way = j → goodN n) → ∀ H1, Ex H H1 → D.nx σ H1) : tIfS (tTest (tOp rEq ta tb)) (tDrop (tCall sp [] E tc)) tNext D σ H :=
  s_when (et_eq hw hj) (fun hb H1 e1 => by
    have e := of_decide_eq_true hb
    exact s_dropCall (h H1 e1) fun H2 e2 => hs H1 e1 e H2 e2 _ _ (fun hn v H3 e3 => k (fun _ => hn) H3 ((e1.trans e2).trans e3)) (fun hn H3 e3 => kE e hn H3 ((e1.trans e2).trans e3)))
    (fun hb H1 e1 => k (fun z => absurd z (of_decide_eq_false hb)) H1 e1)
/-- lists of three marks compared -/
theorem dp_marks {a : Addr} (h : SqL K H a marksV) : Dp K H (.ref a) (.list [.bool true, .bool true, .bool false]) := Dp.lst h (.cons (Dp.bl true) (.cons (Dp.bl true) (.cons (Dp.bl false) .nil)))
theorem shaped_marks : SeqAt.shaped (.list [.bool true, .bool true, .bool false]) = true := by decide +kernel
theorem rv_neM {a b : Addr} (ha : SqL K H a marksV) (hb : SqL K H b marksV) : RV (rNeD K) (.ref a) (.ref b) H (.bl false) := fun H1 e Q q =>
  ⟨_, _, dp_marks (ex_l e ha), dp_marks (ex_l e hb), shaped_marks, shaped_marks, by
    have g : PyData.eqv (.list [.bool true, .bool true, .bool false]) (.list [.bool true, .bool true, .bool false]) = true := by decide +kernel
    rw [g]
    exact q H1 (Ex.refl H1)⟩
theorem rv_eqM {a b : Addr} (ha : SqL K H a marksV) (hb : SqL K H b marksV) : RV (rEqD K) (.ref a) (.ref b) H (.bl true) := fun H1 e Q q =>
  ⟨_, _, dp_marks (ex_l e ha), dp_marks (ex_l e hb), shaped_marks, shaped_marks, by
    have g : PyData.eqv (.list [.bool true, .bool true, .bool false]) (.list [.bool true, .bool true, .bool false]) = true := by decide +kernel
    rw [g]
    exact q H1 (Ex.refl H1)⟩
end
end Sr
namespace Sr
open PySem PySem.Spec PyProof.Rows L2 Evl
/-! ### the defs of the text -/
def topS (i : Nat) : Stmt := PySem.Challenge.pw_sumrests_k11_rounds_refused.main.body.getD i (.Pass ⟨0, 0, 0, 0⟩)
abbrev slaw_number_by : Stmt := topS 23
theorem sclaw_number_by : FnScope ["cell", "way"] ["cell", "way"] (defScope slaw_number_by) := ⟨rfl, rfl, rfl, by decide +kernel, rfl, by decide +kernel, by decide +kernel⟩
abbrev slaw_cell_at : Stmt := topS 22
theorem sclaw_cell_at : FnScope ["script", "k"] ["script", "k"] (defScope slaw_cell_at) := ⟨rfl, rfl, rfl, by decide +kernel, rfl, by decide +kernel, by decide +kernel⟩
abbrev slaw_numbers : Stmt := topS 24
theorem sclaw_numbers : FnScope ["script", "first", "count", "way", "found", "k", "kind"] ["script", "first", "count", "way"] (defScope slaw_numbers) := ⟨rfl, rfl, rfl, by decide +kernel, rfl, by decide +kernel, by decide +kernel⟩
abbrev slaw_bad_round : Stmt := topS 25
theorem sclaw_bad_round : FnScope ["cell"] ["cell"] (defScope slaw_bad_round) := ⟨rfl, rfl, rfl, by decide +kernel, rfl, by decide +kernel, by decide +kernel⟩
abbrev ssee_round : Stmt := topS 6
theorem scsee_round : FnScope ["n"] ["n"] (defScope ssee_round) := ⟨rfl, rfl, rfl, by decide +kernel, rfl, by decide +kernel, by decide +kernel⟩
abbrev srests : Stmt := topS 7
theorem scrests : FnScope ["numbers", "n", "number"] ["numbers", "n"] (defScope srests) := ⟨rfl, rfl, rfl, by decide +kernel, rfl, by decide +kernel, by decide +kernel⟩
abbrev ssums : Stmt := topS 8
theorem scsums : FnScope ["one", "other", "n", "left", "right", "found", "a", "b"] ["one", "other", "n"] (defScope ssums) := ⟨rfl, rfl, rfl, by decide +kernel, rfl, by decide +kernel, by decide +kernel⟩
abbrev sshifted : Stmt := topS 9
theorem scshifted : FnScope ["numbers", "by", "n", "number"] ["numbers", "by", "n"] (defScope sshifted) := ⟨rfl, rfl, rfl, by decide +kernel, rfl, by decide +kernel, by decide +kernel⟩
abbrev sstays : Stmt := topS 10
theorem scstays : FnScope ["numbers", "n", "here", "by"] ["numbers", "n"] (defScope sstays) := ⟨rfl, rfl, rfl, by decide +kernel, rfl, by decide +kernel, by decide +kernel⟩
abbrev sstep : Stmt := topS 11
theorem scstep : FnScope ["numbers", "n", "here", "by"] ["numbers", "n"] (defScope sstep) := ⟨rfl, rfl, rfl, by decide +kernel, rfl, by decide +kernel, by decide +kernel⟩
abbrev slaw_sets_asked : Stmt := topS 26
theorem sclaw_sets_asked : FnScope ["way", "one", "other", "n"] ["way", "one", "other", "n"] (defScope slaw_sets_asked) := ⟨rfl, rfl, rfl, by decide +kernel, rfl, by decide +kernel, by decide +kernel⟩
abbrev sstretch : Stmt := topS 20
theorem scstretch : FnScope ["numbers", "n", "seen", "total", "k"] ["numbers", "n"] (defScope sstretch) := ⟨rfl, rfl, rfl, by decide +kernel, rfl, by decide +kernel, by decide +kernel⟩
abbrev swider : Stmt := topS 13
theorem scwider : FnScope ["rows", "number", "n", "made", "count", "rest", "row"] ["rows", "number", "n"] (defScope swider) := ⟨rfl, rfl, rfl, by decide +kernel, rfl, by decide +kernel, by decide +kernel⟩
abbrev slayers : Stmt := topS 14
theorem sclayers : FnScope ["numbers", "n", "found", "number"] ["numbers", "n"] (defScope slayers) := ⟨rfl, rfl, rfl, by decide +kernel, rfl, by decide +kernel, by decide +kernel⟩
abbrev schoose : Stmt := topS 15
theorem scchoose : FnScope ["numbers", "count", "wanted", "n", "found", "rest", "places", "k"] ["numbers", "count", "wanted", "n"] (defScope schoose) := ⟨rfl, rfl, rfl, by decide +kernel, rfl, by decide +kernel, by decide +kernel⟩
abbrev stable : Stmt := topS 16
theorem sctable : FnScope ["numbers", "n", "row"] ["numbers", "n"] (defScope stable) := ⟨rfl, rfl, rfl, by decide +kernel, rfl, by decide +kernel, by decide +kernel⟩
abbrev sbarren : Stmt := topS 17
theorem scbarren : FnScope ["n", "k"] ["n"] (defScope sbarren) := ⟨rfl, rfl, rfl, by decide +kernel, rfl, by decide +kernel, by decide +kernel⟩
abbrev sgroups : Stmt := topS 18
theorem scgroups : FnScope ["numbers", "n", "left", "found", "going", "told", "k", "place"] ["numbers", "n"] (defScope sgroups) := ⟨rfl, rfl, rfl, by decide +kernel, rfl, by decide +kernel, by decide +kernel⟩
abbrev slaw_lists_asked : Stmt := topS 27
theorem sclaw_lists_asked : FnScope ["way", "one", "count", "n"] ["way", "one", "count", "n"] (defScope slaw_lists_asked) := ⟨rfl, rfl, rfl, by decide +kernel, rfl, by decide +kernel, by decide +kernel⟩
abbrev slaw_marks : Stmt := topS 28
theorem sclaw_marks : FnScope ["way", "one", "other", "count", "n", "marks", "e"] ["way", "one", "other", "count", "n"] (defScope slaw_marks) := ⟨rfl, rfl, rfl, by decide +kernel, rfl, by decide +kernel, by decide +kernel⟩
abbrev slaw : Stmt := topS 29
theorem sclaw : FnScope ["script", "one", "other", "count", "far", "way", "n"] ["script"] (defScope slaw) := ⟨rfl, rfl, rfl, by decide +kernel, rfl, by decide +kernel, by decide +kernel⟩
section
variable {P : Program} {w : World} {K : PySem.W.Frag} {mg : Str → Option Value} {base : Heap}
theorem oklaw_number_by (T : Top K mg "_law_number_by" slaw_number_by ["cell", "way"]) : Cal0 P w K mg base "_law_number_by" 1 ["cell", "way"] spNumBy := by
  obtain ⟨f, fd, F, hm, hb⟩ := T
  refine ⟨f, fd, F.ok sclaw_number_by (fun vs H Q E h => ?_) (fun cdv A outer s H vs Q E hr h => ?_), hm, F.kp, hb⟩
  · obtain ⟨c, way, rfl, _⟩ := h
    rfl
  · obtain ⟨c, way, rfl, q⟩ := h
    refine ⟨_, (pss_cons (ps_if (pt_cmpR op_eq (pv 1) pe_int (nomark _)) (pss_one (ps_ret (pe_op op_sub (pe_op op_mod (pv 0) pe_int) pe_int))) pss_nil)
      (pss_cons (ps_if (pt_cmpR op_eq (pv 1) pe_int (nomark _)) (pss_one (ps_ret (pe_op op_mod (pv 0) pe_int))) pss_nil)
      (pss_cons (ps_if (pt_cmpR op_eq (pv 1) pe_int (nomark _)) (pss_one (ps_ret (pe_op op_sub (pe_op op_mod (pv 0) (pe_op op_add (pe_op op_mul pe_int (pe_op op_pow pe_int pe_int)) pe_int)) (pe_op op_pow pe_int pe_int)))) pss_nil)
      (pss_one (ps_ret (pe_ix (k_ixL K) (pe_lst (pa_cons (pe_op op_pow pe_int pe_int) (pa_cons (pe_un un_neg (pe_op op_pow pe_int pe_int)) (pa_cons (pe_op op_sub (pe_op op_pow pe_int pe_int) (pe_op op_mod (pe_op op_fdivP (pv 0) pe_int) pe_int)) pa_nil)))) (pe_op op_mod (pv 0) pe_int) (fun _ _ => rfl))))))), ?_⟩
    have p12 : ∀ {σ : L2.St} {H : Hp}, Ev (tOp (rI CPow fun i j => .int (i ^ j.toNat)) (tC (.int 10)) (tC (.int 12))) σ H (.int 1000000000000) := ev_int (ev_pow ev_c ev_c ⟨by decide, by decide, by decide⟩) (by decide)
    refine q_when (et_eq (ev_var rfl) ev_c) (fun hb H1 e1 => ?_) (fun h1 H1 e1 => ?_)
    · have e := of_decide_eq_true hb
      refine s_ret (ev_sub (ev_mod (ev_var rfl) ev_c (by decide)) ev_c) fun H2 e2 => ?_
      have g := q.go (e1.trans e2)
      unfold numberBy at g
      rw [if_pos e] at g
      exact g
    have n1 := of_decide_eq_false h1
    refine q_when (et_eq (ev_var rfl) ev_c) (fun hb H2 e2 => ?_) (fun h2 H2 e2 => ?_)
    · have e := of_decide_eq_true hb
      refine s_ret (ev_mod (ev_var rfl) ev_c (by decide)) fun H3 e3 => ?_
      have g := q.go ((e1.trans e2).trans e3)
      unfold numberBy at g
      rw [if_neg n1, if_pos e] at g
      exact g
    have n2 := of_decide_eq_false h2
    refine q_when (et_eq (ev_var rfl) ev_c) (fun hb H3 e3 => ?_) (fun h3 H3 e3 => ?_)
    · have e := of_decide_eq_true hb
      refine s_ret (ev_sub (ev_mod (ev_var rfl) (ev_add (ev_mul ev_c p12 (.inl (by decide))) ev_c) (by decide)) p12) fun H4 e4 => ?_
      have g := q.go (((e1.trans e2).trans e3).trans e4)
      unfold numberBy at g
      rw [if_neg n1, if_neg n2, if_pos e] at g
      exact g
    have n3 := of_decide_eq_false h3
    refine s_ret (ev_itemNL (el_lst (ea_cons p12 (ea_cons (ev_negI p12) (ea_cons (ev_sub p12 (ev_mod (ev_div (ev_var rfl) ev_c (by decide) (by decide)) ev_c (by decide))) ea_nil))) (by show (3 : Nat) ≤ 100000; decide)) (ev_mod (ev_var rfl) ev_c (by decide)) (v := .int (numberBy c way)) ?_) fun H4 e4 => q.go (((e1.trans e2).trans e3).trans e4)
    unfold numberBy
    rw [if_neg n1, if_neg n2, if_neg n3]
    have h0 : c % 3 = 0 ∨ c % 3 = 1 ∨ c % 3 = 2 := by omega
    rcases h0 with e | e | e
    · rw [e, if_pos rfl]
      exact atI_nat (j := 0) rfl
    · rw [e, if_neg (by decide), if_pos rfl]
      exact atI_nat (j := 1) rfl
    · rw [e, if_neg (by decide), if_neg (by decide)]
      exact atI_nat (j := 2) rfl
theorem oklaw_cell_at (T : Top K mg "_law_cell_at" slaw_cell_at ["script", "k"]) (nb : NB mg) : Cal0 P w K mg base "_law_cell_at" 1 ["script", "k"] (spCell K) := by
  obtain ⟨f, fd, F, hm, hb⟩ := T
  refine ⟨f, fd, F.ok sclaw_cell_at (fun vs H Q E h => ?_) (fun cdv A outer s H vs Q E hr h => ?_), hm, F.kp, hb⟩
  · obtain ⟨a, cs, k, rfl, _⟩ := h
    rfl
  · obtain ⟨a, cs, k, rfl, hS, h0, q⟩ := h
    refine ⟨_, (pss_cons (ps_if (pt_cmpR op_lt (pv 1) (pe_callB (k_len K) (by rfl) nb.len (by decide +kernel) (pa_cons (pv 0) pa_nil)) (nomark _)) (pss_one (ps_ret (pe_ix (k_ixL K) (pv 0) (pv 1) (fun _ _ => rfl)))) pss_nil)
      (pss_one (ps_ret pe_int))), ?_⟩
    refine q_when (et_lt (ev_var rfl) (ev_lenL (ev_var rfl) hS)) (fun hb H1 e1 => ?_) (fun hb H1 e1 => ?_)
    · have hlt := of_decide_eq_true hb
      rw [List.length_map] at hlt
      exact s_ret (ev_itemL (ev_var rfl) (ev_var rfl) (ex_l e1 hS) (atI_map h0 hlt)) fun H2 e2 => q.go (e1.trans e2)
    · have hge := of_decide_eq_false hb
      rw [List.length_map] at hge
      have e : cell cs k = 0 := by
        unfold cell
        rw [List.getD_eq_getElem?_getD, List.getElem?_eq_none (by omega)]
        rfl
      rw [e] at q
      exact s_ret ev_c fun H2 e2 => q.go (e1.trans e2)
theorem oklaw_numbers (T : Top K mg "_law_numbers" slaw_numbers ["script", "first", "count", "way"]) (nb : NB mg) (claw_cell_at : Cal0 P w K mg base "_law_cell_at" 1 ["script", "k"] (spCell K)) (claw_number_by : Cal0 P w K mg base "_law_number_by" 1 ["cell", "way"] spNumBy) :
    Cal0 P w K mg base "_law_numbers" 2 ["script", "first", "count", "way"] (spNums K) := by
  obtain ⟨f, fd, F, hm, hb⟩ := T
  refine ⟨f, fd, F.ok sclaw_numbers (fun vs H Q E h => ?_) (fun cdv A outer s H vs Q E hr h => ?_), hm, F.kp, hb⟩
  · obtain ⟨a, cs, first, count, way, rfl, _⟩ := h
    rfl
  · obtain ⟨a, cs, first, count, way, rfl, hS, hf, hc, q⟩ := h
    refine ⟨_, (pss_cons (ps_set (i := 4) sclaw_numbers.nd rfl (Or.inl rfl) (pe_lst pa_nil))
      (pss_cons (ps_for PassesOwn.never rfl (pi_range1 (by rfl) nb.range (pa_cons (pv 2) pa_nil)) (pg_name (i := 5) sclaw_numbers.nd rfl (Or.inl rfl)) (pss_cons (ps_set (i := 6) sclaw_numbers.nd rfl (Or.inl rfl) (pv 3))
      (pss_cons (ps_if (pt_cmpR op_gt (pv 3) pe_int (nomark _)) (pss_one (ps_set (i := 6) sclaw_numbers.nd rfl (Or.inl rfl) (pe_op op_mod (pe_op op_add (pv 3) (pe_op op_fdivP (pv 5) pe_int)) pe_int))) pss_nil)
      (pss_one (ps_expr (pe_bm PySem.F.plainAttrs_list PySem.F.slot_list_append PySem.F.type_list_append mt_append (pv 4) (pa_cons (pe_cal claw_number_by (hr.mono (by decide)) pass0 (pa_cons (pe_cal claw_cell_at (hr.mono (by decide)) pass0 (pa_cons (pv 0) (pa_cons (pe_op op_add (pv 1) (pv 5)) pa_nil))) (pa_cons (pv 6) pa_nil))) pa_nil)))))))
      (pss_one (ps_ret (pv 4))))), ?_⟩
    refine q_asgL (el_lst ea_nil (by decide)) fun p H1 hp e1 hl => ?_
    refine q_forR1 (ea_cons (ev_var rfl) ea_nil) ⟨by omega, by omega⟩ (fun i σ' H' => ∃ y5 y6, σ' = [some (.ref a), some (.int first), some (.int (count : Int)), some (.int way), some (.ref p), y5, y6] ∧ Ex H H' ∧ H' p = some (.lst ((drawn cs first i way).map V.int)))
      (fun H2 e2 => ⟨none, none, rfl, e1.trans e2, e2 p _ hl⟩) ?_ ?_
    · rintro i σ' H' hi ⟨y5, y6, rfl, e, hl'⟩
      refine q_asg (ev_var rfl) fun H2 e2 => ?_
      have hkind : ∀ {H3 : Hp}, Ex H2 H3 → ∀ (D : Ends), D.nx [some (.ref a), some (.int first), some (.int (count : Int)), some (.int way), some (.ref p), some (.int (i : Int)), some (.int (kindAt way i))] H3 → True := fun _ _ _ => trivial
      refine q_ifAsg (v := .int (kindAt way i)) (et_gt (ev_var rfl) ev_c) (fun hb => ?_) (fun hb => ?_) fun H3 e3 => ?_
      · have g := of_decide_eq_true hb
        refine ev_int (ev_mod (ev_add (ev_var rfl) (ev_div (ev_var rfl) ev_c (by decide) (by decide))) ev_c (by decide)) ?_
        unfold kindAt
        rw [if_pos g]
      · have g := of_decide_eq_false hb
        have e0 : kindAt way i = way := by
          unfold kindAt
          rw [if_neg g]
        rw [e0]
        rfl
      · refine s_app (l := p) (xs := (drawn cs first i way).map V.int) (e3 p _ (e2 p _ hl')) (ev_var rfl) (v := .int (numberBy (cell cs (first + (i : Int))) (kindAt way i)))
          (ev_call (ea_cons (ev_call (ea_cons (ev_var rfl) (ea_cons (ev_add (ev_var rfl) (ev_var rfl)) ea_nil)) (spv_cell (ex_l ((e.trans e2).trans e3) hS) (by omega))) (ea_cons (ev_var rfl) ea_nil)) spv_numBy)
          (by rw [List.length_map, drawn_len]; omega) fun H4 e4 => ?_
        refine ⟨_, _, rfl, Ex.mut (((e.trans e2).trans e3).trans e4) hp, ?_⟩
        rw [upd_same]
        unfold drawn
        rw [List.range_succ, List.map_append, List.map_append]
        rfl
    · rintro σ' H' ⟨y5, y6, rfl, e, hl'⟩
      rw [Int.toNat_natCast] at hl'
      exact s_ret (ev_var rfl) fun H2 e2 => q p H2 hp (e.trans e2) (e2 p _ hl')
def spBad : Sp := fun vs H Q _ => ∃ c : Int, vs = [.int c] ∧ ∀ r : Int, ¬ goodN r → RetV (.int r) H Q
theorem oklaw_bad_round (T : Top K mg "_law_bad_round" slaw_bad_round ["cell"]) : Cal0 P w K mg base "_law_bad_round" 1 ["cell"] spBad := by
  obtain ⟨f, fd, F, hm, hb⟩ := T
  refine ⟨f, fd, F.ok sclaw_bad_round (fun vs H Q E h => ?_) (fun cdv A outer s H vs Q E hr h => ?_), hm, F.kp, hb⟩
  · obtain ⟨c, rfl, _⟩ := h
    rfl
  · obtain ⟨c, rfl, q⟩ := h
    refine ⟨_, (pss_one (ps_ret (pe_ix (k_ixL K) (pe_lst (pa_cons pe_int (pa_cons pe_int (pa_cons (pe_un un_neg pe_int) (pa_cons (pe_op op_add pe_int (pe_op op_mod (pe_op op_fdivP (pv 0) pe_int) pe_int)) (pa_cons (pe_op op_sub (pe_un un_neg pe_int) (pe_op op_mod (pe_op op_fdivP (pv 0) pe_int) pe_int)) pa_nil)))))) (pe_op op_mod (pv 0) pe_int) (fun _ _ => rfl)))), ?_⟩
    have m0 := Int.emod_nonneg c (show (5 : Int) ≠ 0 by decide)
    have m1 := Int.emod_lt_of_pos c (show (0 : Int) < 5 by decide)
    have e0 := Int.emod_nonneg (c / 5) (show (1000 : Int) ≠ 0 by decide)
    have key : ∀ (r : Int), ¬ goodN r → atI ([0, 25, -1, 25 + c / 5 % 1000, -1 - c / 5 % 1000].map V.int) (c % 5) = some (.int r) → tRet (tOp (rIxL K) (tLst (tCons (tC (.int 0)) (tCons (tC (.int 25)) (tCons (tUn (rU fun i => .int (-i)) (tC (.int 1))) (tCons (tOp (rI0 fun i j => .int (i + j)) (tC (.int 25)) (tOp (rI (fun _ j => 0 < j) fun i j => .int (i % j)) (tOp (rI CDiv fun i j => .int (i / j)) (tVar 0) (tC (.int 5))) (tC (.int 1000))))
        (tCons (tOp (rI0 fun i j => .int (i - j)) (tUn (rU fun i => .int (-i)) (tC (.int 1))) (tOp (rI (fun _ j => 0 < j) fun i j => .int (i % j)) (tOp (rI CDiv fun i j => .int (i / j)) (tVar 0) (tC (.int 5))) (tC (.int 1000)))) tNil)))))) (tOp (rI (fun _ j => 0 < j) fun i j => .int (i % j)) (tVar 0) (tC (.int 5)))) { nx := fun _ H' => Q .non H', rt := Q } [some (.int c)] H := fun r hr hi =>
      s_ret (ev_itemNL (xs := [0, 25, -1, 25 + c / 5 % 1000, -1 - c / 5 % 1000].map V.int) (el_lst (ea_cons ev_c (ea_cons ev_c (ea_cons (ev_negI ev_c) (ea_cons (ev_add ev_c (ev_mod (ev_div (ev_var rfl) ev_c (by decide) (by decide)) ev_c (by decide))) (ea_cons (ev_sub (ev_negI ev_c) (ev_mod (ev_div (ev_var rfl) ev_c (by decide) (by decide)) ev_c (by decide))) ea_nil))))) (by show (5 : Nat) ≤ 100000; decide)) (ev_mod (ev_var rfl) ev_c (by decide)) hi) fun H1 e1 => q r hr H1 e1
    obtain h | h | h | h | h : c % 5 = 0 ∨ c % 5 = 1 ∨ c % 5 = 2 ∨ c % 5 = 3 ∨ c % 5 = 4 := by omega
    · exact key 0 (by unfold goodN; omega) (by rw [h]; exact atI_nat (j := 0) rfl)
    · exact key 25 (by unfold goodN; omega) (by rw [h]; exact atI_nat (j := 1) rfl)
    · exact key (-1) (by unfold goodN; omega) (by rw [h]; exact atI_nat (j := 2) rfl)
    · exact key (25 + c / 5 % 1000) (by unfold goodN; omega) (by rw [h]; exact atI_nat (j := 3) rfl)
    · exact key (-1 - c / 5 % 1000) (by unfold goodN; omega) (by rw [h]; exact atI_nat (j := 4) rfl)
theorem oksee_round {C : Addr} {u : Value} (T : Top K mg "see_round" ssee_round ["n"]) (cGREATEST : Cst mg "GREATEST" (.int 24) u) (xBadRound : Exc K mg "BadRound" C) : CalE P w K mg base "see_round" 1 ["n"] (spSee C) := by
  obtain ⟨f, fd, F, hm, hb⟩ := T
  refine ⟨f, fd, F.okX scsee_round (fun vs H Q E h => ?_) (fun cdv A outer s H vs Q E hr h => ?_), hm, F.kp, hb⟩
  · obtain ⟨n, rfl, _⟩ := h
    rfl
  · obtain ⟨n, rfl, q, qE⟩ := h
    refine ⟨_, (pss_one (ps_if (PW.pt (pw_or (pt_cmpR op_lt (pv 0) pe_int (nomark _)) (pw_or1 (pt_cmpR op_gt (pv 0) (pe_glob (by rfl) cGREATEST.gm cGREATEST.rel) (nomark _))))) (pss_one (ps_raise rfl (takes_of rfl rfl rfl rfl) (pmk_own PySem.F.excBase_ValueError xBadRound.x xBadRound.gC xBadRound.k (raises_own xBadRound.b xBadRound.t) rfl))) pss_nil)), ?_⟩
    refine s_when (et_or (et_lt (ev_var rfl) ev_c) fun _ => et_gt (ev_var rfl) ev_c) (fun hb H1 e1 => ?_) (fun hb H1 e1 => ?_)
    · refine qE (fun g => ?_) H1 e1
      unfold goodN at g
      rw [Bool.or_eq_true, decide_eq_true_eq, decide_eq_true_eq] at hb
      omega
    · refine q ?_ H1 e1
      rw [Bool.or_eq_false_iff, decide_eq_false_iff_not, decide_eq_false_iff_not] at hb
      unfold goodN
      omega
theorem okrests {C : Addr} (T : Top K mg "rests" srests ["numbers", "n"]) (nb : NB mg) (csee_round : CalE P w K mg base "see_round" 1 ["n"] (spSee C)) : CalE P w K mg base "rests" 2 ["numbers", "n"] (spRests K C) := by
  obtain ⟨f, fd, F, hm, hb⟩ := T
  refine ⟨f, fd, F.okX scrests (fun vs H Q E h => ?_) (fun cdv A outer s H vs Q E hr h => ?_), hm, F.kp, hb⟩
  · obtain ⟨a, xs, n, rfl, _⟩ := h
    rfl
  · obtain ⟨a, xs, n, rfl, hS, hl, q, qE⟩ := h
    refine ⟨_, (pss_cons (ps_expr (pe_cal csee_round (hr.mono (by decide)) (passes_call (takes_of rfl rfl rfl rfl) (fun _ _ _ _ h => h)) (pa_cons (pv 1) pa_nil)))
      (PSs.nox (pss_one (ps_ret (pe_callB (k_sortedSet w) (by rfl) nb.sorted (by decide +kernel) (pa_cons (pe_callTy (k_set K w) (by rfl) nb.set (by decide +kernel) (pa_cons (pe_lc (own := [("number", 2)]) (g := gName 2) (tt := tYes) rfl scrests.nd (k_list K (pv 0)) (blkOk_by (by kernel_rfl)) (fun _ _ _ _ _ => pg_name (i := 2) scrests.nd rfl (Or.inl rfl)) (fun _ _ _ _ _ => pts_nil) (fun _ _ _ _ _ => (pe_op op_mod (pv 2) (pv 1)))) pa_nil)) pa_nil)))))), ?_⟩
    refine q_see (K := K) (ev_var rfl) (fun hn H1 e1 => ?_) (fun hn => qE hn)
    have hn0 : 0 < n := by have := hn.1; omega
    have hmod : ∀ k, k ∈ rset n.toNat xs ↔ k ∈ xs.map (· % n) := fun k => by
      have en : ((n.toNat : Nat) : Int) = n := by omega
      rw [mem_rset, List.mem_map, en]
      constructor
      · rintro ⟨h0, h1, x, hx, e⟩
        refine ⟨x, hx, ?_⟩
        have := Int.emod_emod_of_dvd x (Int.dvd_refl n)
        rw [← Int.emod_eq_of_lt h0 h1]
        exact Int.emod_eq_emod_iff_emod_sub_eq_zero.mpr e
      · rintro ⟨x, hx, rfl⟩
        refine ⟨Int.emod_nonneg _ (by omega), Int.emod_lt_of_pos _ hn0, x, hx, ?_⟩
        exact Int.emod_eq_emod_iff_emod_sub_eq_zero.mp (Int.emod_emod_of_dvd x (Int.dvd_refl n)).symm
    have hgiv : given (xs.map V.int).length (fun _ => true) (fun i => V.int (xs.getD i 0 % n)) = (xs.map (· % n)).map V.int := by
      rw [List.length_map]
      exact given_all xs (· % n)
    refine s_retL (SrSet.el_sortedSet (ns := xs.map (· % n)) (b := 24) ?_ (by rw [List.length_map]; exact hl) (by decide) (fun k hk => ?_) (rset_rises n.toNat xs) hmod) ?_
    · rw [← hgiv]
      refine el_lcL _ _ (ev_var rfl) (ex_l e1 hS) (by rw [List.length_map]; omega) (fun x => rfl) (fun i x H3 e3 hx => et_yes) (fun i x H3 e3 hx _ => ?_)
      obtain ⟨z, hz, rfl⟩ := int_at hx
      have ez : xs.getD i 0 = z := by
        rw [List.getD_eq_getElem?_getD, hz]
        rfl
      rw [ez]
      exact ev_mod (ev_var rfl) (ev_var rfl) hn0
    · obtain ⟨x, hx, rfl⟩ := List.mem_map.mp hk
      exact ⟨Int.emod_nonneg _ (by omega), Int.lt_of_lt_of_le (Int.emod_lt_of_pos _ hn0) hn.2⟩
    · exact fun p H2 hp e2 h2 => q hn p H2 (fresh_back e1 hp) (e1.trans e2) h2
theorem oksums {C : Addr} (T : Top K mg "sums" ssums ["one", "other", "n"]) (crests : CalE P w K mg base "rests" 2 ["numbers", "n"] (spRests K C)) : CalE P w K mg base "sums" 3 ["one", "other", "n"] (spSums K C) := by
  obtain ⟨f, fd, F, hm, hb⟩ := T
  refine ⟨f, fd, F.okX scsums (fun vs H Q E h => ?_) (fun cdv A outer s H vs Q E hr h => ?_), hm, F.kp, hb⟩
  · obtain ⟨a, b, xs, ys, n, rfl, _⟩ := h
    rfl
  · obtain ⟨a, b, xs, ys, n, rfl, hS, hT, hl, hl2, q, qE⟩ := h
    refine ⟨_, (pss_cons (ps_set (i := 3) scsums.nd rfl (Or.inl rfl) (pe_cal crests (hr.mono (by decide)) (passes_call (takes_of rfl rfl rfl rfl) (fun _ _ _ _ h => h)) (pa_cons (pv 0) (pa_cons (pv 2) pa_nil))))
      (PSs.nox (pss_cons (ps_set (i := 4) scsums.nd rfl (Or.inl rfl) (pe_cal crests (hr.mono (by decide)) passL (pa_cons (pv 1) (pa_cons (pv 2) pa_nil))))
      (pss_cons (ps_set (i := 5) scsums.nd rfl (Or.inl rfl) (pe_lst pa_nil))
      (pss_cons (ps_for PassesOwn.never rfl (k_list K (pv 3)) (pg_name (i := 6) scsums.nd rfl (Or.inl rfl)) (pss_one (ps_for PassesOwn.never rfl (k_list K (pv 4)) (pg_name (i := 7) scsums.nd rfl (Or.inl rfl)) (pss_one (ps_expr (pe_bm PySem.F.plainAttrs_list PySem.F.slot_list_append PySem.F.type_list_append mt_append (pv 5) (pa_cons (pe_op op_add (pv 6) (pv 7)) pa_nil)))))))
      (pss_one (ps_ret (pe_cal crests (hr.mono (by decide)) passL (pa_cons (pv 5) (pa_cons (pv 2) pa_nil)))))))))), ?_⟩
    refine q_rests (K := K) (ev_var rfl) (ev_var rfl) hS hl (fun hn p3 H1 n3 e1 h3 => ?_) (fun hn => qE hn)
    have hA := rset_len n.toNat xs
    have hB := rset_len n.toNat ys
    have hP := pairs_le (n := n.toNat) (by have := hn.2; omega) xs ys
    have h24 : n.toNat ≤ 24 := by have := hn.2; omega
    refine q_asgL (el_call (ea_cons (ev_var rfl) (ea_cons (ev_var rfl) ea_nil)) (spl_rests (ex_l e1 hT) hl2 hn)) fun p4 H2 n4 e2 h4 => ?_
    refine q_asgL (el_lst ea_nil (by decide)) fun p5 H3 n5 e3 h5 => ?_
    have E3 := (e1.trans e2).trans e3
    have hfin : ∀ (i : Nat) (A B : List Int) (x : Int), A[i]? = some x → ((A.take (i + 1)).flatMap fun a => B.map fun b => a + b) = ((A.take i).flatMap fun a => B.map fun b => a + b) ++ B.map fun b => x + b := fun i A B x hx => by
      rw [List.take_add_one, hx, List.flatMap_append]
      show _ ++ (List.flatMap _ [x]) = _
      rw [List.flatMap_cons, List.flatMap_nil, List.append_nil]
    generalize hAA : rset n.toNat xs = AA at h3 hA hP
    generalize hBB : rset n.toNat ys = BB at h4 hB hP
    refine q_forLn (ev_var rfl) (sq_of (e3 _ _ (e2 _ _ h3))) (fun i σ' H' => ∃ y6 y7, σ' = [some (.ref a), some (.ref b), some (.int n), some (.ref p3), some (.ref p4), some (.ref p5), y6, y7] ∧ Ex H2 H' ∧ H' p5 = some (.lst ((pairs (AA.take i) BB).map V.int)))
      (fun H4 e4 => ⟨none, none, rfl, e3.trans e4, e4 _ _ h5⟩) (fun i σ' H' _ h => by
        obtain ⟨_, _, _, e, _⟩ := h
        exact sq_of (e _ _ (e2 _ _ h3))) ?_ ?_
    · rintro i x σ' H' hx ⟨y6, y7, rfl, e, h5'⟩
      obtain ⟨z, hz, rfl⟩ := int_at hx
      have hil := (List.getElem?_eq_some_iff.mp hz).1
      refine s_forLn (ev_var rfl) (sq_of (e _ _ h4)) (fun j σ' H' => ∃ y7, σ' = [some (.ref a), some (.ref b), some (.int n), some (.ref p3), some (.ref p4), some (.ref p5), some (.int z), y7] ∧ Ex H2 H' ∧ H' p5 = some (.lst ((pairs (AA.take i) BB ++ (BB.take j).map fun b => z + b).map V.int)))
        (fun H4 e4 => ⟨y7, rfl, e.trans e4, by rw [List.take_zero, List.map_nil, List.append_nil]; exact e4 _ _ h5'⟩) (fun i σ' H' _ h => by
          obtain ⟨_, _, e, _⟩ := h
          exact sq_of (e _ _ h4)) ?_ ?_
      · rintro j x σ' H' hx ⟨y7, rfl, e, h5'⟩
        obtain ⟨z2, hz2, rfl⟩ := int_at hx
        refine s_app h5' (ev_var rfl) (ev_add (ev_var rfl) (ev_var rfl)) ?_ fun H4 e4 => ?_
        · rw [List.length_map, List.length_append, pairs_len, List.length_map, List.length_take, List.length_take]
          have : min i AA.length * BB.length ≤ 24 * 24 := Nat.mul_le_mul (by omega) (by omega)
          omega
        · refine ⟨_, rfl, Ex.mut (e.trans e4) n5, ?_⟩
          rw [upd_same, List.take_add_one, hz2, List.map_append (l₁ := BB.take j), ← List.append_assoc, List.map_append (f := V.int) (l₁ := pairs (AA.take i) BB ++ _)]
          rfl
      · rintro σ' H' ⟨y7, rfl, e, h5'⟩
        refine ⟨_, _, rfl, e, ?_⟩
        rw [List.length_map, List.take_length] at h5'
        unfold pairs
        rw [hfin i AA BB z hz]
        exact h5'
    · rintro σ' H' ⟨y6, y7, rfl, e, h5'⟩
      rw [List.length_map, List.take_length] at h5'
      refine s_retL (el_call (ea_cons (ev_var rfl) (ea_cons (ev_var rfl) ea_nil)) (spl_rests (sq_of h5') (by omega) hn)) fun p H4 hp e4 h4' => ?_
      have EE := (e1.trans e2).trans e
      refine q hn p H4 (fresh_back EE hp) (EE.trans e4) ?_
      unfold ssum
      rw [hAA, hBB]
      exact h4'
theorem okshifted {C : Addr} (T : Top K mg "shifted" sshifted ["numbers", "by", "n"]) (csee_round : CalE P w K mg base "see_round" 1 ["n"] (spSee C)) (crests : CalE P w K mg base "rests" 2 ["numbers", "n"] (spRests K C)) : CalE P w K mg base "shifted" 3 ["numbers", "by", "n"] (spShifted K C) := by
  obtain ⟨f, fd, F, hm, hb⟩ := T
  refine ⟨f, fd, F.okX scshifted (fun vs H Q E h => ?_) (fun cdv A outer s H vs Q E hr h => ?_), hm, F.kp, hb⟩
  · obtain ⟨a, xs, b, n, rfl, _⟩ := h
    rfl
  · obtain ⟨a, xs, b, n, rfl, hS, hl, q, qE⟩ := h
    refine ⟨_, (pss_cons (ps_expr (pe_cal csee_round (hr.mono (by decide)) (passes_call (takes_of rfl rfl rfl rfl) (fun _ _ _ _ h => h)) (pa_cons (pv 2) pa_nil)))
      (PSs.nox (pss_one (ps_ret (pe_cal crests (hr.mono (by decide)) passL (pa_cons (pe_lc (own := [("number", 3)]) (g := gName 3) (tt := tYes) rfl scshifted.nd (k_list K (pv 0)) (blkOk_by (by kernel_rfl)) (fun _ _ _ _ _ => pg_name (i := 3) scshifted.nd rfl (Or.inl rfl)) (fun _ _ _ _ _ => pts_nil) (fun _ _ _ _ _ => (pe_op op_add (pe_op op_mod (pv 3) (pv 2)) (pv 1)))) (pa_cons (pv 2) pa_nil))))))), ?_⟩
    refine q_see (K := K) (ev_var rfl) (fun hn H1 e1 => ?_) (fun hn => qE hn)
    have hn0 : 0 < n := by have := hn.1; omega
    have en : ((n.toNat : Nat) : Int) = n := by omega
    have hgiv : given (xs.map V.int).length (fun _ => true) (fun i => V.int (xs.getD i 0 % n + b)) = (xs.map fun x => x % n + b).map V.int := by
      rw [List.length_map]
      exact given_all xs fun x => x % n + b
    refine s_retL (el_callL (xs := (xs.map fun x => x % n + b).map V.int) ?_ (ev_var rfl) fun p H2 e2 h2 => spl_rests (sq_of h2) (by rw [List.length_map]; exact hl) hn) fun p H2 hp e2 h2 => ?_
    · rw [← hgiv]
      refine el_lcL _ _ (ev_var rfl) (ex_l e1 hS) (by rw [List.length_map]; omega) (fun x => rfl) (fun i x H3 e3 hx => et_yes) (fun i x H3 e3 hx _ => ?_)
      obtain ⟨z, hz, rfl⟩ := int_at hx
      have ez : xs.getD i 0 = z := by
        rw [List.getD_eq_getElem?_getD, hz]
        rfl
      rw [ez]
      exact ev_add (ev_mod (ev_var rfl) (ev_var rfl) hn0) (ev_var rfl)
    · refine q hn p H2 (fresh_back e1 hp) (e1.trans e2) ?_
      have g := shift_mod n.toNat (by omega) xs b
      rw [en] at g
      rw [← g]
      exact h2
theorem okstays {C : Addr} (T : Top K mg "stays" sstays ["numbers", "n"]) (nb : NB mg) (crests : CalE P w K mg base "rests" 2 ["numbers", "n"] (spRests K C)) (cshifted : CalE P w K mg base "shifted" 3 ["numbers", "by", "n"] (spShifted K C)) : CalE P w K mg base "stays" 4 ["numbers", "n"] (spStays K C) := by
  obtain ⟨f, fd, F, hm, hb⟩ := T
  refine ⟨f, fd, F.okX scstays (fun vs H Q E h => ?_) (fun cdv A outer s H vs Q E hr h => ?_), hm, F.kp, hb⟩
  · obtain ⟨a, xs, n, rfl, _⟩ := h
    rfl
  · obtain ⟨a, xs, n, rfl, hS, hl, q, qE⟩ := h
    refine ⟨_, (pss_cons (ps_set (i := 2) scstays.nd rfl (Or.inr rfl) (pe_cal crests (hr.mono (by decide)) (passes_call (takes_of rfl rfl rfl rfl) (fun _ _ _ _ h => h)) (pa_cons (pv 0) (pa_cons (pv 1) pa_nil))))
      (PSs.nox (pss_one (ps_ret (pe_lc (own := [("by", 3)]) (g := gName 3) rfl scstays.nd (pi_range1 (by rfl) nb.range (pa_cons (pv 1) pa_nil)) (blkOk_by (by kernel_rfl)) (fun _ _ _ _ _ => pg_name (i := 3) scstays.nd rfl (Or.inl rfl)) (fun _ _ _ _ _ => (pts_one (pt_cmpR (k_eqD K hr.units) (pe_cal cshifted (hr.mono (by decide)) passL (pa_cons (pv 2) (pa_cons (pv 3) (pa_cons (pv 1) pa_nil)))) (pv 2) (nomark _)))) (fun _ _ _ _ _ => (pv 3))))))), ?_⟩
    refine q_rests (K := K) (ev_var rfl) (ev_var rfl) hS hl (fun hn p H1 hp e1 h1 => ?_) (fun hn => qE hn)
    have hA := rset_len n.toNat xs
    have h24 : n.toNat ≤ 24 := by have := hn.2; omega
    have en : ((n.toNat : Nat) : Int) = n := by have := hn.1; omega
    have hgiv : given n.toNat (fun i => decide (sshift n.toNat (rset n.toNat xs) (i : Int) = rset n.toNat xs)) (fun i => V.int (i : Int)) = (stayL n.toNat xs).map V.int := by
      unfold given stayL
      rw [List.filter_map, List.map_map]
      rfl
    have q' := q hn
    rw [← hgiv] at q'
    refine s_retL (el_lcR1 _ _ (ea_cons (ev_var rfl) ea_nil) ⟨by have := hn.1; omega, by omega⟩ (fun x => rfl) (fun i H2 e2 hi => ?_) (fun i H2 e2 hi _ => ev_var rfl)) fun r H2 hr' e2 h2 => q' r H2 (fresh_back e1 hr') (e1.trans e2) h2
    have hp2 := e2 _ _ h1
    exact et_test (ev_opL1 (el_call (ea_cons (ev_var rfl) (ea_cons (ev_var rfl) (ea_cons (ev_var rfl) ea_nil))) (spl_shifted (sq_of hp2) (by omega) hn)) (fun _ _ => ev_var rfl) fun r H3 h3 e3 => rv_eqL (sq_of h3) (sq_of (e3 _ _ hp2)))
theorem okstep {C : Addr} (T : Top K mg "step" sstep ["numbers", "n"]) (nb : NB mg) (crests : CalE P w K mg base "rests" 2 ["numbers", "n"] (spRests K C)) (cshifted : CalE P w K mg base "shifted" 3 ["numbers", "by", "n"] (spShifted K C)) : CalE P w K mg base "step" 4 ["numbers", "n"] (spStep K C) := by
  obtain ⟨f, fd, F, hm, hb⟩ := T
  refine ⟨f, fd, F.okX scstep (fun vs H Q E h => ?_) (fun cdv A outer s H vs Q E hr h => ?_), hm, F.kp, hb⟩
  · obtain ⟨a, xs, n, rfl, _⟩ := h
    rfl
  · obtain ⟨a, xs, n, rfl, hS, hl, q, qE⟩ := h
    refine ⟨_, (pss_cons (ps_set (i := 2) scstep.nd rfl (Or.inl rfl) (pe_cal crests (hr.mono (by decide)) (passes_call (takes_of rfl rfl rfl rfl) (fun _ _ _ _ h => h)) (pa_cons (pv 0) (pa_cons (pv 1) pa_nil))))
      (PSs.nox (pss_cons (ps_for PassesOwn.never rfl (pi_range2 (by rfl) nb.range (pa_cons pe_int (pa_cons (pe_op op_add (pv 1) pe_int) pa_nil))) (pg_name (i := 3) scstep.nd rfl (Or.inl rfl)) (pss_one (ps_if (PW.pt (pw_and (pt_cmpR op_eq (pe_op op_mod (pv 1) (pv 3)) pe_int (nomark _)) (pw_and1 (pt_cmpR (k_eqD K hr.units) (pe_cal cshifted (hr.mono (by decide)) passL (pa_cons (pv 2) (pa_cons (pv 3) (pa_cons (pv 1) pa_nil)))) (pv 2) (nomark _))))) (pss_one (ps_ret (pv 3))) pss_nil)))
      (pss_one (ps_ret (pv 1)))))), ?_⟩
    refine q_rests (K := K) (ev_var rfl) (ev_var rfl) hS hl (fun hn p H1 hp e1 h1 => ?_) (fun hn => qE hn)
    have hA := rset_len n.toNat xs
    have h24 : n.toNat ≤ 24 := by have := hn.2; omega
    have hn0 : 0 < n := by have := hn.1; omega
    have en : ((n.toNat : Nat) : Int) = n := by omega
    have self : sshift n.toNat (rset n.toNat xs) n = rset n.toNat xs := by
      rw [stay_iff (by omega), en]
      exact In_per n xs
    refine q_forR2 (ea_cons ev_c (ea_cons (ev_add (ev_var rfl) ev_c) ea_nil)) ⟨by decide, by decide, by omega, by have := hn.2; omega⟩ (fun i σ' H' => ∃ y3, σ' = [some (.ref a), some (.int n), some (.ref p), y3] ∧ Ex H1 H' ∧ ∀ b : Int, 1 ≤ b → b < 1 + (i : Int) → n % b = 0 → sshift n.toNat (rset n.toNat xs) b ≠ rset n.toNat xs)
      (fun H2 e2 => ⟨none, rfl, e2, fun b h1 h2 => by omega⟩) ?_ ?_
    · rintro i σ' H' hi ⟨y3, rfl, e, hno⟩
      have hp2 := e _ _ h1
      refine s_when (b := decide (n % (1 + (i : Int)) = 0) && decide (sshift n.toNat (rset n.toNat xs) (1 + (i : Int)) = rset n.toNat xs)) (et_and (et_eq (ev_mod (ev_var rfl) (ev_var rfl) (by omega)) ev_c) fun _ =>
        et_test (ev_opL1 (el_call (ea_cons (ev_var rfl) (ea_cons (ev_var rfl) (ea_cons (ev_var rfl) ea_nil))) (spl_shifted (sq_of hp2) (by omega) hn)) (fun _ _ => ev_var rfl) fun r H3 h3 e3 => rv_eqL (sq_of h3) (sq_of (e3 _ _ hp2)))) (fun hb H2 e2 => ?_) (fun hb H2 e2 => ?_)
      · rw [Bool.and_eq_true, decide_eq_true_eq, decide_eq_true_eq] at hb
        exact s_ret (ev_var rfl) fun H3 e3 => q hn (1 + (i : Int)) ⟨by omega, by omega, hb.1, hb.2, hno⟩ H3 (((e1.trans e).trans e2).trans e3)
      · refine ⟨_, rfl, e.trans e2, fun b b1 b2 b3 b4 => ?_⟩
        by_cases c : b < 1 + (i : Int)
        · exact hno b b1 c b3 b4
        · have : b = 1 + (i : Int) := by omega
          subst this
          rw [b3, b4, decide_eq_true rfl, decide_eq_true rfl] at hb
          cases hb
    · rintro σ' H' ⟨y3, rfl, e, hno⟩
      exact absurd self (hno n (by omega) (by omega) (Int.emod_self))
def spSetsAsked (K : PySem.W.Frag) (C : Addr) : Sp := fun vs H Q E => ∃ (way : Int) (a b : Addr) (xs ys : List Int) (n : Int), vs = [.int way, .ref a, .ref b, .int n] ∧ SqL K H a (xs.map V.int) ∧ SqL K H b (ys.map V.int) ∧ xs.length ≤ 100 ∧ ys.length ≤ 100 ∧ 0 ≤ way ∧
  ((way ≤ 4 → goodN n) → RetV .non H Q) ∧ (way ≤ 4 → ¬ goodN n → ∀ H2, Ex H H2 → E (.ref C) none H2)
theorem oklaw_sets_asked {C : Addr} (T : Top K mg "_law_sets_asked" slaw_sets_asked ["way", "one", "other", "n"]) (crests : CalE P w K mg base "rests" 2 ["numbers", "n"] (spRests K C)) (csums : CalE P w K mg base "sums" 3 ["one", "other", "n"] (spSums K C))
    (cshifted : CalE P w K mg base "shifted" 3 ["numbers", "by", "n"] (spShifted K C)) (cstays : CalE P w K mg base "stays" 4 ["numbers", "n"] (spStays K C)) (cstep : CalE P w K mg base "step" 4 ["numbers", "n"] (spStep K C)) :
    CalE P w K mg base "_law_sets_asked" 5 ["way", "one", "other", "n"] (spSetsAsked K C) := by
  obtain ⟨f, fd, F, hm, hb⟩ := T
  refine ⟨f, fd, F.okX sclaw_sets_asked (fun vs H Q E h => ?_) (fun cdv A outer s H vs Q E hr h => ?_), hm, F.kp, hb⟩
  · obtain ⟨way, a, b, xs, ys, n, rfl, _⟩ := h
    rfl
  · obtain ⟨way, a, b, xs, ys, n, rfl, hS, hT, hl, hl2, h0, q, qE⟩ := h
    refine ⟨_, (pss_cons (ps_if (pt_cmpR op_eq (pv 0) pe_int (nomark _)) (pss_one (ps_expr (pe_cal crests (hr.mono (by decide)) (passes_call (takes_of rfl rfl rfl rfl) (fun _ _ _ _ h => h)) (pa_cons (pv 1) (pa_cons (pv 3) pa_nil))))) pss_nil)
      (pss_cons (ps_if (pt_cmpR op_eq (pv 0) pe_int (nomark _)) (pss_one (ps_expr (pe_cal csums (hr.mono (by decide)) (passes_call (takes_of rfl rfl rfl rfl) (fun _ _ _ _ h => h)) (pa_cons (pv 1) (pa_cons (pv 2) (pa_cons (pv 3) pa_nil)))))) pss_nil)
      (pss_cons (ps_if (pt_cmpR op_eq (pv 0) pe_int (nomark _)) (pss_one (ps_expr (pe_cal cshifted (hr.mono (by decide)) (passes_call (takes_of rfl rfl rfl rfl) (fun _ _ _ _ h => h)) (pa_cons (pv 1) (pa_cons pe_int (pa_cons (pv 3) pa_nil)))))) pss_nil)
      (pss_cons (ps_if (pt_cmpR op_eq (pv 0) pe_int (nomark _)) (pss_one (ps_expr (pe_cal cstays (hr.mono (by decide)) (passes_call (takes_of rfl rfl rfl rfl) (fun _ _ _ _ h => h)) (pa_cons (pv 1) (pa_cons (pv 3) pa_nil))))) pss_nil)
      (pss_one (ps_if (pt_cmpR op_eq (pv 0) pe_int (nomark _)) (pss_one (ps_expr (pe_cal cstep (hr.mono (by decide)) (passes_call (takes_of rfl rfl rfl rfl) (fun _ _ _ _ h => h)) (pa_cons (pv 1) (pa_cons (pv 3) pa_nil))))) pss_nil)))))), ?_⟩
    refine q_ask (vs := [.ref a, .int n]) (n := n) (C := C) (ev_var rfl) ev_c (fun H1 e1 => ea_cons (ev_var rfl) (ea_cons (ev_var rfl) ea_nil)) (fun H1 e1 _ H2 e2 Q E k kE => ⟨a, xs, n, rfl, ex_l (e1.trans e2) hS, by omega, fun hn p H3 _ e3 _ => k hn _ H3 e3, kE⟩) (fun h => qE (by omega)) fun g0 H1 e1 => ?_
    refine q_ask (vs := [.ref a, .ref b, .int n]) (n := n) (C := C) (ev_var rfl) ev_c (fun H2 e2 => ea_cons (ev_var rfl) (ea_cons (ev_var rfl) (ea_cons (ev_var rfl) ea_nil))) (fun H2 e2 _ H3 e3 Q E k kE => ⟨a, b, xs, ys, n, rfl, ex_l ((e1.trans e2).trans e3) hS, ex_l ((e1.trans e2).trans e3) hT, by omega, by omega, fun hn p H3 _ e3 _ => k hn _ H3 e3, kE⟩) (fun h hn H2 e2 => qE (by omega) hn H2 (e1.trans e2)) fun g1 H2 e2 => ?_
    have e2 := e1.trans e2
    refine q_ask (vs := [.ref a, .int 3, .int n]) (n := n) (C := C) (ev_var rfl) ev_c (fun H3 e3 => ea_cons (ev_var rfl) (ea_cons ev_c (ea_cons (ev_var rfl) ea_nil))) (fun H3 e3 _ H4 e4 Q E k kE => ⟨a, xs, 3, n, rfl, ex_l ((e2.trans e3).trans e4) hS, by omega, fun hn p H3 _ e3 _ => k hn _ H3 e3, kE⟩) (fun h hn H3 e3 => qE (by omega) hn H3 (e2.trans e3)) fun g2 H3 e3 => ?_
    have e3 := e2.trans e3
    refine q_ask (vs := [.ref a, .int n]) (n := n) (C := C) (ev_var rfl) ev_c (fun H4 e4 => ea_cons (ev_var rfl) (ea_cons (ev_var rfl) ea_nil)) (fun H4 e4 _ H5 e5 Q E k kE => ⟨a, xs, n, rfl, ex_l ((e3.trans e4).trans e5) hS, by omega, fun hn p H3 _ e3 _ => k hn _ H3 e3, kE⟩) (fun h hn H4 e4 => qE (by omega) hn H4 (e3.trans e4)) fun g3 H4 e4 => ?_
    have e4 := e3.trans e4
    refine s_ask (vs := [.ref a, .int n]) (n := n) (C := C) (ev_var rfl) ev_c (fun H5 e5 => ea_cons (ev_var rfl) (ea_cons (ev_var rfl) ea_nil)) (fun H5 e5 _ H6 e6 Q E k kE => ⟨a, xs, n, rfl, ex_l ((e4.trans e5).trans e6) hS, by omega, fun hn d _ H3 e3 => k hn _ H3 e3, kE⟩) (fun h hn H5 e5 => qE (by omega) hn H5 (e4.trans e5)) fun g4 H5 e5 => ?_
    refine q (fun h4 => ?_) H5 (e4.trans e5)
    obtain h | h | h | h | h : way = 0 ∨ way = 1 ∨ way = 2 ∨ way = 3 ∨ way = 4 := by omega
    · exact g0 h
    · exact g1 h
    · exact g2 h
    · exact g3 h
    · exact g4 h
theorem okstretch {C : Addr} (T : Top K mg "stretch" sstretch ["numbers", "n"]) (nb : NB mg) (csee_round : CalE P w K mg base "see_round" 1 ["n"] (spSee C)) : CalE P w K mg base "stretch" 2 ["numbers", "n"] (spStretch K C) := by
  obtain ⟨f, fd, F, hm, hb⟩ := T
  refine ⟨f, fd, F.okX scstretch (fun vs H Q E h => ?_) (fun cdv A outer s H vs Q E hr h => ?_), hm, F.kp, hb⟩
  · obtain ⟨a, xs, n, rfl, _⟩ := h
    rfl
  · obtain ⟨a, xs, n, rfl, hS, hl, q, qE⟩ := h
    refine ⟨_, (pss_cons (ps_expr (pe_cal csee_round (hr.mono (by decide)) (passes_call (takes_of rfl rfl rfl rfl) (fun _ _ _ _ h => h)) (pa_cons (pv 1) pa_nil)))
      (PSs.nox (pss_cons (ps_set (i := 2) scstretch.nd rfl (Or.inl rfl) (pe_disp (pps_cons pe_int pe_int pps_nil) (by rfl) (by rfl) (fun z => by cases z) (by decide)))
      (pss_cons (ps_set (i := 3) scstretch.nd rfl (Or.inl rfl) pe_int)
      (pss_cons (ps_for PassesOwn.never rfl (pi_range1 (by rfl) nb.range (pa_cons (pe_callB (k_len K) (by rfl) nb.len (by decide +kernel) (pa_cons (pv 0) pa_nil)) pa_nil)) (pg_name (i := 4) scstretch.nd rfl (Or.inl rfl)) (pss_cons (ps_set (i := 3) scstretch.nd rfl (Or.inl rfl) (pe_op op_mod (pe_op op_add (pv 3) (pe_ix (k_ixL K) (pv 0) (pv 4) (fun _ _ => rfl))) (pv 1)))
      (pss_cons (ps_if (pt_cmp (pc_din (hu_of hr) (pv 3) (pv 2))) (pss_one (ps_ret (pe_tup (pa_cons (pe_dget (hu_of hr) (pv 2) (pv 3) (fun _ _ => rfl)) (pa_cons (pe_op op_add (pv 4) pe_int) pa_nil))))) pss_nil)
      (pss_one (ps_dput (hu_of hr) (pv 2) (pv 3) (pe_op op_add (pv 4) pe_int) rfl)))))
      (pss_one (ps_ret pe_non))))))), ?_⟩
    refine q_see (K := K) (ev_var rfl) (fun hn H1 e1 => ?_) (fun hn => qE hn)
    obtain ⟨qS, qN⟩ := q hn
    have hn0 : 0 < n := by have := hn.1; omega
    -- seen = {0: 0}; total = 0
    refine q_disp1 (e1 := ev_c (v := .int 0)) (e2 := ev_c (v := .int 0)) (k := 0) fun p H2 hp e2 h2 => ?_
    refine q_asg ev_c fun H3 e3 => ?_
    refine q_forR1 (n := (xs.length : Int)) (ea_cons (ev_int (ev_lenL (ev_var rfl) (ex_l ((e1.trans e2).trans e3) hS)) (by rw [List.length_map])) ea_nil) ⟨by omega, by omega⟩
      (fun i σ' H' => ∃ y4 kvs, σ' = [some (.ref a), some (.int n), some (.ref p), some (.int (begin xs n i)), y4] ∧ Ex H1 H' ∧ H' p = some (.dK kvs) ∧ kvs.length ≤ i + 1 ∧ (∀ z v, valV kvs (Sum.inl z : Key) = some v → ∃ j : Nat, j ≤ i ∧ v = .int (j : Int) ∧ begin xs n j = z) ∧
        (∀ j : Nat, j ≤ i → (valV kvs (Sum.inl (begin xs n j) : Key)).isSome = true) ∧ ∀ j k : Nat, j < k → k ≤ i → begin xs n j ≠ begin xs n k)
      (fun H4 e4 => ⟨none, _, by rw [begin_zero]; rfl, (e2.trans e3).trans e4, e4 _ _ (e3 _ _ h2), Nat.le_refl _, fun z v hz => ?_, fun j hj => ?_, fun j k h1 h2 => absurd h1 (by omega)⟩) ?_ ?_
    · by_cases hz0 : (Sum.inl 0 : Key) = Sum.inl z
      · have e := Sum.inl.inj hz0
        rw [valV_pos (p := ((Sum.inl 0 : Key), V.int 0)) hz0] at hz
        exact ⟨0, Nat.le_refl _, (Option.some.inj hz).symm, by rw [begin_zero]; exact e⟩
      · rw [valV_neg (p := ((Sum.inl 0 : Key), V.int 0)) hz0] at hz
        cases hz
    · have : j = 0 := by omega
      subst this
      rw [begin_zero, valV_pos (p := ((Sum.inl 0 : Key), V.int 0)) rfl]
      rfl
    · rintro i σ' H' hi ⟨y4, kvs, rfl, e, hk, hkl, hv, hs, hd⟩
      have hlt : i < xs.length := by omega
      obtain ⟨x, hx⟩ : ∃ x, xs[i]? = some x := ⟨_, List.getElem?_eq_getElem hlt⟩
      have hE : Ex H H' := e1.trans e
      have hat : atI (xs.map V.int) (i : Int) = some (.int x) := atI_nat (by rw [List.getElem?_map, hx]; rfl)
      refine q_asg (v := .int (begin xs n (i + 1))) (ev_int (ev_mod (ev_add (ev_var rfl) (ev_itemL (ev_var rfl) (ev_var rfl) (ex_l hE hS) hat)) (ev_var rfl) hn0) (begin_succ hx).symm) fun H4 e4 => ?_
      have hk4 := e4 _ _ hk
      refine q_when (et_din (ev_var rfl) (ev_var rfl) hk4) (fun hb H5 e5 => ?_) (fun hb H5 e5 => ?_)
      · obtain ⟨v, hvv⟩ := Option.isSome_iff_exists.mp hb
        obtain ⟨j, hj, rfl, ej⟩ := hv _ _ hvv
        refine s_retU (eu_tup (ea_cons (ev_dget (ev_var rfl) (ev_var rfl) (e5 _ _ hk4) hvv) (ea_cons (ev_add (ev_var rfl) ev_c) ea_nil)) (by show (2 : Nat) ≤ 100000; decide)) fun t H6 ht e6 h6 => ?_
        have EE := (((hE.trans e4).trans e5))
        exact qS j (i + 1) t H6 ⟨by omega, by omega, ej⟩ (fresh_back EE ht) (EE.trans e6) h6
      · have hno : valV kvs (Sum.inl (begin xs n (i + 1)) : Key) = none := by
          cases z : valV kvs (Sum.inl (begin xs n (i + 1)) : Key) with
          | none => rfl
          | some v =>
            rw [z] at hb
            cases hb
        refine s_dput (e5 _ _ hk4) (by omega) (ev_add (ev_var rfl) ev_c) (ev_var rfl) (ev_var rfl) fun H6 e6 => ?_
        refine ⟨_, _, rfl, Ex.mut (((e.trans e4).trans e5).trans e6) hp, upd_same, ?_, fun z v hz => ?_, fun j hj => ?_, fun j k hjk hki => ?_⟩
        · rw [putK_new _ hno, List.length_append]
          show kvs.length + 1 ≤ _
          omega
        · rw [valV_put] at hz
          by_cases c : (Sum.inl z : Key) = Sum.inl (begin xs n (i + 1))
          · rw [if_pos c] at hz
            exact ⟨i + 1, Nat.le_refl _, (Option.some.inj hz).symm, (Sum.inl.inj c).symm⟩
          · rw [if_neg c] at hz
            obtain ⟨j, hj, ev, ej⟩ := hv z v hz
            exact ⟨j, by omega, ev, ej⟩
        · rw [valV_put]
          by_cases c : (Sum.inl (begin xs n j) : Key) = Sum.inl (begin xs n (i + 1))
          · rw [if_pos c]
            rfl
          · rw [if_neg c]
            refine hs j ?_
            rcases Nat.lt_or_ge i j with g | g
            · have : j = i + 1 := by omega
              subst this
              exact absurd rfl c
            · exact g
        · rcases Nat.lt_or_ge i k with g | g
          · have : k = i + 1 := by omega
            subst this
            intro z
            have := hs j (by omega)
            rw [z, hno] at this
            cases this
          · exact hd j k hjk g
    · rintro σ' H' ⟨y4, kvs, rfl, e, hk, hkl, hv, hs, hd⟩
      exact s_ret ev_c fun H4 e4 => qN (fun j k h1 h2 => hd j k h1 (by rw [Int.toNat_natCast]; exact h2)) H4 ((e1.trans e).trans e4)
theorem okwider (T : Top K mg "wider" swider ["rows", "number", "n"]) (nb : NB mg) : Cal0 P w K mg base "wider" 1 ["rows", "number", "n"] (spWider) := by
  obtain ⟨f, fd, F, hm, hb⟩ := T
  refine ⟨f, fd, F.ok scwider (fun vs H Q E h => ?_) (fun cdv A outer s H vs Q E hr h => ?_), hm, F.kp, hb⟩
  · obtain ⟨a, ys, x, n, rfl, _⟩ := h
    rfl
  · obtain ⟨a, ys, x, n, rfl, ⟨as, ha, hal, hrows⟩, hl, hn, q⟩ := h
    refine ⟨_, (pss_cons (ps_set (i := 3) scwider.nd rfl (Or.inl rfl) (pe_op op_cat (pe_lc (own := [("row", 6)]) (g := gName 6) (tt := tYes) rfl scwider.nd (k_list K (pv 0)) (blkOk_by (by kernel_rfl)) (fun _ _ _ _ _ => pg_name (i := 6) scwider.nd rfl (Or.inl rfl)) (fun _ _ _ _ _ => pts_nil) (fun _ _ _ _ _ => (pe_callTy call_dictD (by rfl) nb.dict (by decide +kernel) (pa_cons (pv 6) pa_nil)))) (pe_lst (pa_cons pe_dnewK pa_nil))))
      (pss_cons (ps_for PassesOwn.never rfl (pi_range1 (by rfl) nb.range (pa_cons (pe_callB (k_len K) (by rfl) nb.len (by decide +kernel) (pa_cons (pv 0) pa_nil)) pa_nil)) (pg_name (i := 4) scwider.nd rfl (Or.inl rfl)) (pss_one (ps_for PassesOwn.never rfl (k_list K (pe_callTy (call_list_dK (X := _) rfl) (by rfl) nb.list (by decide +kernel) (pa_cons (pe_ix (k_ixL K) (pv 0) (pv 4) (fun _ _ => rfl)) pa_nil))) (pg_name (i := 5) scwider.nd rfl (Or.inl rfl)) (pss_one (ps_dput (hu_of hr) (pe_ix (k_ixL K) (pv 3) (pe_op op_add (pv 4) pe_int) (fun _ _ => rfl)) (pe_op op_mod (pe_op op_add (pv 5) (pv 1)) (pv 2)) pe_bl rfl)))))
      (pss_one (ps_ret (pv 3))))), ?_⟩
    have hn0 : 0 < n := by have := hn.1; omega
    refine q_asgOpLc (K := K) (ev_var rfl) (sq_of ha) (fun x => rfl) (fun l i H' => H l = none ∧ ∃ ps : List Addr, FR H H' n (Ch ys n) ps ∧ H' l = some (.lst (ps.map V.ref)) ∧ ps.length = i)
      (fun l H1 hl e h1 => ⟨hl, [], FR.nil e, h1, rfl⟩) (fun l i H1 h => h.2.choose_spec.1.1) ?_ ?_
    · rintro l i x0 H1 hx ⟨hl0, ps, hF, h1, hi⟩
      obtain ⟨q0, hq0, rfl⟩ := ref_at hx
      have hi2 := (List.getElem?_eq_some_iff.mp hq0).1
      obtain ⟨kvs, hk1, hk2⟩ := hrows i q0 hq0
      refine (ev_var (v := .ref q0) rfl) H1 (Ex.refl H1) _ fun H2 e2 => ⟨q0, kvs, rfl, Rd.of (e2 _ _ (hF.1 _ _ hk1)), fun p hp => ?_⟩
      subst hi
      have hF2 := (hF.ex e2).add hp hk2
      have h2 : (upd H2 p (.dK kvs)) l = some (.lst (ps.map V.ref)) := (Ex.new hp) _ _ (e2 _ _ h1)
      refine ⟨_, h2, ?_, hl0, ps ++ [p], hF2.lst hl0 h2, ?_, by rw [List.length_append]; rfl⟩
      · rw [List.length_map]
        exact sz_lt (by omega)
      · rw [upd_same, List.map_append]
        rfl
    · rintro l H1 ⟨hl0, ps, hF, h1, hi⟩
      rw [List.length_map, hal] at hi
      intro p hp
      have hF1 := hF.add hp (keys_nil (n := n) (P := Ch ys n ps.length) fun r => ch_over (by omega))
      refine ⟨by show (1 : Nat) ≤ sizeLine; exact sz_of (by decide), fun l2 hl2 => ?_⟩
      have e2 := (Ex.new (o := .dK []) hp).trans (Ex.new (o := .lst [.ref p]) hl2)
      refine ⟨l, l2, ps.map V.ref, [.ref p], rfl, rfl, e2 _ _ h1, upd_same, by rw [List.length_map]; exact sz_of (by show _ + 1 ≤ _; omega), fun p3 hp3 => ?_⟩
      have hF3 := (hF1.ex (Ex.new (o := .lst [.ref p]) hl2)).ex (Ex.new (o := .lst (ps.map V.ref ++ [.ref p])) hp3)
      have n3 : H p3 = none := fresh_back ((hF1.ex (Ex.new (o := .lst [.ref p]) hl2)).1) hp3
      have h3 : (upd (upd (upd H1 p (.dK [])) l2 (.lst [.ref p])) p3 (.lst (ps.map V.ref ++ [.ref p]))) p3 = some (.lst ((ps ++ [p]).map V.ref)) := by
        rw [upd_same, List.map_append]
        rfl
      have hpl : (ps ++ [p]).length = ys.length + 2 := by
        rw [List.length_append]
        show _ + 1 = _
        omega
      generalize (upd (upd (upd H1 p (.dK [])) l2 (.lst [.ref p])) p3 (.lst (ps.map V.ref ++ [.ref p]))) = H3 at hF3 h3
      generalize ps ++ [p] = ms at hF3 h3 hpl
      have E3 := hF3.1
      refine q_forR1 (n := ((ys.length + 1 : Nat) : Int)) (ea_cons (ev_int (ev_lenL (ev_var rfl) (sq_of (E3 _ _ ha))) (by rw [List.length_map, hal])) ea_nil) ⟨by omega, by omega⟩
        (fun c σ' H' => ∃ (y4 y5 y6 : Option V), σ' = [some (.ref a), some (.int x), some (.int n), some (.ref p3), y4, y5, y6] ∧ H' p3 = some (.lst (ms.map V.ref)) ∧
          FR H H' n (fun k r => Ch ys n k r ∨ ∃ (j : Nat) (s : Int), k = j + 1 ∧ j < c ∧ Ch ys n j s ∧ r = (s + x) % n) ms)
        (fun H4 e4 => ⟨none, none, none, rfl, e4 _ _ h3, (hF3.ex e4).iff fun k _ r => ⟨Or.inl, fun z => z.elim id fun ⟨_, _, _, h, _⟩ => absurd h (Nat.not_lt_zero _)⟩⟩) ?_ ?_
      · rintro c σ' H' hc ⟨y4, y5, y6, rfl, h3', hF'⟩
        have hc' : c < as.length := by omega
        obtain ⟨q0, hq0⟩ : ∃ q0, as[c]? = some q0 := ⟨_, List.getElem?_eq_getElem hc'⟩
        obtain ⟨kvs, hk1, hk2⟩ := hrows c q0 hq0
        obtain ⟨ns, en, el, hnd, hmem, hrg⟩ := keys_ints hk2
        have hc2 : c + 1 < ms.length := by omega
        obtain ⟨q1, hq1⟩ : ∃ q1, ms[c + 1]? = some q1 := ⟨_, List.getElem?_eq_getElem hc2⟩
        have E' := hF'.1
        have ix : atI (as.map V.ref) (c : Int) = some (.ref q0) := atI_nat (by rw [List.getElem?_map, hq0]; rfl)
        have ix2 : atI (ms.map V.ref) ((c : Int) + 1) = some (.ref q1) := atI_nat (j := c + 1) (by rw [List.getElem?_map, hq1]; rfl)
        refine s_forNLn (el_keys (ev_itemL (ev_var rfl) (ev_var rfl) (sq_of (E' _ _ ha)) ix) (E' _ _ hk1) en)
          (fun l i σ' H' => ∃ (y5 y6 : Option V), σ' = [some (.ref a), some (.int x), some (.int n), some (.ref p3), some (.int (c : Int)), y5, y6] ∧ H l = none ∧ H' l = some (.lst (ns.map V.int)) ∧ H' p3 = some (.lst (ms.map V.ref)) ∧
            FR H H' n (fun k r => (Ch ys n k r ∨ ∃ (j : Nat) (s : Int), k = j + 1 ∧ j < c ∧ Ch ys n j s ∧ r = (s + x) % n) ∨ (k = c + 1 ∧ ∃ s ∈ ns.take i, r = (s + x) % n)) ms)
          (fun l H4 hl4 e4 h4 => ⟨_, _, rfl, fresh_back E' hl4, h4, e4 _ _ h3', (hF'.ex e4).iff fun k _ r => ⟨Or.inl, fun z => z.elim id fun ⟨_, _, h, _⟩ => absurd h (by rw [List.take_zero]; exact fun z => nomatch z)⟩⟩)
          (fun l i σ' H' _ h => by
            obtain ⟨_, _, _, _, h, _⟩ := h
            exact sq_of h) ?_ ?_
        · rintro l i x0 σ' H4 hx ⟨y5, y6, rfl, hl4, h4, h34, hF4⟩
          obtain ⟨z, hz, rfl⟩ := int_at hx
          obtain ⟨kvs1, hv1, hv2⟩ := hF4.2.2.2 (c + 1) q1 hq1
          have g0 := Int.emod_nonneg (z + x) (show n ≠ 0 by omega)
          have g1 := Int.emod_lt_of_pos (z + x) hn0
          refine s_dput hv1 (by have := keys_len hn hv2; omega) ev_c (ev_itemL (ev_var rfl) (ev_add (ev_var rfl) ev_c) (sq_of h34) ix2) (ev_mod (ev_add (ev_var rfl) (ev_var rfl)) (ev_var rfl) hn0) fun H5 e5 => ?_
          have hF5 := (hF4.ex e5).put hq1 (e5 _ _ hv1) (v := .bl true) g0 g1
          refine ⟨_, _, rfl, hl4, ?_, ?_, hF5.iff fun k _ r => ?_⟩
          · rw [upd_ne (fun z => by subst z; rw [h4] at hv1; cases hv1)]
            exact e5 _ _ h4
          · rw [upd_ne (fun z => by subst z; rw [h34] at hv1; cases hv1)]
            exact e5 _ _ h34
          · rw [List.take_add_one, hz]
            constructor
            · rintro ((h | h) | h)
              · exact Or.inl h
              · obtain ⟨h1, s, h2, h3⟩ := h
                exact Or.inr ⟨h1, s, List.mem_append_left _ h2, h3⟩
              · exact Or.inr ⟨h.1, z, List.mem_append_right _ List.mem_cons_self, h.2⟩
            · rintro (h | ⟨h1, s, h2, h3⟩)
              · exact Or.inl (Or.inl h)
              · rcases List.mem_append.mp h2 with h2 | h2
                · exact Or.inl (Or.inr ⟨h1, s, h2, h3⟩)
                · have e : s = z := by simpa using h2
                  subst e
                  exact Or.inr ⟨h1, h3⟩
        · rintro l σ' H4 ⟨y5, y6, rfl, hl4, h4, h34, hF4⟩
          rw [List.length_map, List.take_length] at hF4
          refine ⟨_, _, _, rfl, h34, hF4.iff fun k _ r => ?_⟩
          constructor
          · rintro ((h | ⟨j, s, h1, h2, h3, h4⟩) | ⟨h1, s, h2, h3⟩)
            · exact Or.inl h
            · exact Or.inr ⟨j, s, h1, by omega, h3, h4⟩
            · exact Or.inr ⟨c, s, h1, by omega, (hmem s).mp h2, h3⟩
          · rintro (h | ⟨j, s, h1, h2, h3, h4⟩)
            · exact Or.inl (Or.inl h)
            · by_cases hj : j < c
              · exact Or.inl (Or.inr ⟨j, s, h1, hj, h3, h4⟩)
              · have ej : j = c := by omega
                subst ej
                exact Or.inr ⟨h1, s, (hmem s).mpr h3, h4⟩
      · rintro σ' H' ⟨y4, y5, y6, rfl, h3', hF'⟩
        refine s_ret (ev_var rfl) fun H4 e4 => q p3 H4 n3 (hF'.1.trans e4) ?_
        have g := (hF'.ex e4).iff (P' := Ch (ys ++ [x]) n) fun k hk r => by
          rw [ch_snoc]
          constructor
          · rintro (h | ⟨j, s, h1, h2, h3, h4⟩)
            · exact Or.inl h
            · exact Or.inr ⟨j, s, h1, h3, h4⟩
          · rintro (h | ⟨j, s, h1, h3, h4⟩)
            · exact Or.inl h
            · exact Or.inr ⟨j, s, h1, by omega, h3, h4⟩
        have g2 := g.rows (e4 _ _ h3')
        rw [hpl] at g2
        exact g2
theorem oklayers (T : Top K mg "layers" slayers ["numbers", "n"]) (nb : NB mg) (cwider : Cal0 P w K mg base "wider" 1 ["rows", "number", "n"] (spWider)) : Cal0 P w K mg base "layers" 2 ["numbers", "n"] (spLayers K) := by
  obtain ⟨f, fd, F, hm, hb⟩ := T
  refine ⟨f, fd, F.ok sclayers (fun vs H Q E h => ?_) (fun cdv A outer s H vs Q E hr h => ?_), hm, F.kp, hb⟩
  · obtain ⟨a, xs, n, rfl, _⟩ := h
    rfl
  · obtain ⟨a, xs, n, rfl, hS, hl, hn, q⟩ := h
    refine ⟨_, (pss_cons (ps_set (i := 2) sclayers.nd rfl (Or.inl rfl) (pe_lst (pa_cons (pe_lst (pa_cons (pe_disp (pps_cons pe_int pe_bl pps_nil) (by rfl) (by rfl) (fun z => by cases z) (by decide)) pa_nil)) pa_nil)))
      (pss_cons (ps_for PassesOwn.never rfl (k_list K (pv 0)) (pg_name (i := 3) sclayers.nd rfl (Or.inl rfl)) (pss_one (ps_expr (pe_bm PySem.F.plainAttrs_list PySem.F.slot_list_append PySem.F.type_list_append mt_append (pv 2) (pa_cons (pe_cal cwider (hr.mono (by decide)) pass0 (pa_cons (pe_ix (k_ixL K) (pv 2) (pe_un un_neg pe_int) (fun _ _ => rfl)) (pa_cons (pv 3) (pa_cons (pv 1) pa_nil)))) pa_nil)))))
      (pss_one (ps_ret (pv 2))))), ?_⟩
    have hn0 : 0 < n := by have := hn.1; omega
    intro d hd
    have s1 : Ex H (upd H d (.dK [])) := Ex.new hd
    refine ⟨upd_same, [((Sum.inl 0 : Key), .bl true)], rfl, by show 1 ≤ 15; decide, ?_⟩
    have hd2 : (upd (upd H d (.dK [])) d (.dK (mergeK [] [((Sum.inl 0 : Key), .bl true)]))) d = some (.dK (putK [] (Sum.inl 0 : Key) (.bl true))) := upd_same
    have hE2 : Ex H (upd (upd H d (.dK [])) d (.dK (mergeK [] [((Sum.inl 0 : Key), .bl true)]))) := Ex.mut s1 hd
    generalize (upd (upd H d (.dK [])) d (.dK (mergeK [] [((Sum.inl 0 : Key), .bl true)]))) = H2 at hd2 hE2
    refine ⟨by show (1 : Nat) ≤ sizeLine; exact sz_of (by decide), fun l1 hl1 => ⟨by show (1 : Nat) ≤ sizeLine; exact sz_of (by decide), fun l2 hl2 => ?_⟩⟩
    have e1 := Ex.new (o := .lst [.ref d]) hl1
    have e2 := Ex.new (o := .lst [.ref l1]) hl2
    have n2 : H l2 = none := fresh_back (hE2.trans e1) hl2
    have h2 : (upd (upd H2 l1 (.lst [.ref d])) l2 (.lst [.ref l1])) l2 = some (.lst ([l1].map V.ref)) := upd_same
    have hR : Rows (upd (upd H2 l1 (.lst [.ref d])) l2 (.lst [.ref l1])) l1 n (Ch (xs.take 0) n) 1 := by
      refine ⟨[d], e2 _ _ upd_same, rfl, fun k p hk => ?_⟩
      cases k with
      | zero =>
        cases hk
        refine ⟨_, e2 _ _ (e1 _ _ hd2), keys_iff (keys_put (keys_nil (n := n) (P := fun _ => False) fun _ z => z) (Int.le_refl 0) hn0) fun r => ?_⟩
        rw [List.take_zero, ch_nil]
        exact ⟨fun z => z.elim (fun z => nomatch z) fun z => ⟨rfl, z⟩, fun z => Or.inr z.2⟩
      | succ k => cases hk
    have hE3 := (hE2.trans e1).trans e2
    generalize (upd (upd H2 l1 (.lst [.ref d])) l2 (.lst [.ref l1])) = H3 at h2 hR hE3
    refine q_forLn (ev_var rfl) (ex_l hE3 hS) (fun i σ' H' => ∃ y3 : Option V, σ' = [some (.ref a), some (.int n), some (.ref l2), y3] ∧ Ex H H' ∧ ∃ qs : List Addr, H' l2 = some (.lst (qs.map V.ref)) ∧ qs.length = i + 1 ∧ ∀ j q, qs[j]? = some q → Rows H' q n (Ch (xs.take j) n) (j + 1) ∧ q ≠ l2)
      (fun H4 e4 => ⟨none, rfl, hE3.trans e4, [l1], e4 _ _ h2, rfl, fun j q hj => by
        cases j with
        | zero =>
          cases hj
          refine ⟨hR.ex e4, fun z => ?_⟩
          subst z
          obtain ⟨ps, g1, g2, g3⟩ := hR
          rw [h2] at g1
          have g4 : ps = [l1] := by
            have := Option.some.inj g1
            injection this with this
            have h5 := congrArg List.length this
            cases ps with
            | nil => simp at h5
            | cons p ps =>
              cases ps with
              | nil =>
                simp at this
                rw [this]
              | cons _ _ => simp at h5
          subst g4
          obtain ⟨kvs, g5, _⟩ := g3 0 l1 rfl
          rw [h2] at g5
          cases g5
        | succ j => cases hj⟩) (fun i σ' H' _ h => by
        obtain ⟨_, _, e, _⟩ := h
        exact ex_l e hS) ?_ ?_
    · rintro i x σ' H' hx ⟨y3, rfl, e, qs, h2', hql, hqs⟩
      obtain ⟨z, hz, rfl⟩ := int_at hx
      have hi := (List.getElem?_eq_some_iff.mp hz).1
      obtain ⟨q0, hq0⟩ : ∃ q0, qs[i]? = some q0 := ⟨_, List.getElem?_eq_getElem (by omega)⟩
      have ix : atI (qs.map V.ref) (-1) = some (.ref q0) := by
        exact atI_end (m := i) (by rw [List.getElem?_map, hq0]; rfl) (by rw [List.length_map, hql])
      refine s_appC h2' (ev_var rfl) (ea_cons (ev_itemL (ev_var rfl) (ev_negI ev_c) (sq_of h2') ix) (ea_cons (ev_var rfl) (ea_cons (ev_var rfl) ea_nil))) fun H5 e5 => ?_
      have tl : (xs.take i).length = i := by rw [List.length_take]; omega
      have hq1 := (hqs i q0 hq0).1
      rw [← tl] at hq1
      refine ⟨q0, xs.take (xs.take i).length, z, n, rfl, ?_, ?_, hn, fun p H6 hp e6 hrows => ?_⟩
      · have := hq1.ex e5
        rw [tl] at this ⊢
        rw [tl]
        exact this
      · rw [tl, tl]
        omega
      · rw [tl, tl] at hrows
        have E6 := e5.trans e6
        refine ⟨l2, _, _, rfl, rfl, E6 _ _ h2', sz_lt (by rw [List.length_map]; omega), ?_⟩
        refine ⟨_, rfl, Ex.mut (e.trans E6) n2, qs ++ [p], ?_, ?_, fun j q hj => ?_⟩
        · rw [upd_same, List.map_append]
          rfl
        · rw [List.length_append, hql]
          rfl
        · have hpn : p ≠ l2 := fun z => by
            subst z
            rw [e5 _ _ h2'] at hp
            cases hp
          have keep : ∀ q m (P : Nat → Int → Prop), Rows H6 q n P m → q ≠ l2 → Rows (upd H6 l2 (.lst (qs.map V.ref ++ [.ref p]))) q n P m := by
            intro q m P hr hne
            obtain ⟨ps, g1, g2, g3⟩ := hr
            refine ⟨ps, ?_, g2, fun k p hk => ?_⟩
            · rw [upd_ne hne]
              exact g1
            · obtain ⟨kvs, g4, g5⟩ := g3 k p hk
              refine ⟨kvs, ?_, g5⟩
              rw [upd_ne fun z => by subst z; rw [E6 _ _ h2'] at g4; cases g4]
              exact g4
          rw [List.getElem?_append] at hj
          by_cases hlt : j < qs.length
          · rw [if_pos hlt] at hj
            obtain ⟨g1, g2⟩ := hqs j q hj
            exact ⟨keep _ _ _ (g1.ex E6) g2, g2⟩
          · rw [if_neg hlt] at hj
            have h0 : j - qs.length = 0 := by
              have := (List.getElem?_eq_some_iff.mp hj).1
              simp at this
              omega
            rw [h0] at hj
            cases hj
            have ej : j = i + 1 := by omega
            subst ej
            refine ⟨keep _ _ _ ?_ hpn, hpn⟩
            rw [List.take_add_one, hz]
            exact hrows
    · rintro σ' H' ⟨y3, rfl, e, qs, h2', hql, hqs⟩
      rw [List.length_map] at hql
      exact s_ret (ev_var rfl) fun H4 e4 => q l2 H4 n2 (e.trans e4) ⟨qs, e4 _ _ h2', hql, fun i q hi => (hqs i q hi).1.ex e4⟩
theorem okchoose {C : Addr} (T : Top K mg "choose" schoose ["numbers", "count", "wanted", "n"]) (nb : NB mg) (csee_round : CalE P w K mg base "see_round" 1 ["n"] (spSee C)) (clayers : Cal0 P w K mg base "layers" 2 ["numbers", "n"] (spLayers K)) :
    CalE P w K mg base "choose" 3 ["numbers", "count", "wanted", "n"] (spChoose K C) := by
  obtain ⟨f, fd, F, hm, hb⟩ := T
  refine ⟨f, fd, F.okX scchoose (fun vs H Q E h => ?_) (fun cdv A outer s H vs Q E hr h => ?_), hm, F.kp, hb⟩
  · obtain ⟨a, xs, count, wanted, n, rfl, _⟩ := h
    rfl
  · obtain ⟨a, xs, count, wanted, n, rfl, hS, hl, q, qE⟩ := h
    refine ⟨_, (pss_cons (ps_expr (pe_cal csee_round (hr.mono (by decide)) (passes_call (takes_of rfl rfl rfl rfl) (fun _ _ _ _ h => h)) (pa_cons (pv 3) pa_nil)))
      (PSs.nox (pss_cons (ps_set (i := 4) scchoose.nd rfl (Or.inl rfl) (pe_cal clayers (hr.mono (by decide)) pass0 (pa_cons (pv 0) (pa_cons (pv 3) pa_nil))))
      (pss_cons (ps_set (i := 5) scchoose.nd rfl (Or.inl rfl) (pe_op op_mod (pv 2) (pv 3)))
      (pss_cons (ps_if (PW.pt (pw_or (pt_cmpR op_gt (pv 1) (pe_callB (k_len K) (by rfl) nb.len (by decide +kernel) (pa_cons (pv 0) pa_nil)) (nomark _)) (pw_or1 (pt_cmp (pc_dnotin (hu_of hr) (pv 5) (pe_ix (k_ixL K) (pe_ix (k_ixL K) (pv 4) (pe_un un_neg pe_int) (fun _ _ => rfl)) (pv 1) (fun _ _ => rfl))))))) (pss_one (ps_ret pe_non)) pss_nil)
      (pss_cons (ps_set (i := 6) scchoose.nd rfl (Or.inl rfl) (pe_lst pa_nil))
      (pss_cons (ps_for PassesOwn.never rfl (pi_range3 (by rfl) nb.range (pa_cons (pe_op op_sub (pe_callB (k_len K) (by rfl) nb.len (by decide +kernel) (pa_cons (pv 0) pa_nil)) pe_int) (pa_cons (pe_un un_neg pe_int) (pa_cons (pe_un un_neg pe_int) pa_nil)))) (pg_name (i := 7) scchoose.nd rfl (Or.inl rfl)) (pss_one (ps_if (PW.pt (pw_or (pt_cmpR op_gt (pv 1) (pv 7) (nomark _)) (pw_or1 (pt_cmp (pc_dnotin (hu_of hr) (pv 5) (pe_ix (k_ixL K) (pe_ix (k_ixL K) (pv 4) (pv 7) (fun _ _ => rfl)) (pv 1) (fun _ _ => rfl))))))) (pss_cons (ps_set (i := 6) scchoose.nd rfl (Or.inl rfl) (pe_op op_cat (pe_lst (pa_cons (pv 7) pa_nil)) (pv 6)))
      (pss_cons (ps_set (i := 1) scchoose.nd rfl (Or.inl rfl) (pe_op op_sub (pv 1) pe_int))
      (pss_one (ps_set (i := 5) scchoose.nd rfl (Or.inl rfl) (pe_op op_mod (pe_op op_sub (pv 5) (pe_ix (k_ixL K) (pv 0) (pv 7) (fun _ _ => rfl))) (pv 3)))))) pss_nil)))
      (pss_one (ps_ret (pv 6)))))))))), ?_⟩
    refine q_see (K := K) (ev_var rfl) (fun hn H1 e1 => ?_) (fun hn H1 e1 => qE hn H1 e1)
    obtain ⟨q, qN⟩ := q hn
    have hn0 : 0 < n := by have := hn.1; omega
    refine q_call (ea_cons (ev_var rfl) (ea_cons (ev_var rfl) ea_nil)) fun H2 e2 => ?_
    refine ⟨a, xs, n, rfl, ex_l (e1.trans e2) hS, hl, hn, fun p4 H3 n4 e3 hL => ?_⟩
    obtain ⟨qs, hp4, hql, hqs⟩ := hL
    have E3 := (e1.trans e2).trans e3
    have n4' : H p4 = none := fresh_back (e1.trans e2) n4
    have hS3 := ex_l E3 hS
    refine q_asg (ev_mod (ev_var rfl) (ev_var rfl) hn0) fun H4 e4 => ?_
    generalize hr0 : wanted % n = r0
    -- a row of a layer, looked at
    have look : ∀ {H' : Hp} (t c : Nat) (r : Int), Ex H3 H' → t ≤ xs.length → c ≤ t → ∃ (q0 r1 : Addr) (as : List Addr) (kvs : List (Key × V)), qs[t]? = some q0 ∧ H' q0 = some (.lst (as.map V.ref)) ∧ as[c]? = some r1 ∧ H' r1 = some (.dK kvs) ∧ ((valV kvs (Sum.inl r : Key)).isSome = true ↔ Ch (xs.take t) n c r) := by
      intro H' t c r e ht hc
      obtain ⟨q0, hq0⟩ : ∃ q0, qs[t]? = some q0 := ⟨_, List.getElem?_eq_getElem (by omega)⟩
      obtain ⟨as, g1, g2, g3⟩ := hqs t q0 hq0
      obtain ⟨r1, hr1⟩ : ∃ r1, as[c]? = some r1 := ⟨_, List.getElem?_eq_getElem (by omega)⟩
      obtain ⟨kvs, g4, g5⟩ := g3 c r1 hr1
      exact ⟨q0, r1, as, kvs, hq0, e _ _ g1, hr1, e _ _ g4, g5.2.2 r⟩
    have hlen : ∀ {H' : Hp} {σ : L2.St}, Ex H3 H' → σ[0]? = some (some (.ref a)) → Ev (tCB (fun xs H Q => ∃ p ys, xs = [.ref p] ∧ (SqL K H p ys ∨ SqT K H p ys) ∧ Q (.int ys.length) H) (tCons (tVar 0) tNil)) σ H' (.int (xs.length : Int)) := fun {H' σ} e h0 =>
      ev_int (ev_lenL (ev_var h0) (ex_l e hS3)) (by rw [List.length_map])
    by_cases hC : Ch xs n count r0
    · have hcl := ch_len hC
      obtain ⟨q0, r1, as, kvs, hq0, g1, hr1, g2, g3⟩ := look (H' := H4) xs.length count r0 e4 (Nat.le_refl _) hcl
      rw [List.take_length] at g3
      have ix1 : atI (qs.map V.ref) (-1) = some (.ref q0) := atI_end (m := xs.length) (by rw [List.getElem?_map, hq0]; rfl) (by rw [List.length_map, hql])
      have ix2 : atI (as.map V.ref) (count : Int) = some (.ref r1) := atI_nat (by rw [List.getElem?_map, hr1]; rfl)
      refine q_when (b := false) (et_or (a := false) (et_is (et_gt (ev_var rfl) (hlen e4 rfl)) (decide_eq_false (by omega))) fun _ =>
        et_is (et_dnotin (ev_var rfl) (ev_itemL (ev_itemL (ev_var rfl) (ev_negI ev_c) (sq_of (e4 _ _ hp4)) ix1) (ev_var rfl) (sq_of g1) ix2) g2) (by rw [g3.mpr hC]; rfl)) (fun hb => nomatch hb) fun _ H5 e5 => ?_
      refine q_asgL (el_lst ea_nil (by decide)) fun p6 H6 n6 e6 h6 => ?_
      have E6 := (e4.trans e5).trans e6
      refine q_forR3 (m := xs.length) (ea_cons (ev_sub (hlen E6 rfl) ev_c) (ea_cons (ev_negI ev_c) (ea_cons (ev_negI ev_c) ea_nil))) rfl (by omega)
        (fun i σ' H' => ∃ (c : Nat) (r : Int) (pl : Addr) (ps : List Nat) (y7 : Option V), σ' = [some (.ref a), some (.int (c : Int)), some (.int wanted), some (.int n), some (.ref p4), some (.int r), some (.ref pl), y7] ∧ Ex H3 H' ∧ H pl = none ∧ H' pl = some (.lst (places ps)) ∧
          i ≤ xs.length ∧ Ch (xs.take (xs.length - i)) n c r ∧ count = c + ps.length ∧ ps.Pairwise (· < ·) ∧ (∀ p ∈ ps, xs.length - i ≤ p ∧ p < xs.length) ∧ n ∣ pick xs ps + r - wanted)
        (fun H7 e7 => ⟨count, r0, p6, [], none, rfl, E6.trans e7, fresh_back ((E3.trans e4).trans e5) n6, e7 _ _ h6, Nat.zero_le _, by rw [Nat.sub_zero, List.take_length]; exact hC, rfl, List.Pairwise.nil, (fun p h => nomatch h), by
          have := Int.dvd_self_sub_of_emod_eq hr0
          obtain ⟨u, hu⟩ := this
          refine ⟨-u, ?_⟩
          rw [Int.mul_neg, ← hu]
          show 0 + r0 - wanted = _
          omega⟩) ?_ ?_
      · rintro i σ' H' hi ⟨c, r, pl, ps, y7, rfl, e, npl, hpl, hil, hCc, hcnt, hpw, hps, hdv⟩
        obtain ⟨k, hk⟩ : ∃ k, xs.length - i = k + 1 := ⟨xs.length - i - 1, by omega⟩
        have ek : xs.length - 1 - i = k := by omega
        have ek2 : xs.length - (i + 1) = k := by omega
        rw [ek]
        rw [hk] at hCc hps
        obtain ⟨x, hx⟩ : ∃ x, xs[k]? = some x := ⟨_, List.getElem?_eq_getElem (by omega)⟩
        by_cases hCk : Ch (xs.take k) n c r
        · have hck := ch_len hCk
          rw [List.length_take] at hck
          obtain ⟨q0, r1, as, kvs, hq0, g1, hr1, g2, g3⟩ := look (H' := H') k c r e (by omega) (by omega)
          have ix1 : atI (qs.map V.ref) (k : Int) = some (.ref q0) := atI_nat (by rw [List.getElem?_map, hq0]; rfl)
          have ix2 : atI (as.map V.ref) (c : Int) = some (.ref r1) := atI_nat (by rw [List.getElem?_map, hr1]; rfl)
          refine s_when (b := false) (et_or (a := false) (et_is (et_gt (ev_var rfl) (ev_var rfl)) (decide_eq_false (by omega))) fun _ =>
            et_is (et_dnotin (ev_var rfl) (ev_itemL (ev_itemL (ev_var rfl) (ev_var rfl) (sq_of (e _ _ hp4)) ix1) (ev_var rfl) (sq_of g1) ix2) g2) (by rw [g3.mpr hCk]; rfl)) (fun hb => nomatch hb) fun _ H7 e7 => ?_
          exact ⟨c, r, pl, ps, _, rfl, e.trans e7, npl, e7 _ _ hpl, by omega, by rw [ek2]; exact hCk, hcnt, hpw, fun p hp => by have := hps p hp; omega, hdv⟩
        · obtain ⟨j, s, rfl, hCj, hd, hs⟩ := ch_back hn0 hx hCc hCk
          refine s_when (b := true) ?_ (fun _ H7 e7 => ?_) (fun hb => nomatch hb)
          · by_cases hck : k < j + 1
            · exact et_is (et_or (a := true) (et_is (et_gt (ev_var rfl) (ev_var rfl)) (decide_eq_true (by omega))) fun z => nomatch z) (b := true || false) rfl
            · obtain ⟨q0, r1, as, kvs, hq0, g1, hr1, g2, g3⟩ := look (H' := H') k (j + 1) r e (by omega) (by omega)
              have ix1 : atI (qs.map V.ref) (k : Int) = some (.ref q0) := atI_nat (by rw [List.getElem?_map, hq0]; rfl)
              have ix2 : atI (as.map V.ref) ((j + 1 : Nat) : Int) = some (.ref r1) := atI_nat (by rw [List.getElem?_map, hr1]; rfl)
              have g4 : (valV kvs (Sum.inl r : Key)).isSome = false := by
                cases h : (valV kvs (Sum.inl r : Key)).isSome with
                | false => rfl
                | true => exact absurd (g3.mp h) hCk
              exact et_or (a := false) (et_is (et_gt (ev_var rfl) (ev_var rfl)) (decide_eq_false (by omega))) fun _ =>
                et_is (et_dnotin (ev_var rfl) (ev_itemL (ev_itemL (ev_var rfl) (ev_var rfl) (sq_of (e _ _ hp4)) ix1) (ev_var rfl) (sq_of g1) ix2) g2) (by rw [g4]; rfl)
          · refine q_asgL (xs := places (k :: ps)) (el_catLV (xs := [V.int (k : Int)]) (el_lst (ea_cons (ev_var rfl) ea_nil) (by show (1 : Nat) ≤ 100000; decide)) (ev_var rfl) (e7 _ _ hpl) (by rw [List.length_map]; show 1 + ps.length ≤ _; omega)) fun p8 H8 n8 e8 h8 => ?_
            refine q_asg (v := .int (j : Int)) (ev_int (ev_sub (ev_var rfl) ev_c) (by omega)) fun H9 e9 => ?_
            have hS9 := ex_l (((e.trans e7).trans e8).trans e9) hS3
            have ix : atI (xs.map V.int) (k : Int) = some (.int x) := atI_nat (by rw [List.getElem?_map, hx]; rfl)
            refine s_asg (v := .int s) (ev_int (ev_mod (ev_sub (ev_var rfl) (ev_itemL (ev_var rfl) (ev_var rfl) hS9 ix)) (ev_var rfl) hn0) hs) fun H10 e10 => ?_
            have E10 := (((e.trans e7).trans e8).trans e9).trans e10
            have hgx : xs.getD k 0 = x := by rw [List.getD_eq_getElem?_getD, hx]; rfl
            refine ⟨j, s, p8, k :: ps, _, rfl, E10, fresh_back (E3.trans (e.trans e7)) n8, e10 _ _ (e9 _ _ h8), by omega, by rw [ek2]; exact hCj, by rw [List.length_cons]; omega, List.pairwise_cons.mpr ⟨fun p hp => by have := hps p hp; omega, hpw⟩, fun p hp => ?_, ?_⟩
            · rcases List.mem_cons.mp hp with rfl | hp
              · omega
              · have := hps p hp
                omega
            · rw [pick_cons, hgx]
              have := Int.dvd_add hdv hd
              have e0 : pick xs ps + r - wanted + (s + x - r) = x + pick xs ps + s - wanted := by omega
              rw [e0] at this
              exact this
      · rintro σ' H' ⟨c, r, pl, ps, y7, rfl, e, npl, hpl, hil, hCc, hcnt, hpw, hps, hdv⟩
        rw [Nat.sub_self, List.take_zero, ch_nil] at hCc
        obtain ⟨rfl, rfl⟩ := hCc
        refine s_ret (ev_var rfl) fun H7 e7 => q ps pl H7 ⟨hpw, fun p hp => (hps p hp).2, by omega, ?_⟩ npl ((E3.trans e).trans e7) (e7 _ _ hpl)
        rw [Int.add_zero] at hdv
        exact hdv
    · refine q_when (b := true) ?_ (fun _ H5 e5 => ?_) (fun hb => nomatch hb)
      · by_cases hck : xs.length < count
        · exact et_is (et_or (a := true) (et_is (et_gt (ev_var rfl) (hlen e4 rfl)) (decide_eq_true (by omega))) fun z => nomatch z) (b := true || false) rfl
        · obtain ⟨q0, r1, as, kvs, hq0, g1, hr1, g2, g3⟩ := look (H' := H4) xs.length count r0 e4 (Nat.le_refl _) (by omega)
          rw [List.take_length] at g3
          have ix1 : atI (qs.map V.ref) (-1) = some (.ref q0) := atI_end (m := xs.length) (by rw [List.getElem?_map, hq0]; rfl) (by rw [List.length_map, hql])
          have ix2 : atI (as.map V.ref) (count : Int) = some (.ref r1) := atI_nat (by rw [List.getElem?_map, hr1]; rfl)
          have g4 : (valV kvs (Sum.inl r0 : Key)).isSome = false := by
            cases h : (valV kvs (Sum.inl r0 : Key)).isSome with
            | false => rfl
            | true => exact absurd (g3.mp h) hC
          exact et_or (a := false) (et_is (et_gt (ev_var rfl) (hlen e4 rfl)) (decide_eq_false (by omega))) fun _ =>
            et_is (et_dnotin (ev_var rfl) (ev_itemL (ev_itemL (ev_var rfl) (ev_negI ev_c) (sq_of (e4 _ _ hp4)) ix1) (ev_var rfl) (sq_of g1) ix2) g2) (by rw [g4]; rfl)
      · rw [hr0] at qN
        exact s_ret ev_c fun H6 e6 => qN hC H6 (((E3.trans e4).trans e5).trans e6)
theorem oktable {C : Addr} (T : Top K mg "table" stable ["numbers", "n"]) (nb : NB mg) (csee_round : CalE P w K mg base "see_round" 1 ["n"] (spSee C)) (clayers : Cal0 P w K mg base "layers" 2 ["numbers", "n"] (spLayers K)) :
    CalE P w K mg base "table" 3 ["numbers", "n"] (spTable K C) := by
  obtain ⟨f, fd, F, hm, hb⟩ := T
  refine ⟨f, fd, F.okX sctable (fun vs H Q E h => ?_) (fun cdv A outer s H vs Q E hr h => ?_), hm, F.kp, hb⟩
  · obtain ⟨a, xs, n, rfl, _⟩ := h
    rfl
  · obtain ⟨a, xs, n, rfl, hS, hl, q, qE⟩ := h
    refine ⟨_, (pss_cons (ps_expr (pe_cal csee_round (hr.mono (by decide)) (passes_call (takes_of rfl rfl rfl rfl) (fun _ _ _ _ h => h)) (pa_cons (pv 1) pa_nil)))
      (PSs.nox (pss_one (ps_ret (pe_lc (own := [("row", 2)]) (g := gName 2) (tt := tYes) rfl sctable.nd (k_list K (pe_ix (k_ixL K) (pe_cal clayers (hr.mono (by decide)) pass0 (pa_cons (pv 0) (pa_cons (pv 1) pa_nil))) (pe_un un_neg pe_int) (fun _ _ => rfl))) (blkOk_by (by kernel_rfl)) (fun _ _ _ _ _ => pg_name (i := 2) sctable.nd rfl (Or.inl rfl)) (fun _ _ _ _ _ => pts_nil) (fun _ _ _ _ _ => (pe_callB (k_sorted K) (by rfl) nb.sorted (by decide +kernel) (pa_cons (pe_callTy (call_list_dK (X := _) rfl) (by rfl) nb.list (by decide +kernel) (pa_cons (pv 2) pa_nil)) pa_nil)))))))), ?_⟩
    refine q_see (K := K) (ev_var rfl) (fun hn H1 e1 => ?_) (fun hn H1 e1 => qE hn H1 e1)
    have hn0 : 0 < n := by have := hn.1; omega
    have h24 : n.toNat ≤ 24 := by have := hn.2; omega
    refine s_retLcIx (K := K) (ea_cons (ev_var rfl) (ea_cons (ev_var rfl) ea_nil)) fun H2 e2 => ?_
    refine ⟨a, xs, n, rfl, ex_l (e1.trans e2) hS, hl, hn, fun p H3 hp e3 hL => ?_⟩
    obtain ⟨qs, hp3, hql, hqs⟩ := hL
    obtain ⟨q0, hq0⟩ : ∃ q0, qs[xs.length]? = some q0 := ⟨_, List.getElem?_eq_getElem (by omega)⟩
    have ix : atI (qs.map V.ref) (-1) = some (.ref q0) := atI_end (m := xs.length) (by rw [List.getElem?_map, hq0]; rfl) (by rw [List.length_map, hql])
    refine (ev_negI (σ := [some (.ref a), some (.int n), none]) (ev_c (v := .int 1))) H3 (Ex.refl H3) _ fun H4 e4 => ⟨p, _, _, _, rfl, rfl, sq_of (e4 _ _ hp3), ix, ?_⟩
    have hR := (hqs xs.length q0 hq0).ex e4
    rw [List.take_length] at hR
    obtain ⟨ps, hps, hpl, hrows⟩ := hR
    have E4 := ((e1.trans e2).trans e3).trans e4
    refine lcG_L (K := K) (σ := [some (.ref a), some (.int n), none]) ev_c (sq_of hps) (fun x => rfl) (fun l i H' => H4 l = none ∧ Ex H4 H' ∧ ∃ rs : List Addr, H' l = some (.lst (rs.map V.ref)) ∧ rs.length = i ∧
        ∀ k r, rs[k]? = some r → r ≠ l ∧ H4 r = none ∧ H' r = some (.lst ((setRows n xs k).map V.int)))
      (fun l H5 hl5 e5 h5 => ⟨hl5, e5, [], h5, rfl, fun k r h => by cases h⟩) (fun l i H5 h => h.2.1) ?_ ?_
    · rintro l i x0 H5 hx ⟨hl0, e5, rs, h5, hi, hrs⟩
      obtain ⟨r0, hr0, rfl⟩ := ref_at hx
      have hi2 := (List.getElem?_eq_some_iff.mp hr0).1
      obtain ⟨kvs, hk1, hk2⟩ := hrows i r0 hr0
      obtain ⟨ns, en, el, hnd, hmem, hrg⟩ := keys_ints hk2
      have hkl := keys_len hn hk2
      refine (el_keys (ev_var (σ := [some (.ref a), some (.int n), some (.ref r0)]) (i := 2) rfl) (e5 _ _ hk1) en) H5 (Ex.refl H5) _ fun l6 H6 hl6 e6 h6 => ⟨l6, ns, rfl, sq_of h6, by omega, fun ns' p7 hperm hsort hp7 => ?_⟩
      have e7 := Ex.new (o := .lst (ns'.map V.int)) hp7
      have hns := sorted_setRows hn0 hmem hnd hperm hsort
      have h7 := e7 _ _ (e6 _ _ h5)
      have n7 : p7 ≠ l := fun z => by
        subst z
        rw [e6 _ _ h5] at hp7
        cases hp7
      refine ⟨_, h7, sz_lt (by rw [List.length_map]; omega), hl0, Ex.mut ((e5.trans e6).trans e7) hl0, rs ++ [p7], ?_, by rw [List.length_append, hi]; rfl, fun k r hk => ?_⟩
      · rw [upd_same, List.map_append]
        rfl
      · rw [List.getElem?_append] at hk
        by_cases hlt : k < rs.length
        · rw [if_pos hlt] at hk
          obtain ⟨g1, g2, g3⟩ := hrs k r hk
          refine ⟨g1, g2, ?_⟩
          rw [upd_ne g1]
          exact e7 _ _ (e6 _ _ g3)
        · rw [if_neg hlt] at hk
          have h0 : k - rs.length = 0 := by
            have := (List.getElem?_eq_some_iff.mp hk).1
            simp at this
            omega
          rw [h0] at hk
          cases hk
          have ek : k = i := by omega
          subst ek
          refine ⟨n7, fresh_back (e5.trans e6) hp7, ?_⟩
          rw [upd_ne n7, upd_same, hns]
    · rintro l H5 ⟨hl0, e5, rs, h5, hi, hrs⟩
      rw [List.length_map] at hi
      exact q hn l rs H5 (fresh_back E4 hl0) (E4.trans e5) h5 (by omega) fun k r hk => by
        obtain ⟨g1, g2, g3⟩ := hrs k r hk
        exact ⟨g1, fresh_back E4 g2, g3⟩
theorem okbarren {C : Addr} (T : Top K mg "barren" sbarren ["n"]) (nb : NB mg) (csee_round : CalE P w K mg base "see_round" 1 ["n"] (spSee C)) : CalE P w K mg base "barren" 2 ["n"] (spBarren C) := by
  obtain ⟨f, fd, F, hm, hb⟩ := T
  refine ⟨f, fd, F.okX scbarren (fun vs H Q E h => ?_) (fun cdv A outer s H vs Q E hr h => ?_), hm, F.kp, hb⟩
  · obtain ⟨n, rfl, _⟩ := h
    rfl
  · obtain ⟨n, rfl, q, qE⟩ := h
    refine ⟨_, (pss_cons (ps_expr (pe_cal csee_round (hr.mono (by decide)) (passes_call (takes_of rfl rfl rfl rfl) (fun _ _ _ _ h => h)) (pa_cons (pv 0) pa_nil)))
      (PSs.nox (pss_one (ps_ret (pe_op op_cat (pe_lc (own := [("k", 1)]) (g := gName 1) (tt := tYes) rfl scbarren.nd (pi_range1 (by rfl) nb.range (pa_cons (pe_op op_sub (pv 0) pe_int) pa_nil)) (blkOk_by (by kernel_rfl)) (fun _ _ _ _ _ => pg_name (i := 1) scbarren.nd rfl (Or.inl rfl)) (fun _ _ _ _ _ => pts_nil) (fun _ _ _ _ _ => pe_int)) (pe_lc (own := [("k", 1)]) (g := gName 1) (tt := tYes) rfl scbarren.nd (pi_range1 (by rfl) nb.range (pa_cons (pe_op op_sub (pv 0) pe_int) pa_nil)) (blkOk_by (by kernel_rfl)) (fun _ _ _ _ _ => pg_name (i := 1) scbarren.nd rfl (Or.inl rfl)) (fun _ _ _ _ _ => pts_nil) (fun _ _ _ _ _ => pe_int))))))), ?_⟩
    refine q_see (K := K) (ev_var rfl) (fun hn H1 e1 => ?_) (fun hn H1 e1 => qE hn H1 e1)
    have h24 : n.toNat ≤ 24 := by have := hn.2; omega
    have hn1 := hn.1
    have hg : ∀ x : Int, given (n - 1).toNat (fun _ => true) (fun _ => V.int x) = (List.replicate (n.toNat - 1) x).map V.int := fun x => by
      rw [show given (n - 1).toNat (fun _ => true) (fun _ => V.int x) = (List.range (n - 1).toNat).map (fun _ => V.int x) by
        unfold given
        rw [List.filter_eq_self.mpr fun _ _ => rfl], List.map_replicate, show (n - 1).toNat = n.toNat - 1 by omega]
      refine List.eq_replicate_iff.mpr ⟨by rw [List.length_map, List.length_range], fun y hy => ?_⟩
      obtain ⟨_, _, e⟩ := List.mem_map.mp hy
      exact e.symm
    refine s_retL (xs := (bar n.toNat).map V.int) ?_ fun p H2 hp e2 h2 => q hn p H2 (fresh_back e1 hp) (e1.trans e2) h2
    unfold bar
    rw [List.map_append, ← hg 0, ← hg 1]
    refine el_catLL (el_lcR1 _ _ (ea_cons (ev_sub (ev_var rfl) ev_c) ea_nil) ⟨by omega, by omega⟩ (fun x => rfl) (fun i H1 _ _ => et_yes) (fun i H1 _ _ _ => ev_c)) (el_lcR1 _ _ (ea_cons (ev_sub (ev_var rfl) ev_c) ea_nil) ⟨by omega, by omega⟩ (fun x => rfl) (fun i H1 _ _ => et_yes) (fun i H1 _ _ _ => ev_c)) ?_
    have g0 := given_len (n - 1).toNat (fun _ => true) (fun _ => V.int 0)
    have g1 := given_len (n - 1).toNat (fun _ => true) (fun _ => V.int 1)
    omega
theorem okgroups {C : Addr} (T : Top K mg "groups" sgroups ["numbers", "n"]) (nb : NB mg) (csee_round : CalE P w K mg base "see_round" 1 ["n"] (spSee C)) (cchoose : CalE P w K mg base "choose" 3 ["numbers", "count", "wanted", "n"] (spChoose K C)) :
    CalE P w K mg base "groups" 4 ["numbers", "n"] (spGroups K C) := by
  obtain ⟨f, fd, F, hm, hb⟩ := T
  refine ⟨f, fd, F.okX scgroups (fun vs H Q E h => ?_) (fun cdv A outer s H vs Q E hr h => ?_), hm, F.kp, hb⟩
  · obtain ⟨a, xs, n, rfl, _⟩ := h
    rfl
  · obtain ⟨a, xs, n, rfl, hS, hl, q, qE⟩ := h
    refine ⟨_, (pss_cons (ps_expr (pe_cal csee_round (hr.mono (by decide)) (passes_call (takes_of rfl rfl rfl rfl) (fun _ _ _ _ h => h)) (pa_cons (pv 1) pa_nil)))
      (PSs.nox (pss_cons (ps_set (i := 2) scgroups.nd rfl (Or.inr rfl) (pe_lc (own := [("k", 6)]) (g := gName 6) (tt := tYes) rfl scgroups.nd (pi_range1 (by rfl) nb.range (pa_cons (pe_callB (k_len K) (by rfl) nb.len (by decide +kernel) (pa_cons (pv 0) pa_nil)) pa_nil)) (blkOk_by (by kernel_rfl)) (fun _ _ _ _ _ => pg_name (i := 6) scgroups.nd rfl (Or.inl rfl)) (fun _ _ _ _ _ => pts_nil) (fun _ _ _ _ _ => (pv 6))))
      (pss_cons (ps_set (i := 3) scgroups.nd rfl (Or.inl rfl) (pe_lst pa_nil))
      (pss_cons (ps_set (i := 4) scgroups.nd rfl (Or.inl rfl) pe_bl)
      (pss_cons (ps_while PassesOwn.never (pt_val (pv 4)) (pss_cons (ps_set (i := 5) scgroups.nd rfl (Or.inr rfl) (pe_cal cchoose (hr.mono (by decide)) passL (pa_cons (pe_lc (own := [("k", 6)]) (g := gName 6) (tt := tYes) rfl scgroups.nd (k_list K (pv 2)) (blkOk_by (by kernel_rfl)) (fun _ _ _ _ _ => pg_name (i := 6) scgroups.nd rfl (Or.inl rfl)) (fun _ _ _ _ _ => pts_nil) (fun _ _ _ _ _ => (pe_ix (k_ixL K) (pv 0) (pv 6) (fun _ _ => rfl)))) (pa_cons (pv 1) (pa_cons pe_int (pa_cons (pv 1) pa_nil))))))
      (pss_cons (ps_set (i := 4) scgroups.nd rfl (Or.inl rfl) (pe_cmpR op_notN (pv 5) pe_non (nomark _)))
      (pss_one (ps_if (pt_val (pv 4)) (pss_cons (ps_expr (pe_bm PySem.F.plainAttrs_list PySem.F.slot_list_append PySem.F.type_list_append mt_append (pv 3) (pa_cons (pe_lc (own := [("place", 7)]) (g := gName 7) (tt := tYes) rfl scgroups.nd (k_list K (pv 5)) (blkOk_by (by kernel_rfl)) (fun _ _ _ _ _ => pg_name (i := 7) scgroups.nd rfl (Or.inl rfl)) (fun _ _ _ _ _ => pts_nil) (fun _ _ _ _ _ => (pe_ix (k_ixL K) (pv 2) (pv 7) (fun _ _ => rfl)))) pa_nil)))
      (pss_one (ps_set (i := 2) scgroups.nd rfl (Or.inr rfl) (pe_lc (own := [("k", 6)]) (g := gName 6) rfl scgroups.nd (pi_range1 (by rfl) nb.range (pa_cons (pe_callB (k_len K) (by rfl) nb.len (by decide +kernel) (pa_cons (pv 2) pa_nil)) pa_nil)) (blkOk_by (by kernel_rfl)) (fun _ _ _ _ _ => pg_name (i := 6) scgroups.nd rfl (Or.inl rfl)) (fun _ _ _ _ _ => (pts_one (pt_cmpR (k_notIn K) (pv 6) (pv 5) (by with_unfolding_all rfl)))) (fun _ _ _ _ _ => (pe_ix (k_ixL K) (pv 2) (pv 6) (fun _ _ => rfl))))))) pss_nil)))))
      (pss_one (ps_ret (pv 3))))))))), ?_⟩
    refine q_see (K := K) (ev_var rfl) (fun hn H1 e1 => ?_) (fun hn H1 e1 => qE hn H1 e1)
    have q := q hn
    have hn1 := hn.1
    have hnn : ((n.toNat : Nat) : Int) = n := by omega
    have h0n : (0 : Int) % n = 0 := Int.zero_emod n
    refine q_asgL (xs := places (List.range xs.length)) ?_ fun p2 H2 n2 e2 h2 => ?_
    · have g := el_lcR1 (σ := [some (.ref a), some (.int n), none, none, none, none, none, none]) (H := H1) (j := 6) (vs := [6]) (t := tYes) (te := tVar 6) (ta := tCons (tCB (fun xs H Q => ∃ p ys, xs = [.ref p] ∧ (SqL K H p ys ∨ SqT K H p ys) ∧ Q (.int ys.length) H) (tCons (tVar 0) tNil)) tNil) (n := (xs.length : Int)) (fun _ => true) (fun i => V.int (i : Int))
        (ea_cons (ev_int (ev_lenL (ev_var rfl) (ex_l e1 hS)) (by rw [List.length_map])) ea_nil) ⟨by omega, by omega⟩ (fun x => rfl) (fun i H2 _ _ => et_yes) (fun i H2 _ _ _ => ev_var rfl)
      have eg : given ((xs.length : Nat) : Int).toNat (fun _ => true) (fun i => V.int (i : Int)) = places (List.range xs.length) := by
        unfold given places
        rw [List.filter_eq_self.mpr fun _ _ => rfl, Int.toNat_natCast]
      rw [eg] at g
      exact g
    refine q_asgL (el_lst ea_nil (by decide)) fun p3 H3 n3 e3 h3 => ?_
    refine q_asg ev_c fun H4 e4 => ?_
    have E4 := ((e1.trans e2).trans e3).trans e4
    refine q_while (fun m σ' H' => ∃ (pl : Addr) (b : Bool) (y5 : Option V) (l : List Nat) (gs : List (List Nat)) (as : List Addr), σ' = [some (.ref a), some (.int n), some (.ref pl), some (.ref p3), some (.bl b), y5, none, none] ∧ Ex H H' ∧ H' pl = some (.lst (places l)) ∧ H' p3 = some (.lst (as.map V.ref)) ∧ H pl = none ∧
        l.Pairwise (· < ·) ∧ l.length ≤ 100 ∧ gs.length + l.length ≤ 200 ∧ (∀ k, k ∈ l ↔ k < xs.length ∧ k ∉ gs.flatten) ∧ as.length = gs.length ∧ (∀ (i : Nat) (q : Addr) (g : List Nat), as[i]? = some q → gs[i]? = some g → q ≠ p3 ∧ H' q = some (.lst (places g))) ∧
        (∀ g ∈ gs, IsCh xs n.toNat 0 n g) ∧ gs.flatten.Nodup ∧ (b = false → ¬ Ch (sel xs l) n n.toNat 0) ∧ m = (if b = true then l.length + 1 else 0)) (xs.length + 1)
      ⟨p2, true, none, List.range xs.length, [], [], rfl, E4, e4 _ _ (e3 _ _ h2), e4 _ _ h3, fresh_back e1 n2, List.pairwise_lt_range, by rw [List.length_range]; omega, by rw [List.length_range]; show 0 + _ ≤ _; omega, (fun k => by rw [List.mem_range]; exact ⟨fun h => ⟨h, fun z => nomatch z⟩, fun h => h.1⟩), rfl, (fun i q g h => by cases h), (fun g h => nomatch h), List.nodup_nil, (fun z => nomatch z), by rw [if_pos rfl, List.length_range]⟩ ?_
    rintro m σ' H' ⟨pl, b, y5, l, gs, as, rfl, e, hpl, hp3, npl, hlr, hll, hgl, hmem, hal, has, hgs, hnd, hno, hm⟩
    refine ⟨b, et_test (ev_var rfl), fun hb H5 e5 => ?_, fun hb H5 e5 => ?_⟩
    · subst hb
      rw [if_pos rfl] at hm
      have n3' : H p3 = none := fresh_back (e1.trans e2) n3
      refine ⟨fun σ2 H2 => ∃ (pl : Addr) (b : Bool) (y5 : Option V) (l2 : List Nat) (gs : List (List Nat)) (as : List Addr), σ2 = [some (.ref a), some (.int n), some (.ref pl), some (.ref p3), some (.bl b), y5, none, none] ∧ Ex H H2 ∧ H2 pl = some (.lst (places l2)) ∧ H2 p3 = some (.lst (as.map V.ref)) ∧ H pl = none ∧
        l2.Pairwise (· < ·) ∧ l2.length ≤ 100 ∧ gs.length + l2.length ≤ 200 ∧ (∀ k, k ∈ l2 ↔ k < xs.length ∧ k ∉ gs.flatten) ∧ as.length = gs.length ∧ (∀ (i : Nat) (q : Addr) (g : List Nat), as[i]? = some q → gs[i]? = some g → q ≠ p3 ∧ H2 q = some (.lst (places g))) ∧
        (∀ g ∈ gs, IsCh xs n.toNat 0 n g) ∧ gs.flatten.Nodup ∧ (b = false → ¬ Ch (sel xs l2) n n.toNat 0) ∧ (if b = true then l2.length + 1 else 0) < m, fun σ2 H2 ⟨pl, b, y5, l2, gs, as, g1, g2, g3, g4, g5, g6, g7, g8, g9, g10, g11, g12, g13, g14, g15⟩ => ⟨_, g15, pl, b, y5, l2, gs, as, g1, g2, g3, g4, g5, g6, g7, g8, g9, g10, g11, g12, g13, g14, rfl⟩, ?_⟩
      have E5 := e.trans e5
      have hpl5 := e5 _ _ hpl
      refine q_callLA (xs := (sel xs l).map V.int) (vs := [.int ((n.toNat : Nat) : Int), .int 0, .int n]) ?_ (ea_cons (ev_int (ev_var rfl) hnn.symm) (ea_cons ev_c (ea_cons (ev_var rfl) ea_nil))) fun p6 H6 e6 n6 h6 => ?_
      · rw [← given_sel]
        have g := el_lcL (K := K) (σ := [some (.ref a), some (.int n), some (.ref pl), some (.ref p3), some (.bl true), y5, none, none]) (H := H5) (a := pl) (xs := places l) (tl := tVar 2) (j := 6) (vs := [6]) (t := tYes) (te := tOp (rIxL K) (tVar 0) (tVar 6)) (fun _ => true) (fun i => V.int (xs.getD (l.getD i 0) 0))
          (ev_var rfl) (sq_of hpl5) (by unfold places; rw [List.length_map]; omega) (fun x => rfl) (fun i x H2 _ _ => et_yes) (fun i x H2 e2 hx _ => by
            obtain ⟨rfl, hi⟩ := place_at hx
            have hlt := ((hmem _).mp (getD_mem hi)).1
            exact ev_itemL (ev_var rfl) (ev_var rfl) (ex_l (E5.trans e2) hS) (int_ix hlt))
        have el : (places l).length = l.length := by unfold places; rw [List.length_map]
        rw [el] at g
        exact g
      refine ⟨p6, sel xs l, n.toNat, 0, n, rfl, sq_of h6, by rw [sel_len]; exact hll, fun _ => ⟨fun ps t H7 hps nt e7 h7 => ?_, fun hno H7 e7 => ?_⟩, fun z => absurd hn z⟩
      · -- a choice
        obtain ⟨hp1, hp2, hp3', hp4⟩ := hps
        rw [sel_len] at hp2
        refine q_asg (v := .bl true) (ev_is (ev_notNV (ev_var rfl)) rfl) fun H8 e8 => ?_
        refine s_when (b := true) (et_test (ev_var rfl)) (fun _ H9 e9 => ?_) (fun z => nomatch z)
        have E9 := ((e6.trans e7).trans e8).trans e9
        have ht9 := e9 _ _ (e8 _ _ h7)
        have hpl9 := E9 _ _ hpl5
        have hp39 := E9 _ _ (e5 _ _ hp3)
        have hgr := group_rises hlr hp1 hp2
        have hpl3 : pl ≠ p3 ∨ pl = p3 := (Classical.em _).symm
        refine q_appL (ys := places (group l ps)) hp39 (ev_var rfl) ?_ (by rw [List.length_map]; omega) fun p10 H10 n10 e10 h10 => ?_
        · rw [← given_group]
          have g := el_lcL (K := K) (σ := [some (.ref a), some (.int n), some (.ref pl), some (.ref p3), some (.bl true), some (.ref t), none, none]) (H := H9) (a := t) (xs := places ps) (tl := tVar 5) (j := 7) (vs := [7]) (t := tYes) (te := tOp (rIxL K) (tVar 2) (tVar 7)) (fun _ => true) (fun i => V.int ((l.getD (ps.getD i 0) 0 : Nat) : Int))
            (ev_var rfl) (sq_of ht9) (by unfold places; rw [List.length_map, hp3']; have := hn.2; omega) (fun x => rfl) (fun i x H2 _ _ => et_yes) (fun i x H2 e2 hx _ => by
              obtain ⟨rfl, hi⟩ := place_at hx
              exact ev_itemL (ev_var rfl) (ev_var rfl) (sq_of (e2 _ _ hpl9)) (place_ix (hp2 _ (getD_mem hi))))
          have el : (places ps).length = ps.length := by unfold places; rw [List.length_map]
          rw [el] at g
          exact g
        have hne : pl ≠ p3 ∨ l = [] := by
          by_cases hh : pl = p3
          · subst hh
            rw [hpl] at hp3
            right
            cases l with
            | nil => rfl
            | cons x l =>
              have := Option.some.inj hp3
              injection this with this
              cases as with
              | nil => cases this
              | cons q as => cases this
          · exact Or.inl hh
        have hpe : ∃ p, p ∈ ps := by
          cases ps with
          | nil =>
            have : (0 : Nat) = n.toNat := hp3'
            omega
          | cons p ps => exact ⟨p, List.mem_cons_self⟩
        obtain ⟨p0, hp0⟩ := hpe
        have hne : pl ≠ p3 := hne.elim id fun z => by
          have := hp2 p0 hp0
          rw [z] at this
          exact absurd this (Nat.not_lt_zero _)
        have htn : t ≠ p3 := fun z => by
          subst z
          rw [e6 _ _ (e5 _ _ hp3)] at nt
          cases nt
        have hpl10 : (upd H10 p3 (.lst (as.map V.ref ++ [.ref p10]))) pl = some (.lst (places l)) := by
          rw [upd_ne hne]
          exact e10 _ _ hpl9
        have ht10 : (upd H10 p3 (.lst (as.map V.ref ++ [.ref p10]))) t = some (.lst (places ps)) := by
          rw [upd_ne htn]
          exact e10 _ _ ht9
        refine s_asgL (xs := places (rest l ps)) ?_ fun p11 H11 n11 e11 h11 => ?_
        · have g := el_lcR1 (σ := [some (.ref a), some (.int n), some (.ref pl), some (.ref p3), some (.bl true), some (.ref t), none, none]) (H := upd H10 p3 (.lst (as.map V.ref ++ [.ref p10]))) (j := 6) (vs := [6]) (t := tTest (tOp (rIn K true) (tVar 6) (tVar 5))) (te := tOp (rIxL K) (tVar 2) (tVar 6)) (ta := tCons (tCB (fun xs H Q => ∃ p ys, xs = [.ref p] ∧ (SqL K H p ys ∨ SqT K H p ys) ∧ Q (.int ys.length) H) (tCons (tVar 2) tNil)) tNil) (n := (l.length : Int))
            (fun k => decide (k ∉ ps)) (fun i => V.int ((l.getD i 0 : Nat) : Int)) (ea_cons (ev_int (ev_lenL (ev_var rfl) (sq_of hpl10)) (by unfold places; rw [List.length_map])) ea_nil) ⟨by omega, by omega⟩ (fun x => rfl)
            (fun i H2 e2 _ => et_noPlace (ev_var rfl) (ev_var rfl) (e2 _ _ ht10)) (fun i H2 e2 hi _ => ev_itemL (ev_var rfl) (ev_var rfl) (sq_of (e2 _ _ hpl10)) (place_ix (by omega)))
          have eg : given ((l.length : Nat) : Int).toNat (fun k => decide (k ∉ ps)) (fun i => V.int ((l.getD i 0 : Nat) : Int)) = places (rest l ps) := by
            unfold given places rest
            rw [Int.toNat_natCast, List.map_map]
            rfl
          rw [eg] at g
          exact g
        have EE := E5.trans (E9.trans e10)
        have EF : Ex H (upd H10 p3 (.lst (as.map V.ref ++ [.ref p10]))) := Ex.mut EE n3'
        have hn10 : p10 ≠ p3 := fun z => by
          subst z
          rw [hp39] at n10
          cases n10
        have hrl := rest_len (l := l) hp0 (hp2 p0 hp0)
        refine ⟨p11, true, some (.ref t), rest l ps, gs ++ [group l ps], as ++ [p10], rfl, EF.trans e11, h11, ?_, fresh_back EF n11, rest_rises hlr, by omega, by rw [List.length_append]; show gs.length + 1 + _ ≤ _; omega, fun k => ?_, by rw [List.length_append, List.length_append, hal]; rfl, fun i q g hq hg => ?_, fun g hg => ?_, ?_, (fun z => nomatch z), by rw [if_pos rfl, hm]; omega⟩
        · have := e11 _ _ (upd_same (H := H10) (a := p3) (o := .lst (as.map V.ref ++ [.ref p10])))
          rw [this, List.map_append]
          rfl
        · rw [mem_rest hlr hp2, hmem k, List.flatten_append, List.mem_append]
          show _ ↔ _ ∧ ¬ (_ ∨ k ∈ [group l ps].flatten)
          rw [show [group l ps].flatten = group l ps by simp]
          exact ⟨fun h => ⟨h.1.1, fun z => z.elim h.1.2 h.2⟩, fun h => ⟨⟨h.1, fun z => h.2 (Or.inl z)⟩, fun z => h.2 (Or.inr z)⟩⟩
        · rw [List.getElem?_append] at hq hg
          by_cases hi : i < as.length
          · rw [if_pos hi] at hq
            rw [if_pos (by omega)] at hg
            obtain ⟨g1, g2⟩ := has i q g hq hg
            refine ⟨g1, e11 _ _ ?_⟩
            rw [upd_ne g1]
            exact e10 _ _ (E9 _ _ (e5 _ _ g2))
          · rw [if_neg hi] at hq
            rw [if_neg (by omega)] at hg
            have h0 : i - as.length = 0 := by
              have := (List.getElem?_eq_some_iff.mp hq).1
              simp at this
              omega
            rw [h0] at hq
            rw [← hal, h0] at hg
            cases hq
            cases hg
            refine ⟨hn10, e11 _ _ ?_⟩
            rw [upd_ne hn10]
            exact h10
        · rcases List.mem_append.mp hg with hg | hg
          · exact hgs g hg
          · have eg : g = group l ps := by simpa using hg
            subst eg
            refine ⟨hgr, fun p hp => ?_, by unfold group; rw [List.length_map]; exact hp3', ?_⟩
            · obtain ⟨j, hj, rfl⟩ := List.mem_map.mp hp
              exact ((hmem _).mp (getD_mem (hp2 j hj))).1
            · rw [← pick_sel hp2]
              exact hp4
        · rw [List.flatten_append, show [group l ps].flatten = group l ps by simp]
          refine List.nodup_append.mpr ⟨hnd, nodup_rises hgr, fun x hx y hy z => ?_⟩
          subst z
          obtain ⟨j, hj, rfl⟩ := List.mem_map.mp hy
          exact ((hmem _).mp (getD_mem (hp2 j hj))).2 hx
      · -- none
        refine q_asg (v := .bl false) (ev_is (ev_notNV (ev_var rfl)) rfl) fun H8 e8 => ?_
        refine s_when (b := false) (et_test (ev_var rfl)) (fun z => nomatch z) (fun _ H9 e9 => ?_)
        have E9 := ((e6.trans e7).trans e8).trans e9
        rw [h0n] at hno
        exact ⟨pl, false, _, l, gs, as, rfl, E5.trans E9, E9 _ _ hpl5, E9 _ _ (e5 _ _ hp3), npl, hlr, hll, hgl, hmem, hal, fun i q g hq hg => by
          obtain ⟨g1, g2⟩ := has i q g hq hg
          exact ⟨g1, E9 _ _ (e5 _ _ g2)⟩, hgs, hnd, fun _ => hno, by rw [if_neg (by decide), hm]; omega⟩
    · subst hb
      refine s_ret (ev_var rfl) fun H6 e6 => ?_
      have n3' : H p3 = none := fresh_back (e1.trans e2) n3
      have E6 := (e.trans e5).trans e6
      have el : l = (List.range xs.length).filter fun k => decide (k ∉ gs.flatten) := rising_eq hlr (List.Pairwise.filter _ List.pairwise_lt_range) fun k => by
        rw [hmem k, List.mem_filter, List.mem_range, decide_eq_true_iff]
      refine q gs p3 as H6 n3' E6 (e6 _ _ (e5 _ _ hp3)) hal (fun i q g hq hg => e6 _ _ (e5 _ _ (has i q g hq hg).2)) hgs hnd ?_
      rw [← el]
      exact hno rfl
def spListsAsked (K : PySem.W.Frag) (C : Addr) : Sp := fun vs H Q E => ∃ (way : Int) (a : Addr) (xs : List Int) (count : Nat) (n : Int), vs = [.int way, .ref a, .int (count : Int), .int n] ∧ SqL K H a (xs.map V.int) ∧ xs.length ≤ 100 ∧ way ≤ 9 ∧
  ((5 ≤ way → goodN n) → RetV .non H Q) ∧ (5 ≤ way → ¬ goodN n → ∀ H2, Ex H H2 → E (.ref C) none H2)
theorem oklaw_lists_asked {C : Addr} (T : Top K mg "_law_lists_asked" slaw_lists_asked ["way", "one", "count", "n"]) (cstretch : CalE P w K mg base "stretch" 2 ["numbers", "n"] (spStretch K C)) (cchoose : CalE P w K mg base "choose" 3 ["numbers", "count", "wanted", "n"] (spChoose K C))
    (ctable : CalE P w K mg base "table" 3 ["numbers", "n"] (spTable K C)) (cbarren : CalE P w K mg base "barren" 2 ["n"] (spBarren C)) (cgroups : CalE P w K mg base "groups" 4 ["numbers", "n"] (spGroups K C)) :
    CalE P w K mg base "_law_lists_asked" 5 ["way", "one", "count", "n"] (spListsAsked K C) := by
  obtain ⟨f, fd, F, hm, hb⟩ := T
  refine ⟨f, fd, F.okX sclaw_lists_asked (fun vs H Q E h => ?_) (fun cdv A outer s H vs Q E hr h => ?_), hm, F.kp, hb⟩
  · obtain ⟨way, a, xs, count, n, rfl, _⟩ := h
    rfl
  · obtain ⟨way, a, xs, count, n, rfl, hS, hl, h0, q, qE⟩ := h
    refine ⟨_, (pss_cons (ps_if (pt_cmpR op_eq (pv 0) pe_int (nomark _)) (pss_one (ps_expr (pe_cal cstretch (hr.mono (by decide)) (passes_call (takes_of rfl rfl rfl rfl) (fun _ _ _ _ h => h)) (pa_cons (pv 1) (pa_cons (pv 3) pa_nil))))) pss_nil)
      (pss_cons (ps_if (pt_cmpR op_eq (pv 0) pe_int (nomark _)) (pss_one (ps_expr (pe_cal cchoose (hr.mono (by decide)) (passes_call (takes_of rfl rfl rfl rfl) (fun _ _ _ _ h => h)) (pa_cons (pv 1) (pa_cons (pv 2) (pa_cons pe_int (pa_cons (pv 3) pa_nil))))))) pss_nil)
      (pss_cons (ps_if (pt_cmpR op_eq (pv 0) pe_int (nomark _)) (pss_one (ps_expr (pe_cal ctable (hr.mono (by decide)) (passes_call (takes_of rfl rfl rfl rfl) (fun _ _ _ _ h => h)) (pa_cons (pv 1) (pa_cons (pv 3) pa_nil))))) pss_nil)
      (pss_cons (ps_if (pt_cmpR op_eq (pv 0) pe_int (nomark _)) (pss_one (ps_expr (pe_cal cbarren (hr.mono (by decide)) (passes_call (takes_of rfl rfl rfl rfl) (fun _ _ _ _ h => h)) (pa_cons (pv 3) pa_nil)))) pss_nil)
      (pss_one (ps_if (pt_cmpR op_eq (pv 0) pe_int (nomark _)) (pss_one (ps_expr (pe_cal cgroups (hr.mono (by decide)) (passes_call (takes_of rfl rfl rfl rfl) (fun _ _ _ _ h => h)) (pa_cons (pv 1) (pa_cons (pv 3) pa_nil))))) pss_nil)))))), ?_⟩
    refine q_ask (vs := [.ref a, .int n]) (n := n) (C := C) (ev_var rfl) ev_c (fun H1 e1 => ea_cons (ev_var rfl) (ea_cons (ev_var rfl) ea_nil)) (fun H1 e1 _ H2 e2 Q E k kE => ⟨a, xs, n, rfl, ex_l (e1.trans e2) hS, by omega, fun hn => ⟨fun i j p H3 _ _ e3 _ => k hn _ H3 e3, fun _ H3 e3 => k hn _ H3 e3⟩, kE⟩) (fun h => qE (by omega)) fun g0 H1 e1 => ?_
    refine q_ask (vs := [.ref a, .int (count : Int), .int 0, .int n]) (n := n) (C := C) (ev_var rfl) ev_c (fun H2 e2 => ea_cons (ev_var rfl) (ea_cons (ev_var rfl) (ea_cons ev_c (ea_cons (ev_var rfl) ea_nil)))) (fun H2 e2 _ H3 e3 Q E k kE => ⟨a, xs, count, 0, n, rfl, ex_l ((e1.trans e2).trans e3) hS, hl, fun hn => ⟨fun ps p H3 _ _ e3 _ => k hn _ H3 e3, fun _ H3 e3 => k hn _ H3 e3⟩, kE⟩) (fun h hn H2 e2 => qE (by omega) hn H2 (e1.trans e2)) fun g1 H2 e2 => ?_
    have e2 := e1.trans e2
    refine q_ask (vs := [.ref a, .int n]) (n := n) (C := C) (ev_var rfl) ev_c (fun H3 e3 => ea_cons (ev_var rfl) (ea_cons (ev_var rfl) ea_nil)) (fun H3 e3 _ H4 e4 Q E k kE => ⟨a, xs, n, rfl, ex_l ((e2.trans e3).trans e4) hS, hl, fun hn p qs H3 _ e3 _ _ _ => k hn _ H3 e3, kE⟩) (fun h hn H3 e3 => qE (by omega) hn H3 (e2.trans e3)) fun g2 H3 e3 => ?_
    have e3 := e2.trans e3
    refine q_ask (vs := [.int n]) (n := n) (C := C) (ev_var rfl) ev_c (fun H4 e4 => ea_cons (ev_var rfl) ea_nil) (fun H4 e4 _ H5 e5 Q E k kE => ⟨n, rfl, fun hn p H3 _ e3 _ => k hn _ H3 e3, kE⟩) (fun h hn H4 e4 => qE (by omega) hn H4 (e3.trans e4)) fun g3 H4 e4 => ?_
    have e4 := e3.trans e4
    refine s_ask (vs := [.ref a, .int n]) (n := n) (C := C) (ev_var rfl) ev_c (fun H5 e5 => ea_cons (ev_var rfl) (ea_cons (ev_var rfl) ea_nil)) (fun H5 e5 _ H6 e6 Q E k kE => ⟨a, xs, n, rfl, ex_l ((e4.trans e5).trans e6) hS, hl, fun hn gs p as H3 _ e3 _ _ _ _ _ _ => k hn _ H3 e3, kE⟩) (fun h hn H5 e5 => qE (by omega) hn H5 (e4.trans e5)) fun g4 H5 e5 => ?_
    refine q (fun h4 => ?_) H5 (e4.trans e5)
    obtain h | h | h | h | h : way = 5 ∨ way = 6 ∨ way = 7 ∨ way = 8 ∨ way = 9 := by omega
    · exact g0 h
    · exact g1 h
    · exact g2 h
    · exact g3 h
    · exact g4 h
def spMarks (K : PySem.W.Frag) : Sp := fun vs H Q _ => ∃ (way : Int) (a b : Addr) (xs ys : List Int) (count : Nat) (n : Int), vs = [.int way, .ref a, .ref b, .int (count : Int), .int n] ∧ SqL K H a (xs.map V.int) ∧ SqL K H b (ys.map V.int) ∧ xs.length ≤ 100 ∧ ys.length ≤ 100 ∧ 0 ≤ way ∧ way ≤ 9 ∧
  (goodN n → RetL [] H Q) ∧ (¬ goodN n → RetL marksV H Q)
theorem oklaw_marks {C Ct R : Addr} (T : Top K mg "_law_marks" slaw_marks ["way", "one", "other", "count", "n"]) (nb : NB mg) (xBadRound : Exc K mg "BadRound" C) (xBadText : Exc K mg "BadText" Ct) (xRestError : Exc K mg "RestError" R) (cg : Caught K mg C Ct R)
    (claw_sets_asked : CalE P w K mg base "_law_sets_asked" 5 ["way", "one", "other", "n"] (spSetsAsked K C)) (claw_lists_asked : CalE P w K mg base "_law_lists_asked" 5 ["way", "one", "count", "n"] (spListsAsked K C)) :
    Cal0 P w K mg base "_law_marks" 6 ["way", "one", "other", "count", "n"] (spMarks K) := by
  obtain ⟨f, fd, F, hm, hb⟩ := T
  refine ⟨f, fd, F.ok sclaw_marks (fun vs H Q E h => ?_) (fun cdv A outer s H vs Q E hr h => ?_), hm, F.kp, hb⟩
  · obtain ⟨way, a, b, xs, ys, count, n, rfl, _⟩ := h
    rfl
  · obtain ⟨way, a, b, xs, ys, count, n, rfl, hS, hT, hl, hl2, h0, h9, qG, qB⟩ := h
    refine ⟨_, (pss_cons (ps_set (i := 5) sclaw_marks.nd rfl (Or.inl rfl) (pe_lst pa_nil))
      (pss_cons (ps_try_as (i := 6) (tb := fun W => tSeq (tDrop (tCallS (spSetsAsked K C) (WE W) (tCons (tVar 0) (tCons (tVar 1) (tCons (tVar 2) (tCons (tVar 4) tNil)))))) (tDrop (tCallS (spListsAsked K C) (WE W) (tCons (tVar 0) (tCons (tVar 1) (tCons (tVar 3) (tCons (tVar 4) tNil)))))))
          (ts := tSuite K C Ct 6 5) (Wout := fun _ _ _ _ => False) rfl rfl sclaw_marks.nd rfl rfl ⟨rfl, by decide, Or.inl xRestError.gC⟩ takes0
          (fun W pn xe tk _ => pss_cons (ps_expr (by exact (pe_calS claw_sets_asked (hr.mono (by decide)) (fun σ => passAt tk σ) (by exact (pa_cons (pv 0) (pa_cons (pv 1) (pa_cons (pv 2) (pa_cons (pv 4) pa_nil))))))))
            (pss_one (ps_expr (by exact (pe_calS claw_lists_asked (hr.mono (by decide)) (fun σ => passAt tk σ) (by exact (pa_cons (pv 0) (pa_cons (pv 1) (pa_cons (pv 3) (pa_cons (pv 4) pa_nil))))))))))
          (fun a oe cls d pn hz hf => suite_of hz fun hz => pss_one (ps_set (i := 5) sclaw_marks.nd rfl (Or.inl rfl) (by exact (pe_lst (pa_cons (pe_callB (k_isE K cg.c hz hf) (by rfl) nb.isinstance (by decide +kernel) (pa_cons (pv 6) (pa_cons (pe_glob (by rfl) xBadRound.gC rfl) pa_nil)))
            (pa_cons (pe_callB (k_isE K cg.c hz hf) (by rfl) nb.isinstance (by decide +kernel) (pa_cons (pv 6) (pa_cons (pe_bltn (v := .ty "ValueError") (by rfl) cg.ve (by decide +kernel) rfl) pa_nil)))
            (pa_cons (pe_callB (k_isE K cg.c hz hf) (by rfl) nb.isinstance (by decide +kernel) (pa_cons (pv 6) (pa_cons (pe_glob (by rfl) xBadText.gC rfl) pa_nil))) pa_nil))))))))
      (pss_one (ps_ret (pv 5))))), ?_⟩
    refine q_asgL (el_lst ea_nil (by decide)) fun p5 H1 n5 e1 h5 => ?_
    have args : ∀ {σ : L2.St} {H : Hp} {i : Nat} {z : V}, σ[0]? = some (some (.int way)) → σ[1]? = some (some (.ref a)) → σ[i]? = some (some z) → σ[4]? = some (some (.int n)) → EvA (tCons (tVar 0) (tCons (tVar 1) (tCons (tVar i) (tCons (tVar 4) tNil)))) σ H [.int way, .ref a, z, .int n] := fun h1 h2 h3 h4 => ea_cons (ev_var h1) (ea_cons (ev_var h2) (ea_cons (ev_var h3) (ea_cons (ev_var h4) ea_nil)))
    -- how an exception ends
    have bad : ¬ goodN n → ∀ (D : Ends) (H2 : Hp), Ex H1 H2 → (∀ p H3, H2 p = none → Ex H2 H3 → H3 p = some (.lst marksV) → D.nx [some (.int way), some (.ref a), some (.ref b), some (.int (count : Int)), some (.int n), some (.ref p), none] H3) →
        wAs K (.ref R) 6 (tSuite K C Ct 6 5) (fun _ _ _ _ => False) D (.ref C) none [some (.int way), some (.ref a), some (.ref b), some (.int (count : Int)), some (.int n), some (.ref p5), none] H2 := fun hn D H2 e2 k =>
      ⟨true, cg.ex, fun _ a0 _ => s_marks cg rfl fun p H3 hp e3 h3 => k p H3 hp e3 h3, fun z => nomatch z⟩
    have fin : ∀ (p : Addr) (H2 : Hp), ¬ goodN n → H p = none → Ex H H2 → H2 p = some (.lst marksV) → tRet (tVar 5) { nx := fun _ H' => Q .non H', rt := Q } [some (.int way), some (.ref a), some (.ref b), some (.int (count : Int)), some (.int n), some (.ref p), none] H2 := fun p H2 hn hp e h => s_ret (ev_var rfl) fun H3 e3 => qB hn p H3 hp (e.trans e3) (e3 _ _ h)
    refine q_dropCallS (args rfl rfl rfl rfl) fun H2 e2 => ?_
    have E2 := e1.trans e2
    refine ⟨way, a, b, xs, ys, n, rfl, ex_l E2 hS, ex_l E2 hT, hl, hl2, h0, fun hg H3 e3 => ?_, fun h4 hn H3 e3 => bad hn _ H3 (e2.trans e3) fun p H4 hp e4 h4 => fin p H4 hn (fresh_back (E2.trans e3) hp) ((E2.trans e3).trans e4) h4⟩
    have E3 := E2.trans e3
    refine s_dropCallS (args rfl rfl rfl rfl) fun H4 e4 => ?_
    have E4 := E3.trans e4
    refine ⟨way, a, xs, count, n, rfl, ex_l E4 hS, hl, h9, fun hg2 H5 e5 => ?_, fun h5 hn H5 e5' => bad hn _ H5 (((e2.trans e3).trans e4).trans e5') fun p H6 hp e6 h6 => fin p H6 hn (fresh_back (E4.trans e5') hp) ((E4.trans e5').trans e6) h6⟩
    have hn : goodN n := by
      by_cases h : way ≤ 4
      · exact hg h
      · exact hg2 (by omega)
    exact s_ret (ev_var rfl) fun H6 e6 => qG hn p5 H6 n5 ((E4.trans e5).trans e6) (e6 _ _ (e5 _ _ (e4 _ _ (e3 _ _ (e2 _ _ h5)))))
theorem el_marks {σ : L2.St} {H : Hp} {tw t1 t2 tc tn : TE} {E : XK} {way n : Int} {count : Nat} {xs ys : List Int} (h1 : Ev tw σ H (.int way)) (h2 : EvL t1 σ H (xs.map V.int)) (h3 : EvL t2 σ H (ys.map V.int)) (h4 : Ev tc σ H (.int (count : Int))) (h5 : Ev tn σ H (.int n)) (hl : xs.length ≤ 100) (hl2 : ys.length ≤ 100) (h0 : 0 ≤ way) (h9 : way ≤ 9) :
    (goodN n → EvL (tCall (spMarks K) [] E (tCons tw (tCons t1 (tCons t2 (tCons tc (tCons tn tNil)))))) σ H []) ∧ (¬ goodN n → EvL (tCall (spMarks K) [] E (tCons tw (tCons t1 (tCons t2 (tCons tc (tCons tn tNil)))))) σ H marksV) := by
  have g : ∀ zs : List V, (goodN n → zs = []) → (¬ goodN n → zs = marksV) → EvL (tCall (spMarks K) [] E (tCons tw (tCons t1 (tCons t2 (tCons tc (tCons tn tNil)))))) σ H zs := fun zs k1 k2 H1 e Q q =>
    h1 H1 e _ fun H2 e2 => h2 H2 (e.trans e2) _ fun a H3 _ e3 g3 => h3 H3 ((e.trans e2).trans e3) _ fun b H4 _ e4 g4 => h4 H4 (((e.trans e2).trans e3).trans e4) _ fun H5 e5 => h5 H5 ((((e.trans e2).trans e3).trans e4).trans e5) _ fun H6 e6 =>
      ⟨way, a, b, xs, ys, count, n, rfl, sq_of (e6 _ _ (e5 _ _ (e4 _ _ g3))), sq_of (e6 _ _ (e5 _ _ g4)), hl, hl2, h0, h9, fun hn p H7 hp e7 h7 => q p H7 (fresh_back ((((e2.trans e3).trans e4).trans e5).trans e6) hp) (((((e2.trans e3).trans e4).trans e5).trans e6).trans e7) (by rw [k1 hn]; exact h7),
        fun hn p H7 hp e7 h7 => q p H7 (fresh_back ((((e2.trans e3).trans e4).trans e5).trans e6) hp) (((((e2.trans e3).trans e4).trans e5).trans e6).trans e7) (by rw [k2 hn]; exact h7)⟩
  exact ⟨fun hn => g [] (fun _ => rfl) fun z => absurd hn z, fun hn => g marksV (fun z => absurd z hn) fun _ => rfl⟩
theorem oklaw {f : Addr} {fd : FuncData} (F : Fun K "law" "law" slaw f fd) (nb : NB mg) (claw_cell_at : Cal0 P w K mg base "_law_cell_at" 1 ["script", "k"] (spCell K)) (claw_numbers : Cal0 P w K mg base "_law_numbers" 2 ["script", "first", "count", "way"] (spNums K))
    (claw_bad_round : Cal0 P w K mg base "_law_bad_round" 1 ["cell"] spBad) (claw_marks : Cal0 P w K mg base "_law_marks" 6 ["way", "one", "other", "count", "n"] (spMarks K)) : FnOk P w K mg base CX0 7 f fd ["script"] (spLaw K) := by
  refine F.ok sclaw (fun vs H Q E h => ?_) (fun cdv A outer s H vs Q E hr h => ?_)
  · obtain ⟨a, ns, rfl, _⟩ := h
    rfl
  · obtain ⟨a, ns, rfl, hS, hlen, q⟩ := h
    refine ⟨_, (pss_cons (ps_set (i := 1) sclaw.nd rfl (Or.inl rfl) (pe_cal claw_numbers (hr.mono (by decide)) pass0 (pa_cons (pv 0) (pa_cons pe_int (pa_cons (pe_op op_mod (pe_cal claw_cell_at (hr.mono (by decide)) pass0 (pa_cons (pv 0) (pa_cons pe_int pa_nil))) pe_int) (pa_cons pe_int pa_nil))))))
      (pss_cons (ps_set (i := 2) sclaw.nd rfl (Or.inl rfl) (pe_cal claw_numbers (hr.mono (by decide)) pass0 (pa_cons (pv 0) (pa_cons pe_int (pa_cons (pe_op op_mod (pe_cal claw_cell_at (hr.mono (by decide)) pass0 (pa_cons (pv 0) (pa_cons pe_int pa_nil))) pe_int) (pa_cons pe_int pa_nil))))))
      (pss_cons (ps_set (i := 3) sclaw.nd rfl (Or.inl rfl) (pe_op op_mod (pe_cal claw_cell_at (hr.mono (by decide)) pass0 (pa_cons (pv 0) (pa_cons pe_int pa_nil))) pe_int))
      (pss_cons (ps_set (i := 4) sclaw.nd rfl (Or.inl rfl) (pe_cal claw_bad_round (hr.mono (by decide)) pass0 (pa_cons (pe_cal claw_cell_at (hr.mono (by decide)) pass0 (pa_cons (pv 0) (pa_cons pe_int pa_nil))) pa_nil)))
      (pss_cons (ps_for PassesOwn.never rfl (pi_range1 (by rfl) nb.range (pa_cons pe_int pa_nil)) (pg_name (i := 5) sclaw.nd rfl (Or.inl rfl)) (pss_cons (ps_for PassesOwn.never rfl (k_list K (pe_lst (pa_cons pe_int (pa_cons pe_int (pa_cons (pv 4) pa_nil))))) (pg_name (i := 6) sclaw.nd rfl (Or.inl rfl)) (pss_one (ps_if (pt_cmpR (k_neD K hr.units) (pe_cal claw_marks (hr.mono (by decide)) pass0 (pa_cons (pv 5) (pa_cons (pe_callTy (k_listof K) (by rfl) nb.list (by decide +kernel) (pa_cons (pv 1) pa_nil)) (pa_cons (pe_callTy (k_listof K) (by rfl) nb.list (by decide +kernel) (pa_cons (pv 2) pa_nil)) (pa_cons (pv 3) (pa_cons (pv 6) pa_nil)))))) (pe_lst (pa_cons pe_bl (pa_cons pe_bl (pa_cons pe_bl pa_nil)))) (nomark _)) (pss_one (ps_ret pe_bl)) pss_nil)))
      (pss_one (ps_for PassesOwn.never rfl (k_list K (pe_lst (pa_cons pe_int (pa_cons pe_int pa_nil)))) (pg_name (i := 6) sclaw.nd rfl (Or.inl rfl)) (pss_one (ps_if (pt_cmpR (k_neD K hr.units) (pe_cal claw_marks (hr.mono (by decide)) pass0 (pa_cons (pv 5) (pa_cons (pe_callTy (k_listof K) (by rfl) nb.list (by decide +kernel) (pa_cons (pv 1) pa_nil)) (pa_cons (pe_callTy (k_listof K) (by rfl) nb.list (by decide +kernel) (pa_cons (pv 2) pa_nil)) (pa_cons (pv 3) (pa_cons (pv 6) pa_nil)))))) (pe_lst pa_nil) (nomark _)) (pss_one (ps_ret pe_bl)) pss_nil))))))
      (pss_one (ps_ret pe_bl))))))), ?_⟩
    have nat4 : ∀ c : Int, ∃ k : Nat, k < 4 ∧ (k : Int) = c % 4 := fun c => by
      have m0 := Int.emod_nonneg c (show (4 : Int) ≠ 0 by decide)
      have m1 := Int.emod_lt_of_pos c (show (0 : Int) < 4 by decide)
      exact ⟨(c % 4).toNat, by omega, by omega⟩
    obtain ⟨k1, hk1, ek1⟩ := nat4 (cell ns 1)
    obtain ⟨k2, hk2, ek2⟩ := nat4 (cell ns 2)
    obtain ⟨k3, hk3, ek3⟩ : ∃ k : Nat, k < 61 ∧ (k : Int) = cell ns 3 % 61 := by
      have m0 := Int.emod_nonneg (cell ns 3) (show (61 : Int) ≠ 0 by decide)
      have m1 := Int.emod_lt_of_pos (cell ns 3) (show (0 : Int) < 61 by decide)
      exact ⟨(cell ns 3 % 61).toNat, by omega, by omega⟩
    refine q_asgL (el_call (ea_cons (ev_var rfl) (ea_cons ev_c (ea_cons (ev_int (j := (k1 : Int)) (ev_mod (ev_cell hS (Ex.refl H) (ev_var rfl) ev_c (by decide)) ev_c (by decide)) ek1.symm) (ea_cons ev_c ea_nil)))) (spl_nums (way := 0) hS (by decide) (by omega))) fun p1 H1 n1 e1 h1 => ?_
    have hx1 := drawn_len ns 4 k1 0
    generalize drawn ns 4 k1 0 = xs at h1 hx1
    refine q_asgL (el_call (ea_cons (ev_var rfl) (ea_cons ev_c (ea_cons (ev_int (j := (k2 : Int)) (ev_mod (ev_cell hS e1 (ev_var rfl) ev_c (by decide)) ev_c (by decide)) ek2.symm) (ea_cons ev_c ea_nil)))) (spl_nums (way := 2) (ex_l e1 hS) (by decide) (by omega))) fun p2 H2 n2 e2 h2 => ?_
    have hx2 := drawn_len ns 8 k2 2
    generalize drawn ns 8 k2 2 = ys at h2 hx2
    have h12 := e2 _ _ h1
    have e2 := e1.trans e2
    refine q_asg (v := .int (k3 : Int)) (ev_int (ev_mod (ev_cell hS e2 (ev_var rfl) ev_c (by decide)) ev_c (by decide)) ek3.symm) fun H3 e3 => ?_
    have h13 := e3 _ _ h12
    have h23 := e3 _ _ h2
    have e3 := e2.trans e3
    refine q_call (vs := [.int (cell ns 0)]) (ea_cons (ev_cell hS e3 (ev_var rfl) ev_c (by decide)) ea_nil) fun H4 e4 => ?_
    refine ⟨cell ns 0, rfl, fun far hfar H5 e5 => ?_⟩
    have h15 := e5 _ _ (e4 _ _ h13)
    have h25 := e5 _ _ (e4 _ _ h23)
    refine q_forR1 (n := 10) (ea_cons ev_c ea_nil) (by decide) (fun i σ' H' => ∃ (y5 y6 : Option V), σ' = [some (.ref a), some (.ref p1), some (.ref p2), some (.int (k3 : Int)), some (.int far), y5, y6] ∧ Ex H5 H') (fun H6 e6 => ⟨none, none, rfl, e6⟩) ?_ ?_
    · rintro i σ' H' hi ⟨y5, y6, rfl, e⟩
      refine q_forNLn (K := K) (xs := [0, 25, far].map V.int) (el_lst (ea_cons ev_c (ea_cons ev_c (ea_cons (ev_var rfl) ea_nil))) (by show (3 : Nat) ≤ 100000; decide)) (fun pl j σ' H' => ∃ (y6 : Option V), σ' = [some (.ref a), some (.ref p1), some (.ref p2), some (.int (k3 : Int)), some (.int far), some (.int (i : Int)), y6] ∧ Ex H5 H' ∧ H' pl = some (.lst ([0, 25, far].map V.int)))
        (fun pl H6 hp e6 h6 => ⟨_, rfl, e.trans e6, h6⟩) (fun pl j σ' H' _ h => by
          obtain ⟨_, _, _, h⟩ := h
          exact sq_of h) ?_ ?_
      · rintro pl j x σ' H6 hx ⟨y6, rfl, e6, h6⟩
        obtain ⟨z, hz, rfl⟩ := int_at hx
        have hbad : ¬ goodN z := by
          have hm := List.mem_of_getElem? hz
          rcases List.mem_cons.mp hm with rfl | hm
          · unfold goodN; omega
          · rcases List.mem_cons.mp hm with rfl | hm
            · unfold goodN; omega
            · have e : z = far := by simpa using hm
              rw [e]
              exact hfar
        refine s_when (b := false) (et_test (ev_opLL ((el_marks (K := K) (count := k3) (ev_var rfl) (el_listL (K := K) (ev_var rfl) (sq_of (e6 _ _ h15))) (el_listL (K := K) (ev_var rfl) (sq_of (e6 _ _ h25))) (ev_var rfl) (ev_var rfl) (by omega) (by omega) (by omega) (by omega)).2 hbad)
          (el_lst (vs := marksV) (ea_cons ev_c (ea_cons ev_c (ea_cons ev_c ea_nil))) (by show (3 : Nat) ≤ 100000; decide)) fun p q H7 g1 g2 _ => rv_neM (sq_of g1) (sq_of g2))) (fun z => nomatch z) fun _ H7 e7 => ⟨_, rfl, e6.trans e7, e7 _ _ h6⟩
      · rintro pl σ' H6 ⟨y6, rfl, e6, h6⟩
        refine s_forNLn (K := K) (xs := [1, 24].map V.int) (el_lst (ea_cons ev_c (ea_cons ev_c ea_nil)) (by show (2 : Nat) ≤ 100000; decide)) (fun pl j σ' H' => ∃ (y6 : Option V), σ' = [some (.ref a), some (.ref p1), some (.ref p2), some (.int (k3 : Int)), some (.int far), some (.int (i : Int)), y6] ∧ Ex H5 H' ∧ H' pl = some (.lst ([1, 24].map V.int)))
          (fun pl H6 hp e7 h7 => ⟨_, rfl, e6.trans e7, h7⟩) (fun pl j σ' H' _ h => by
            obtain ⟨_, _, _, h⟩ := h
            exact sq_of h) ?_ ?_
        · rintro pl j x σ' H7 hx ⟨y6, rfl, e7, h7⟩
          obtain ⟨z, hz, rfl⟩ := int_at hx
          have hgood : goodN z := by
            have hm := List.mem_of_getElem? hz
            rcases List.mem_cons.mp hm with rfl | hm
            · unfold goodN; omega
            · have e : z = 24 := by simpa using hm
              rw [e]
              unfold goodN; omega
          refine s_when (b := false) (et_test (ev_opLL ((el_marks (K := K) (count := k3) (ev_var rfl) (el_listL (K := K) (ev_var rfl) (sq_of (e7 _ _ h15))) (el_listL (K := K) (ev_var rfl) (sq_of (e7 _ _ h25))) (ev_var rfl) (ev_var rfl) (by omega) (by omega) (by omega) (by omega)).1 hgood)
            (el_lst (vs := []) ea_nil (by decide)) fun p q H7 g1 g2 _ => rv_neL (ns := []) (ms := []) (sq_of g1) (sq_of g2))) (fun z => nomatch z) fun _ H8 e8 => ⟨_, rfl, e7.trans e8, e8 _ _ h7⟩
        · rintro pl σ' H7 ⟨y6, rfl, e7, h7⟩
          exact ⟨_, _, rfl, e7⟩
    · rintro σ' H' ⟨y5, y6, rfl, e⟩
      exact s_ret ev_c fun H6 e6 => q H6
end
theorem all_mk {l : PySem.W.OpenLaw} {w : World} {K : PySem.W.Frag} {h : Heap} {mg : Str → Option Value} {fa : Addr} {f1 f2 f3 f4 f5 f6 f7 f8 f9 f10 f11 f12 f13 f14 f15 f16 f17 f18 f19 f20 f21 CRestError CBadRound CBadText : Addr} (X : K.In h) (G : h.Ns mainGlobals mg) (hfa : mg "law" = some (.ref fa))
    {od1 an1 : Option Addr} {sl1 : Array (Option Value)} {oc1 kV1 dc1 pm1 cd1 ct1 : Value}
    (a1 : PySem.W.nsIn K mainGlobals "_law_number_by" = some (some (.ref f1))) (l1 : K.lookup f1 = some ⟨oc1, od1, .func (PySem.W.fnOf "_law_number_by" "_law_number_by" (defArgs slaw_number_by) (defBody slaw_number_by) (defScope slaw_number_by) .none kV1 dc1 pm1 an1 cd1 ct1), sl1⟩) (c1 : PySem.W.codeIn K cd1 "_law_number_by" = true) (k1 : PySem.W.keepIn K (.ref f1) = true)
    {od2 an2 : Option Addr} {sl2 : Array (Option Value)} {oc2 kV2 dc2 pm2 cd2 ct2 : Value}
    (a2 : PySem.W.nsIn K mainGlobals "_law_cell_at" = some (some (.ref f2))) (l2 : K.lookup f2 = some ⟨oc2, od2, .func (PySem.W.fnOf "_law_cell_at" "_law_cell_at" (defArgs slaw_cell_at) (defBody slaw_cell_at) (defScope slaw_cell_at) .none kV2 dc2 pm2 an2 cd2 ct2), sl2⟩) (c2 : PySem.W.codeIn K cd2 "_law_cell_at" = true) (k2 : PySem.W.keepIn K (.ref f2) = true)
    {od3 an3 : Option Addr} {sl3 : Array (Option Value)} {oc3 kV3 dc3 pm3 cd3 ct3 : Value}
    (a3 : PySem.W.nsIn K mainGlobals "_law_numbers" = some (some (.ref f3))) (l3 : K.lookup f3 = some ⟨oc3, od3, .func (PySem.W.fnOf "_law_numbers" "_law_numbers" (defArgs slaw_numbers) (defBody slaw_numbers) (defScope slaw_numbers) .none kV3 dc3 pm3 an3 cd3 ct3), sl3⟩) (c3 : PySem.W.codeIn K cd3 "_law_numbers" = true) (k3 : PySem.W.keepIn K (.ref f3) = true)
    {od4 an4 : Option Addr} {sl4 : Array (Option Value)} {oc4 kV4 dc4 pm4 cd4 ct4 : Value}
    (a4 : PySem.W.nsIn K mainGlobals "_law_bad_round" = some (some (.ref f4))) (l4 : K.lookup f4 = some ⟨oc4, od4, .func (PySem.W.fnOf "_law_bad_round" "_law_bad_round" (defArgs slaw_bad_round) (defBody slaw_bad_round) (defScope slaw_bad_round) .none kV4 dc4 pm4 an4 cd4 ct4), sl4⟩) (c4 : PySem.W.codeIn K cd4 "_law_bad_round" = true) (k4 : PySem.W.keepIn K (.ref f4) = true)
    {od5 an5 : Option Addr} {sl5 : Array (Option Value)} {oc5 kV5 dc5 pm5 cd5 ct5 : Value}
    (a5 : PySem.W.nsIn K mainGlobals "see_round" = some (some (.ref f5))) (l5 : K.lookup f5 = some ⟨oc5, od5, .func (PySem.W.fnOf "see_round" "see_round" (defArgs ssee_round) (defBody ssee_round) (defScope ssee_round) .none kV5 dc5 pm5 an5 cd5 ct5), sl5⟩) (c5 : PySem.W.codeIn K cd5 "see_round" = true) (k5 : PySem.W.keepIn K (.ref f5) = true)
    {od6 an6 : Option Addr} {sl6 : Array (Option Value)} {oc6 kV6 dc6 pm6 cd6 ct6 : Value}
    (a6 : PySem.W.nsIn K mainGlobals "rests" = some (some (.ref f6))) (l6 : K.lookup f6 = some ⟨oc6, od6, .func (PySem.W.fnOf "rests" "rests" (defArgs srests) (defBody srests) (defScope srests) .none kV6 dc6 pm6 an6 cd6 ct6), sl6⟩) (c6 : PySem.W.codeIn K cd6 "rests" = true) (k6 : PySem.W.keepIn K (.ref f6) = true)
    {od7 an7 : Option Addr} {sl7 : Array (Option Value)} {oc7 kV7 dc7 pm7 cd7 ct7 : Value}
    (a7 : PySem.W.nsIn K mainGlobals "sums" = some (some (.ref f7))) (l7 : K.lookup f7 = some ⟨oc7, od7, .func (PySem.W.fnOf "sums" "sums" (defArgs ssums) (defBody ssums) (defScope ssums) .none kV7 dc7 pm7 an7 cd7 ct7), sl7⟩) (c7 : PySem.W.codeIn K cd7 "sums" = true) (k7 : PySem.W.keepIn K (.ref f7) = true)
    {od8 an8 : Option Addr} {sl8 : Array (Option Value)} {oc8 kV8 dc8 pm8 cd8 ct8 : Value}
    (a8 : PySem.W.nsIn K mainGlobals "shifted" = some (some (.ref f8))) (l8 : K.lookup f8 = some ⟨oc8, od8, .func (PySem.W.fnOf "shifted" "shifted" (defArgs sshifted) (defBody sshifted) (defScope sshifted) .none kV8 dc8 pm8 an8 cd8 ct8), sl8⟩) (c8 : PySem.W.codeIn K cd8 "shifted" = true) (k8 : PySem.W.keepIn K (.ref f8) = true)
    {od9 an9 : Option Addr} {sl9 : Array (Option Value)} {oc9 kV9 dc9 pm9 cd9 ct9 : Value}
    (a9 : PySem.W.nsIn K mainGlobals "stays" = some (some (.ref f9))) (l9 : K.lookup f9 = some ⟨oc9, od9, .func (PySem.W.fnOf "stays" "stays" (defArgs sstays) (defBody sstays) (defScope sstays) .none kV9 dc9 pm9 an9 cd9 ct9), sl9⟩) (c9 : PySem.W.codeIn K cd9 "stays" = true) (k9 : PySem.W.keepIn K (.ref f9) = true)
    {od10 an10 : Option Addr} {sl10 : Array (Option Value)} {oc10 kV10 dc10 pm10 cd10 ct10 : Value}
    (a10 : PySem.W.nsIn K mainGlobals "step" = some (some (.ref f10))) (l10 : K.lookup f10 = some ⟨oc10, od10, .func (PySem.W.fnOf "step" "step" (defArgs sstep) (defBody sstep) (defScope sstep) .none kV10 dc10 pm10 an10 cd10 ct10), sl10⟩) (c10 : PySem.W.codeIn K cd10 "step" = true) (k10 : PySem.W.keepIn K (.ref f10) = true)
    {od11 an11 : Option Addr} {sl11 : Array (Option Value)} {oc11 kV11 dc11 pm11 cd11 ct11 : Value}
    (a11 : PySem.W.nsIn K mainGlobals "_law_sets_asked" = some (some (.ref f11))) (l11 : K.lookup f11 = some ⟨oc11, od11, .func (PySem.W.fnOf "_law_sets_asked" "_law_sets_asked" (defArgs slaw_sets_asked) (defBody slaw_sets_asked) (defScope slaw_sets_asked) .none kV11 dc11 pm11 an11 cd11 ct11), sl11⟩) (c11 : PySem.W.codeIn K cd11 "_law_sets_asked" = true) (k11 : PySem.W.keepIn K (.ref f11) = true)
    {od12 an12 : Option Addr} {sl12 : Array (Option Value)} {oc12 kV12 dc12 pm12 cd12 ct12 : Value}
    (a12 : PySem.W.nsIn K mainGlobals "stretch" = some (some (.ref f12))) (l12 : K.lookup f12 = some ⟨oc12, od12, .func (PySem.W.fnOf "stretch" "stretch" (defArgs sstretch) (defBody sstretch) (defScope sstretch) .none kV12 dc12 pm12 an12 cd12 ct12), sl12⟩) (c12 : PySem.W.codeIn K cd12 "stretch" = true) (k12 : PySem.W.keepIn K (.ref f12) = true)
    {od13 an13 : Option Addr} {sl13 : Array (Option Value)} {oc13 kV13 dc13 pm13 cd13 ct13 : Value}
    (a13 : PySem.W.nsIn K mainGlobals "wider" = some (some (.ref f13))) (l13 : K.lookup f13 = some ⟨oc13, od13, .func (PySem.W.fnOf "wider" "wider" (defArgs swider) (defBody swider) (defScope swider) .none kV13 dc13 pm13 an13 cd13 ct13), sl13⟩) (c13 : PySem.W.codeIn K cd13 "wider" = true) (k13 : PySem.W.keepIn K (.ref f13) = true)
    {od14 an14 : Option Addr} {sl14 : Array (Option Value)} {oc14 kV14 dc14 pm14 cd14 ct14 : Value}
    (a14 : PySem.W.nsIn K mainGlobals "layers" = some (some (.ref f14))) (l14 : K.lookup f14 = some ⟨oc14, od14, .func (PySem.W.fnOf "layers" "layers" (defArgs slayers) (defBody slayers) (defScope slayers) .none kV14 dc14 pm14 an14 cd14 ct14), sl14⟩) (c14 : PySem.W.codeIn K cd14 "layers" = true) (k14 : PySem.W.keepIn K (.ref f14) = true)
    {od15 an15 : Option Addr} {sl15 : Array (Option Value)} {oc15 kV15 dc15 pm15 cd15 ct15 : Value}
    (a15 : PySem.W.nsIn K mainGlobals "choose" = some (some (.ref f15))) (l15 : K.lookup f15 = some ⟨oc15, od15, .func (PySem.W.fnOf "choose" "choose" (defArgs schoose) (defBody schoose) (defScope schoose) .none kV15 dc15 pm15 an15 cd15 ct15), sl15⟩) (c15 : PySem.W.codeIn K cd15 "choose" = true) (k15 : PySem.W.keepIn K (.ref f15) = true)
    {od16 an16 : Option Addr} {sl16 : Array (Option Value)} {oc16 kV16 dc16 pm16 cd16 ct16 : Value}
    (a16 : PySem.W.nsIn K mainGlobals "table" = some (some (.ref f16))) (l16 : K.lookup f16 = some ⟨oc16, od16, .func (PySem.W.fnOf "table" "table" (defArgs stable) (defBody stable) (defScope stable) .none kV16 dc16 pm16 an16 cd16 ct16), sl16⟩) (c16 : PySem.W.codeIn K cd16 "table" = true) (k16 : PySem.W.keepIn K (.ref f16) = true)
    {od17 an17 : Option Addr} {sl17 : Array (Option Value)} {oc17 kV17 dc17 pm17 cd17 ct17 : Value}
    (a17 : PySem.W.nsIn K mainGlobals "barren" = some (some (.ref f17))) (l17 : K.lookup f17 = some ⟨oc17, od17, .func (PySem.W.fnOf "barren" "barren" (defArgs sbarren) (defBody sbarren) (defScope sbarren) .none kV17 dc17 pm17 an17 cd17 ct17), sl17⟩) (c17 : PySem.W.codeIn K cd17 "barren" = true) (k17 : PySem.W.keepIn K (.ref f17) = true)
    {od18 an18 : Option Addr} {sl18 : Array (Option Value)} {oc18 kV18 dc18 pm18 cd18 ct18 : Value}
    (a18 : PySem.W.nsIn K mainGlobals "groups" = some (some (.ref f18))) (l18 : K.lookup f18 = some ⟨oc18, od18, .func (PySem.W.fnOf "groups" "groups" (defArgs sgroups) (defBody sgroups) (defScope sgroups) .none kV18 dc18 pm18 an18 cd18 ct18), sl18⟩) (c18 : PySem.W.codeIn K cd18 "groups" = true) (k18 : PySem.W.keepIn K (.ref f18) = true)
    {od19 an19 : Option Addr} {sl19 : Array (Option Value)} {oc19 kV19 dc19 pm19 cd19 ct19 : Value}
    (a19 : PySem.W.nsIn K mainGlobals "_law_lists_asked" = some (some (.ref f19))) (l19 : K.lookup f19 = some ⟨oc19, od19, .func (PySem.W.fnOf "_law_lists_asked" "_law_lists_asked" (defArgs slaw_lists_asked) (defBody slaw_lists_asked) (defScope slaw_lists_asked) .none kV19 dc19 pm19 an19 cd19 ct19), sl19⟩) (c19 : PySem.W.codeIn K cd19 "_law_lists_asked" = true) (k19 : PySem.W.keepIn K (.ref f19) = true)
    {od20 an20 : Option Addr} {sl20 : Array (Option Value)} {oc20 kV20 dc20 pm20 cd20 ct20 : Value}
    (a20 : PySem.W.nsIn K mainGlobals "_law_marks" = some (some (.ref f20))) (l20 : K.lookup f20 = some ⟨oc20, od20, .func (PySem.W.fnOf "_law_marks" "_law_marks" (defArgs slaw_marks) (defBody slaw_marks) (defScope slaw_marks) .none kV20 dc20 pm20 an20 cd20 ct20), sl20⟩) (c20 : PySem.W.codeIn K cd20 "_law_marks" = true) (k20 : PySem.W.keepIn K (.ref f20) = true)
    {od21 an21 : Option Addr} {sl21 : Array (Option Value)} {oc21 kV21 dc21 pm21 cd21 ct21 : Value}
    (a21 : PySem.W.nsIn K mainGlobals "law" = some (some (.ref f21))) (l21 : K.lookup f21 = some ⟨oc21, od21, .func (PySem.W.fnOf "law" "law" (defArgs slaw) (defBody slaw) (defScope slaw) .none kV21 dc21 pm21 an21 cd21 ct21), sl21⟩) (c21 : PySem.W.codeIn K cd21 "law" = true) (k21 : PySem.W.keepIn K (.ref f21) = true)
    (z1 : PySem.W.nsIn K mainGlobals "len" = some none)
    (z2 : PySem.W.nsIn K mainGlobals "range" = some none)
    (z3 : PySem.W.nsIn K mainGlobals "sorted" = some none)
    (z4 : PySem.W.nsIn K mainGlobals "set" = some none)
    (z5 : PySem.W.nsIn K mainGlobals "list" = some none)
    (z6 : PySem.W.nsIn K mainGlobals "dict" = some none)
    (z7 : PySem.W.nsIn K mainGlobals "sum" = some none)
    (z8 : PySem.W.nsIn K mainGlobals "min" = some none)
    (z9 : PySem.W.nsIn K mainGlobals "max" = some none)
    (z10 : PySem.W.nsIn K mainGlobals "abs" = some none)
    (z11 : PySem.W.nsIn K mainGlobals "isinstance" = some none)
    (z12 : PySem.W.nsIn K mainGlobals "str" = some none)
    (z13 : PySem.W.nsIn K mainGlobals "int" = some none)
    (z14 : PySem.W.nsIn K mainGlobals "bool" = some none)
    (z15 : PySem.W.nsIn K mainGlobals "tuple" = some none)
    {tGREATEST : Tok} (gGREATEST : PySem.W.nsIn K mainGlobals "GREATEST" = some (some (Value.int 24 tGREATEST)))
    (gRestError : PySem.W.nsIn K mainGlobals "RestError" = some (some (.ref CRestError))) (xRestError : PySem.W.excIn K CRestError [.type "ValueError", .type "Exception", .type "BaseException", .type "object"] "ValueError.__new__" = true) (yRestError : PySem.W.keepIn K (.ref CRestError) = true) (bRestError : PySem.W.subIn K (.ref CRestError) (.type "BaseException") = some true) (tRestError : PySem.W.typeIn K (.ref CRestError) = some (.type "type"))
    (gBadRound : PySem.W.nsIn K mainGlobals "BadRound" = some (some (.ref CBadRound))) (xBadRound : PySem.W.excIn K CBadRound [.type "ValueError", .type "Exception", .type "BaseException", .type "object"] "ValueError.__new__" = true) (yBadRound : PySem.W.keepIn K (.ref CBadRound) = true) (bBadRound : PySem.W.subIn K (.ref CBadRound) (.type "BaseException") = some true) (tBadRound : PySem.W.typeIn K (.ref CBadRound) = some (.type "type"))
    (gBadText : PySem.W.nsIn K mainGlobals "BadText" = some (some (.ref CBadText))) (xBadText : PySem.W.excIn K CBadText [.type "ValueError", .type "Exception", .type "BaseException", .type "object"] "ValueError.__new__" = true) (yBadText : PySem.W.keepIn K (.ref CBadText) = true) (bBadText : PySem.W.subIn K (.ref CBadText) (.type "BaseException") = some true) (tBadText : PySem.W.typeIn K (.ref CBadText) = some (.type "type"))
    (zVE : PySem.W.nsIn K mainGlobals "ValueError" = some none)
    (dRE : PySem.W.hasDictIn K CRestError = true)
    (sRE : PySem.W.subIn K (.ref CBadRound) (.ref CRestError) = some true)
    (m1 : PySem.W.findIn K (.ref CBadRound) "__getattribute__" = some (some (.builtin "BaseException.__getattribute__")))
    (m2 : PySem.W.findIn K (.ref CBadRound) "__getattr__" = some none)
    (m4 : PySem.W.hasDictIn K CBadRound = true)
    (m5 : PySem.W.findIn K (.ref CBadRound) "__class__" = some (some (.builtin "object.__class__")))
    (m6 : PySem.W.specialIn K (.builtin "object.__class__") "__get__" = some (some (.builtin "getset_descriptor.__get__")))
    (m7 : PySem.W.takesIn K (.builtin "object.__class__") = some true)
    (m8 : PySem.W.mroIn K CBadRound (.type "object") = some true)
    (v1 : PySem.W.subIn K (.ref CBadRound) (.type "ValueError") = some true)
    (v2 : PySem.W.subIn K (.ref CBadRound) (.ref CBadText) = some false)
    (v3 : PySem.W.subIn K (.ref CBadRound) (.ref CBadRound) = some true)
    (dBT : PySem.W.hasDictIn K CBadText = true)
    : ∃ fd : FuncData, (∀ (s : Shared) (v : Value), BindsTo s fd ⟨[v], []⟩ [("script", v)]) ∧ ∀ base : Heap, K.In base → base.Ns mainGlobals mg → FnOk l.prog w K mg base CX0 7 fa fd ["script"] (spLaw K) := by
  have e := hfa.symm.trans (PySem.W.mg_of X G a21)
  cases e
  have nb : NB mg := ⟨PySem.W.mg_none_of X G z1, PySem.W.mg_none_of X G z2, PySem.W.mg_none_of X G z3, PySem.W.mg_none_of X G z4, PySem.W.mg_none_of X G z5, PySem.W.mg_none_of X G z6, PySem.W.mg_none_of X G z7, PySem.W.mg_none_of X G z8, PySem.W.mg_none_of X G z9, PySem.W.mg_none_of X G z10, PySem.W.mg_none_of X G z11, PySem.W.mg_none_of X G z12, PySem.W.mg_none_of X G z13, PySem.W.mg_none_of X G z14, PySem.W.mg_none_of X G z15⟩
  have cGREATEST : Cst mg "GREATEST" (.int 24) (Value.int 24 tGREATEST) := ⟨PySem.W.mg_of X G gGREATEST, ⟨_, rfl⟩⟩
  have cg : Caught K mg CBadRound CBadText CRestError := ⟨PySem.W.mg_none_of X G zVE, PySem.W.exm_ref bRestError dRE tRestError sRE, ⟨m1, m2, bBadRound, m4, m5, m6, m7, m8⟩, kit_self, kit_ve v1, kit_no v2 v3 dBT tBadText⟩
  have xRestError : Exc K mg "RestError" CRestError := ⟨PySem.W.mg_of X G gRestError, xRestError, yRestError, bRestError, tRestError⟩
  have xBadRound : Exc K mg "BadRound" CBadRound := ⟨PySem.W.mg_of X G gBadRound, xBadRound, yBadRound, bBadRound, tBadRound⟩
  have xBadText : Exc K mg "BadText" CBadText := ⟨PySem.W.mg_of X G gBadText, xBadText, yBadText, bBadText, tBadText⟩
  have F1 := fun_mk (st := slaw_number_by) l1 c1 k1
  have Tlaw_number_by : Top K mg "_law_number_by" slaw_number_by ["cell", "way"] := ⟨_, _, F1, PySem.W.mg_of X G a1, F1.binds fun _ _ _ _ _ _ us hl => match us, hl with | [_, _], _ => rfl⟩
  have F2 := fun_mk (st := slaw_cell_at) l2 c2 k2
  have Tlaw_cell_at : Top K mg "_law_cell_at" slaw_cell_at ["script", "k"] := ⟨_, _, F2, PySem.W.mg_of X G a2, F2.binds fun _ _ _ _ _ _ us hl => match us, hl with | [_, _], _ => rfl⟩
  have F3 := fun_mk (st := slaw_numbers) l3 c3 k3
  have Tlaw_numbers : Top K mg "_law_numbers" slaw_numbers ["script", "first", "count", "way"] := ⟨_, _, F3, PySem.W.mg_of X G a3, F3.binds fun _ _ _ _ _ _ us hl => match us, hl with | [_, _, _, _], _ => rfl⟩
  have F4 := fun_mk (st := slaw_bad_round) l4 c4 k4
  have Tlaw_bad_round : Top K mg "_law_bad_round" slaw_bad_round ["cell"] := ⟨_, _, F4, PySem.W.mg_of X G a4, F4.binds fun _ _ _ _ _ _ us hl => match us, hl with | [_], _ => rfl⟩
  have F5 := fun_mk (st := ssee_round) l5 c5 k5
  have Tsee_round : Top K mg "see_round" ssee_round ["n"] := ⟨_, _, F5, PySem.W.mg_of X G a5, F5.binds fun _ _ _ _ _ _ us hl => match us, hl with | [_], _ => rfl⟩
  have F6 := fun_mk (st := srests) l6 c6 k6
  have Trests : Top K mg "rests" srests ["numbers", "n"] := ⟨_, _, F6, PySem.W.mg_of X G a6, F6.binds fun _ _ _ _ _ _ us hl => match us, hl with | [_, _], _ => rfl⟩
  have F7 := fun_mk (st := ssums) l7 c7 k7
  have Tsums : Top K mg "sums" ssums ["one", "other", "n"] := ⟨_, _, F7, PySem.W.mg_of X G a7, F7.binds fun _ _ _ _ _ _ us hl => match us, hl with | [_, _, _], _ => rfl⟩
  have F8 := fun_mk (st := sshifted) l8 c8 k8
  have Tshifted : Top K mg "shifted" sshifted ["numbers", "by", "n"] := ⟨_, _, F8, PySem.W.mg_of X G a8, F8.binds fun _ _ _ _ _ _ us hl => match us, hl with | [_, _, _], _ => rfl⟩
  have F9 := fun_mk (st := sstays) l9 c9 k9
  have Tstays : Top K mg "stays" sstays ["numbers", "n"] := ⟨_, _, F9, PySem.W.mg_of X G a9, F9.binds fun _ _ _ _ _ _ us hl => match us, hl with | [_, _], _ => rfl⟩
  have F10 := fun_mk (st := sstep) l10 c10 k10
  have Tstep : Top K mg "step" sstep ["numbers", "n"] := ⟨_, _, F10, PySem.W.mg_of X G a10, F10.binds fun _ _ _ _ _ _ us hl => match us, hl with | [_, _], _ => rfl⟩
  have F11 := fun_mk (st := slaw_sets_asked) l11 c11 k11
  have Tlaw_sets_asked : Top K mg "_law_sets_asked" slaw_sets_asked ["way", "one", "other", "n"] := ⟨_, _, F11, PySem.W.mg_of X G a11, F11.binds fun _ _ _ _ _ _ us hl => match us, hl with | [_, _, _, _], _ => rfl⟩
  have F12 := fun_mk (st := sstretch) l12 c12 k12
  have Tstretch : Top K mg "stretch" sstretch ["numbers", "n"] := ⟨_, _, F12, PySem.W.mg_of X G a12, F12.binds fun _ _ _ _ _ _ us hl => match us, hl with | [_, _], _ => rfl⟩
  have F13 := fun_mk (st := swider) l13 c13 k13
  have Twider : Top K mg "wider" swider ["rows", "number", "n"] := ⟨_, _, F13, PySem.W.mg_of X G a13, F13.binds fun _ _ _ _ _ _ us hl => match us, hl with | [_, _, _], _ => rfl⟩
  have F14 := fun_mk (st := slayers) l14 c14 k14
  have Tlayers : Top K mg "layers" slayers ["numbers", "n"] := ⟨_, _, F14, PySem.W.mg_of X G a14, F14.binds fun _ _ _ _ _ _ us hl => match us, hl with | [_, _], _ => rfl⟩
  have F15 := fun_mk (st := schoose) l15 c15 k15
  have Tchoose : Top K mg "choose" schoose ["numbers", "count", "wanted", "n"] := ⟨_, _, F15, PySem.W.mg_of X G a15, F15.binds fun _ _ _ _ _ _ us hl => match us, hl with | [_, _, _, _], _ => rfl⟩
  have F16 := fun_mk (st := stable) l16 c16 k16
  have Ttable : Top K mg "table" stable ["numbers", "n"] := ⟨_, _, F16, PySem.W.mg_of X G a16, F16.binds fun _ _ _ _ _ _ us hl => match us, hl with | [_, _], _ => rfl⟩
  have F17 := fun_mk (st := sbarren) l17 c17 k17
  have Tbarren : Top K mg "barren" sbarren ["n"] := ⟨_, _, F17, PySem.W.mg_of X G a17, F17.binds fun _ _ _ _ _ _ us hl => match us, hl with | [_], _ => rfl⟩
  have F18 := fun_mk (st := sgroups) l18 c18 k18
  have Tgroups : Top K mg "groups" sgroups ["numbers", "n"] := ⟨_, _, F18, PySem.W.mg_of X G a18, F18.binds fun _ _ _ _ _ _ us hl => match us, hl with | [_, _], _ => rfl⟩
  have F19 := fun_mk (st := slaw_lists_asked) l19 c19 k19
  have Tlaw_lists_asked : Top K mg "_law_lists_asked" slaw_lists_asked ["way", "one", "count", "n"] := ⟨_, _, F19, PySem.W.mg_of X G a19, F19.binds fun _ _ _ _ _ _ us hl => match us, hl with | [_, _, _, _], _ => rfl⟩
  have F20 := fun_mk (st := slaw_marks) l20 c20 k20
  have Tlaw_marks : Top K mg "_law_marks" slaw_marks ["way", "one", "other", "count", "n"] := ⟨_, _, F20, PySem.W.mg_of X G a20, F20.binds fun _ _ _ _ _ _ us hl => match us, hl with | [_, _, _, _, _], _ => rfl⟩
  have F21 := fun_mk (st := slaw) l21 c21 k21
  have Tlaw : Top K mg "law" slaw ["script"] := ⟨_, _, F21, PySem.W.mg_of X G a21, F21.binds fun _ _ _ _ _ _ us hl => match us, hl with | [_], _ => rfl⟩
  refine ⟨PySem.W.fnOf "law" "law" (defArgs slaw) (defBody slaw) (defScope slaw) .none kV21 dc21 pm21 an21 cd21 ct21, fun s v => .of_eq rfl, fun base _ _ => ?_⟩
  have claw_number_by := oklaw_number_by (P := l.prog) (w := w) (base := base) Tlaw_number_by
  have claw_cell_at := oklaw_cell_at (P := l.prog) (w := w) (base := base) Tlaw_cell_at nb
  have claw_numbers := oklaw_numbers (P := l.prog) (w := w) (base := base) Tlaw_numbers nb claw_cell_at claw_number_by
  have claw_bad_round := oklaw_bad_round (P := l.prog) (w := w) (base := base) Tlaw_bad_round
  have csee_round := oksee_round (P := l.prog) (w := w) (base := base) Tsee_round cGREATEST xBadRound
  have crests := okrests (P := l.prog) (w := w) (base := base) Trests nb csee_round
  have csums := oksums (P := l.prog) (w := w) (base := base) Tsums crests
  have cshifted := okshifted (P := l.prog) (w := w) (base := base) Tshifted csee_round crests
  have cstays := okstays (P := l.prog) (w := w) (base := base) Tstays nb crests cshifted
  have cstep := okstep (P := l.prog) (w := w) (base := base) Tstep nb crests cshifted
  have claw_sets_asked := oklaw_sets_asked (P := l.prog) (w := w) (base := base) Tlaw_sets_asked crests csums cshifted cstays cstep
  have cstretch := okstretch (P := l.prog) (w := w) (base := base) Tstretch nb csee_round
  have cwider := okwider (P := l.prog) (w := w) (base := base) Twider nb
  have clayers := oklayers (P := l.prog) (w := w) (base := base) Tlayers nb cwider
  have cchoose := okchoose (P := l.prog) (w := w) (base := base) Tchoose nb csee_round clayers
  have ctable := oktable (P := l.prog) (w := w) (base := base) Ttable nb csee_round clayers
  have cbarren := okbarren (P := l.prog) (w := w) (base := base) Tbarren nb csee_round
  have cgroups := okgroups (P := l.prog) (w := w) (base := base) Tgroups nb csee_round cchoose
  have claw_lists_asked := oklaw_lists_asked (P := l.prog) (w := w) (base := base) Tlaw_lists_asked cstretch cchoose ctable cbarren cgroups
  have claw_marks := oklaw_marks (P := l.prog) (w := w) (base := base) Tlaw_marks nb xBadRound xBadText xRestError cg claw_sets_asked claw_lists_asked
  exact oklaw F21 nb claw_cell_at claw_numbers claw_bad_round claw_marks
end Sr
open PySem PySem.W PyProof.Rows
set_option maxRecDepth 100000 in
set_option maxHeartbeats 0 in
theorem PySem.Challenge.cw_sumrests_k11_rounds_refused_holds : PySem.Challenge.rw_sumrests_k11_rounds_refused.Holds := by
  w_on; o_law; k_head; (case hw => w_witness2)
  k_fill
  refine L2.walk_of (l := PySem.Challenge.rw_sumrests_k11_rounds_refused) (n := 63) (k := 7) (x := "script") (CX := fun _ => L2.CX0) (sp := fun w => Sr.spLaw _) rfl (by decide) rfl ⟨rfl, by decide, by decide⟩ (fun w h Y => PySem.W.kIn_of Y) ?F (fun _ _ a ns hl _ hS => ⟨a, ns, rfl, hS, hl, fun _ => rfl⟩) (fun _ _ _ _ _ h => h)
  case F =>
    intro w mg fa h KX G hmg
    refine' Sr.all_mk KX G hmg ?a1 ?l1 ?c1 ?k1 ?a2 ?l2 ?c2 ?k2 ?a3 ?l3 ?c3 ?k3 ?a4 ?l4 ?c4 ?k4 ?a5 ?l5 ?c5 ?k5 ?a6 ?l6 ?c6 ?k6 ?a7 ?l7 ?c7 ?k7 ?a8 ?l8 ?c8 ?k8 ?a9 ?l9 ?c9 ?k9 ?a10 ?l10 ?c10 ?k10 ?a11 ?l11 ?c11 ?k11 ?a12 ?l12 ?c12 ?k12 ?a13 ?l13 ?c13 ?k13 ?a14 ?l14 ?c14 ?k14 ?a15 ?l15 ?c15 ?k15 ?a16 ?l16 ?c16 ?k16 ?a17 ?l17 ?c17 ?k17 ?a18 ?l18 ?c18 ?k18 ?a19 ?l19 ?c19 ?k19 ?a20 ?l20 ?c20 ?k20 ?a21 ?l21 ?c21 ?k21 ?z1 ?z2 ?z3 ?z4 ?z5 ?z6 ?z7 ?z8 ?z9 ?z10 ?z11 ?z12 ?z13 ?z14 ?z15 ?gGREATEST ?gRestError ?xRestError ?yRestError ?bRestError ?tRestError ?gBadRound ?xBadRound ?yBadRound ?bBadRound ?tBadRound ?gBadText ?xBadText ?yBadText ?bBadText ?tBadText ?zVE ?dRE ?sRE ?m1 ?m2 ?m4 ?m5 ?m6 ?m7 ?m8 ?v1 ?v2 ?v3 ?dBT
    (case a1 => k_is); (case l1 => k_is); (case c1 => k_is); (case k1 => k_is); (case a2 => k_is); (case l2 => k_is)
    (case c2 => k_is); (case k2 => k_is); (case a3 => k_is); (case l3 => k_is); (case c3 => k_is); (case k3 => k_is)
    (case a4 => k_is); (case l4 => k_is); (case c4 => k_is); (case k4 => k_is); (case a5 => k_is); (case l5 => k_is)
    (case c5 => k_is); (case k5 => k_is); (case a6 => k_is); (case l6 => k_is); (case c6 => k_is); (case k6 => k_is)
    (case a7 => k_is); (case l7 => k_is); (case c7 => k_is); (case k7 => k_is); (case a8 => k_is); (case l8 => k_is)
    (case c8 => k_is); (case k8 => k_is); (case a9 => k_is); (case l9 => k_is); (case c9 => k_is); (case k9 => k_is)
    (case a10 => k_is); (case l10 => k_is); (case c10 => k_is); (case k10 => k_is); (case a11 => k_is); (case l11 => k_is)
    (case c11 => k_is); (case k11 => k_is); (case a12 => k_is); (case l12 => k_is); (case c12 => k_is); (case k12 => k_is)
    (case a13 => k_is); (case l13 => k_is); (case c13 => k_is); (case k13 => k_is); (case a14 => k_is); (case l14 => k_is)
    (case c14 => k_is); (case k14 => k_is); (case a15 => k_is); (case l15 => k_is); (case c15 => k_is); (case k15 => k_is)
    (case a16 => k_is); (case l16 => k_is); (case c16 => k_is); (case k16 => k_is); (case a17 => k_is); (case l17 => k_is)
    (case c17 => k_is); (case k17 => k_is); (case a18 => k_is); (case l18 => k_is); (case c18 => k_is); (case k18 => k_is)
    (case a19 => k_is); (case l19 => k_is); (case c19 => k_is); (case k19 => k_is); (case a20 => k_is); (case l20 => k_is)
    (case c20 => k_is); (case k20 => k_is); (case a21 => k_is); (case l21 => k_is); (case c21 => k_is); (case k21 => k_is)
    (case z1 => k_is); (case z2 => k_is); (case z3 => k_is); (case z4 => k_is); (case z5 => k_is); (case z6 => k_is)
    (case z7 => k_is); (case z8 => k_is); (case z9 => k_is); (case z10 => k_is); (case z11 => k_is); (case z12 => k_is)
    (case z13 => k_is); (case z14 => k_is); (case z15 => k_is); (case gGREATEST => k_is); (case gRestError => k_is); (case xRestError => k_exc)
    (case yRestError => k_is); (case bRestError => k_is); (case tRestError => k_is); (case gBadRound => k_is); (case xBadRound => k_exc); (case yBadRound => k_is)
    (case bBadRound => k_is); (case tBadRound => k_is); (case gBadText => k_is); (case xBadText => k_exc); (case yBadText => k_is); (case bBadText => k_is)
    (case tBadText => k_is); (case zVE => k_is); (case dRE => k_is); (case sRE => k_is); (case m1 => k_is); (case m2 => k_is)
    (case m4 => k_is); (case m5 => k_is); (case m6 => k_is); (case m7 => k_is); (case m8 => k_is); (case v1 => k_is)
    (case v2 => k_is); (case v3 => k_is); (case dBT => k_is)
