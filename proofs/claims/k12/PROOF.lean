import PyProof.Rows.All
import Wide.All
import OpenK.AllK
import Wide.FinOn
import HandS.ForMost
import HandS.ForExc
import HandS.Evl
import HandS.Strs
import HandS.SetFor
import HandS.IsInst
import HandS.Conv
import HandS.Zip
import HandS.Style
import HandS.StrMore
import KE.KEqDeep
import PySem.Challenge.RW_sumrests_k12_lists_written
set_option Elab.async false
set_option linter.all false
set_option maxRecDepth 100000
set_option maxHeartbeats 4000000
namespace SrSet
open PySem PySem.Spec PyProof.Rows L2
/-! ### set(xs) of a list of ints, told as SetR tells it -/
/-- the object that a new set is -/
abbrev fresh (w : World) : Obj := { cls := .type "set", dict := none, data := .set #[] 0 (.fresh 0 0 (!w.params.followText "set-order")) }
section
variable {P : Program} {w : World} {A : Around} {E : Value → Shared → Prop} {s : Shared}
/-- what filling leaves of a new set at p -/
def Filled (w : World) (s s2 : Shared) (p : Addr) (ns : List Int) : Prop :=
  ∃ (h' : Heap) (tk c : Nat), s2 = { s with heap := h', toks := tk } ∧ SetR w h' p (fun j => decide (j ∈ ns)) c ∧ ∀ b o, s.heap.get? b = some o → h'.get? b = some o
/-- the items are walked into the new set, which stands at the heap's end ahead of the iterator -/
theorem fill {l : Addr} {items : Array Value} {ns : List Int} (hh : A.handled = none) (hl : s.heap.IsList l items) (hi : IntsAre items.toList ns) (hb : ns.length + 1 < scanBound)
    {R : Result → Shared → Prop} (k : ∀ s2, Filled w s s2 s.heap.objs.size ns → R (.ok (.ret .none)) s2) {h1 : Heap} {tk1 : Nat} {it : Addr} (ei : it = s.heap.objs.size + 1)
    (e1 : h1 = (s.heap.push (fresh w)).push { cls := .type "list_iterator", data := .fields #[.ref l, .int 0 0] }) :
    codeAny (model P w) A (.builtin "set.update.loop" ⟨[.ref s.heap.objs.size, .ref it], []⟩) R { s with heap := h1, toks := tk1 } := by
  subst ei
  have len : items.size = ns.length := by
    have q := IntsAre.length hi
    rwa [Array.length_toList] at q
  have lt : l < s.heap.objs.size := by
    obtain ⟨o, ho, _⟩ := hl
    exact Heap.lt_size ho
  have z1 : (s.heap.push (fresh w)).objs.size = s.heap.objs.size + 1 := Heap.size_push ..
  have at0 : h1.get? s.heap.objs.size = some (fresh w) := by
    rw [e1]
    exact Heap.get?_push_of_some _ (Heap.get?_push_size _ rfl)
  have vals : ∀ (i : Nat) (v : Value), items[i]? = some v → ∃ k t, ns[i]? = some k ∧ v = .int k t := fun i v hv => by
    have hlt : i < ns.length := by
      rw [← len]
      exact (Array.getElem?_eq_some_iff.mp hv).1
    obtain ⟨t, e⟩ := IntsAre.int_at hi i v (by rw [Array.getElem?_toList]; exact hv)
    have g : ns[i]? = some (ns.getD i 0) := by
      rw [List.getD_eq_getElem?_getD, List.getElem?_eq_getElem hlt]
      rfl
    exact ⟨_, t, g, e⟩
  have apart : l ≠ s.heap.objs.size + 1 := Nat.ne_of_lt (Nat.lt_succ_of_lt lt)
  refine set_update_ints ((Walks.list (by simpa using hh) _ l apart items).toS) s.heap.objs.size (fun m => ?_) ns len hb vals (items.size - 0) 0 { s with heap := h1, toks := tk1 } rfl (Nat.zero_le _) ?_ ⟨0, Nat.le_refl 0, setR_new_at at0⟩ fun s' c hm hc hS => ?_
  · rcases List.mem_cons.mp m with z | z
    · exact absurd z (Nat.ne_of_lt (Nat.lt_succ_self _))
    · exact absurd (List.mem_singleton.mp z).symm (Nat.ne_of_lt lt)
  · subst e1
    have g : ((s.heap.push (fresh w)).push { cls := .type "list_iterator", data := .fields #[.ref l, .int 0 0] }).get? (s.heap.objs.size + 1) = some { cls := .type "list_iterator", data := .fields #[.ref l, .int 0 0] } := by
      rw [← z1]
      exact Heap.get?_push_size _ rfl
    exact ⟨⟨_, g, rfl, rfl⟩, (hl.push _).push _⟩
  · refine k s' ⟨s'.heap, s'.toks, c, ?_, hS, fun b o e => ?_⟩
    · obtain ⟨h', g2, d', tk', os'⟩ := s'
      have eg : g2 = s.gens := hm.gens
      have ed : d' = s.drawn := hm.drawn
      have eo : os' = s.os := hm.os
      rw [eg, ed, eo]
    · have hb0 : b < s.heap.objs.size := Heap.lt_size e
      refine hm.heap b o (fun m => ?_) ?_
      · rcases List.mem_cons.mp m with z | z
        · exact absurd z (Nat.ne_of_lt hb0)
        · exact absurd (List.mem_singleton.mp z) (Nat.ne_of_lt (Nat.lt_succ_of_lt hb0))
      · rw [e1]
        exact Heap.get?_push_of_some _ (Heap.get?_push_of_some _ e)
theorem made {l : Addr} {items : Array Value} {ns : List Int} {Q : Value → Shared → Prop} (hh : A.handled = none) (hl : s.heap.IsList l items) (hi : IntsAre items.toList ns) (hb : ns.length + 1 < scanBound)
    (k : ∀ s2, Filled w s s2 s.heap.objs.size ns → Q (.ref s.heap.objs.size) s2) : wpAny (model P w) A (call (.type "set") [.ref l]) Q E s := by
  obtain ⟨c, tl, hmro⟩ := F.called_set.mro
  have m1 := F.called_set.made
  have m2 := F.called_set.sub
  refine wpAny_call (codeAny_of_tree ?_)
  show wpAny _ _ (callAny (.type "set") _) _ _ _
  refine wpAny_pure ⟨Code.quiet_builtin _ (by decide +kernel), codeAny_builtin F.entry_type_call ?_⟩
  rw [Around.under_plain (weight_type_call_type "set" [.ref l] []) rfl]
  have t1 := F.called_set.notType
  have t2 := F.called_set.canCreate
  have t3 := F.typeCall_set_1 (.ref l)
  repeat (any_goals (first | assumption | wp_step))
  refine codeAny_mono (code_set_led1 (.ref l) (E := E) (Q₁ := fun obj s₁ => obj = .ref s.heap.objs.size ∧ s₁ = { s with heap := s.heap.push (fresh w) }) ⟨rfl, rfl⟩) fun r s₁ hr => ?_
  match r, hr with
  | .error e, hr => exact hr
  | .ok (.ret obj), hr =>
    obtain ⟨rfl, rfl⟩ := hr
    have g0 : (s.heap.push (fresh w)).get? s.heap.objs.size = some (fresh w) := Heap.get?_push_size _ rfl
    have hT : Shared.TypeIs { s with heap := s.heap.push (fresh w) } (.ref s.heap.objs.size) "set" := ⟨_, g0, rfl⟩
    have i1 := F.called_set.init.lookup
    have i2 := F.called_set.init.bind (.ref s.heap.objs.size)
    repeat (any_goals (first | assumption | wp_step))
    refine codeAny_mono (codeAny_call_builtin (R := wants (fun r s2 => r = .none ∧ Filled w s s2 s.heap.objs.size ns) E) F.called_set.init.plain F.entry_set_init (check_set_init_1 hT ?_)) fun r₂ s₂ h₂ => ?_
    · have b1 := F.sub_list_set
      have b2 := F.sub_list_frozenset
      have b3 : (Value.type "list" == Value.type "dict") = false := by decide
      obtain ⟨⟨oc, od, dt, sl⟩, ho, hc, n, hd⟩ := id hl
      simp only at hc hd
      subst hc hd
      have g1 : (s.heap.push (fresh w)).get? l = some ⟨.type "list", od, .seq items n, sl⟩ := Heap.get?_push_of_some _ ho
      unfold Builtin.«set.__init__» noKeywords Builtin.Frozenset.updateFrom
      generalize eI : pyIter = It
      wp_walk
      subst eI
      refine wpAny_pyIter_list (hl.push _) ?_
      refine wpAny_bind (wpAny_runValue ?_)
      refine fill (A := A.in1.in1) (tk1 := s.toks) (by simpa using hh) hl hi hb (fun s2 hF => ?_) (Heap.size_push ..) rfl
      show wpAny _ _ _ _ _ _
      refine wpAny_pure ?_
      show wpAny _ _ (ret Value.none) _ _ _
      exact wpAny_pure ⟨rfl, hF⟩
    · match r₂, h₂ with
      | .error e, h₂ => exact h₂
      | .ok (.ret v), h₂ =>
        obtain ⟨rfl, hF⟩ := h₂
        repeat (any_goals (first | assumption | wp_step))
        exact k _ hF
      | .ok .next, h₂ => exact h₂.elim
      | .ok .brk, h₂ => exact h₂.elim
      | .ok .cont, h₂ => exact h₂.elim
  | .ok .next, hr => exact hr.elim
  | .ok .brk, hr => exact hr.elim
  | .ok .cont, hr => exact hr.elim
end
/-! ### over the layer -/
theorem nodup_len : ∀ (xs ys : List Int), xs.Nodup → (∀ x ∈ xs, x ∈ ys) → xs.length ≤ ys.length
  | [], _, _, _ => Nat.zero_le _
  | x :: xs, ys, h, m => by
    obtain ⟨h1, h2⟩ := List.nodup_cons.mp h
    have hx : x ∈ ys := m x List.mem_cons_self
    have e := List.length_erase_of_mem hx
    have hp : 0 < ys.length := List.length_pos_of_mem hx
    have ih := nodup_len xs (ys.erase x) h2 fun y hy => (List.mem_erase_of_ne fun z => h1 (by rw [← z]; exact hy)).mpr (m y (List.mem_cons_of_mem _ hy))
    rw [List.length_cons]
    omega
theorem sortedEq : ∀ (xs ys : List Int), xs.Pairwise (· < ·) → ys.Pairwise (· < ·) → (∀ k, k ∈ xs ↔ k ∈ ys) → xs = ys
  | [], [], _, _, _ => rfl
  | [], y :: ys, _, _, m => absurd ((m y).mpr List.mem_cons_self) (by simp)
  | x :: xs, [], _, _, m => absurd ((m x).mp List.mem_cons_self) (by simp)
  | x :: xs, y :: ys, hx, hy, m => by
    obtain ⟨x1, x2⟩ := List.pairwise_cons.mp hx
    obtain ⟨y1, y2⟩ := List.pairwise_cons.mp hy
    have e : x = y := by
      rcases List.mem_cons.mp ((m x).mp List.mem_cons_self) with e | e
      · exact e
      · rcases List.mem_cons.mp ((m y).mpr List.mem_cons_self) with z | z
        · exact z.symm
        · have a := y1 x e
          have b := x1 y z
          omega
    subst e
    rw [sortedEq xs ys x2 y2 fun k => ?_]
    constructor
    · intro hk
      rcases List.mem_cons.mp ((m k).mp (List.mem_cons_of_mem _ hk)) with z | z
      · exact absurd (x1 k hk) (by omega)
      · exact z
    · intro hk
      rcases List.mem_cons.mp ((m k).mpr (List.mem_cons_of_mem _ hk)) with z | z
      · exact absurd (y1 k hk) (by omega)
      · exact z
section
variable {X : Cx}
/-- set(xs), xs a list of ints; c: how many differ -/
def rSetOfL (K : PySem.W.Frag) (w : World) : List V → Hp → VK → Prop := fun xs H Q => ∃ (l : Addr) (ns : List Int), xs = [.ref l] ∧ SqL K H l (ns.map V.int) ∧ ns.length ≤ 2000 ∧
  ∀ (p : Addr) (ks : List Int), ks.Nodup → (∀ k, k ∈ ks ↔ k ∈ ns) → H p = none → Q (.ref p) (upd H p (SetO w p (fun j => decide (j ∈ ns)) ks.length))
theorem cr_setOfL (hc : X.calm = true) : CallR X (.type "set") (rSetOfL X.K X.w) := by
  intro pins s σ H xs us Q I r h
  obtain ⟨l, ns, rfl, hq, hl, q⟩ := h
  rw [Vals.ref1 r]
  obtain ⟨its, rv, pl, hz⟩ := I.list hq
  have hi : IntsAre its.toArray.toList ns := ints_of_vals (by simpa using rv)
  refine made (I.ok.hd hc) pl.isList hi (by unfold scanBound; omega) fun s2 hF => ?_
  obtain ⟨h', tk, c, rfl, hS, k⟩ := hF
  obtain ⟨o, es, ep, t, ho, hex, hdt, g, nd, hm, hb, hf, hn, hr, hl2⟩ := id hS
  have hlen : (es.toList.map keyOf).length = c := by rw [List.length_map, Array.length_toList]; exact hn
  have hmem : ∀ j, j ∈ es.toList.map keyOf ↔ j ∈ ns := fun j => by
    rw [← hm j, decide_eq_true_eq]
  have q2 := q s.heap.objs.size (es.toList.map keyOf) nd hmem (I.hok.fresh (Nat.le_refl _))
  rw [hlen] at q2
  exact ⟨.ref _, _, I.laid (t' := tk) k (Nat.le_refl _) (setO_new hS), rfl, q2⟩
open Evl in
/-- sorted(set(xs)) of a new list of ints below a bound -/
theorem el_sortedSet {K : PySem.W.Frag} {w : World} {te : TE} {σ : L2.St} {H : Hp} {ns ys : List Int} {b : Nat} (h : EvL te σ H (ns.map V.int)) (hl : ns.length ≤ 2000) (hb : b < 64) (hk : ∀ k ∈ ns, 0 ≤ k ∧ k < (b : Int)) (hy : ys.Pairwise (· < ·)) (hm : ∀ k, k ∈ ys ↔ k ∈ ns) :
    EvL (tCB (rSortedSet w) (tCons (tCB (rSetOfL K w) (tCons te tNil)) tNil)) σ H (ys.map V.int) := fun H1 e Q q =>
  h H1 e _ fun p H2 hp e2 h2 => ⟨p, ns, rfl, sq_of h2, hl, fun s ks nd hks hs => ⟨s, _, ks.length, rfl, upd_same, by
      refine Nat.lt_of_le_of_lt (nodup_len ks ((List.range b).map fun i : Nat => (i : Int)) nd fun x hx => ?_) (by rw [List.length_map, List.length_range]; exact hb)
      obtain ⟨h0, h1⟩ := hk x ((hks x).mp hx)
      exact List.mem_map.mpr ⟨x.toNat, List.mem_range.mpr (by omega), by omega⟩,
    fun zs r hz hzm hzl hr => by
      have e3 : Ex H2 (upd H2 s (SetO w s (fun j => decide (j ∈ ns)) ks.length)) := Ex.new hs
      have ez : zs = ys := sortedEq zs ys hz hy fun k => by rw [hzm, hm, decide_eq_true_eq]
      subst ez
      exact q r _ (fresh_back (e2.trans e3) hr) ((e2.trans e3).trans (Ex.new hr)) upd_same⟩⟩
end
end SrSet
namespace Sr
open PySem PySem.Spec PyProof.Rows L2 Evl
/-! ### what a def of the text is worth to its callers: by its name in the module -/
def CalX (CX : CXT) (P : Program) (w : World) (K : PySem.W.Frag) (mg : Str → Option Value) (base : Heap) (x : Str) (k : Nat) (ps : List Str) (sp : Sp) : Prop :=
  ∃ (f : Addr) (fd : FuncData), FnOk P w K mg base CX k f fd ps sp ∧ mg x = some (.ref f) ∧ PySem.W.keepIn K (.ref f) = true ∧ Binds K fd ps []
/-- no exception leaves it; one may -/
abbrev Cal0 (P : Program) (w : World) := CalX CX0 P w
abbrev CalE (P : Program) (w : World) := CalX (L2.CX P w) P w
/-- a def as the top has left it -/
def Top (K : PySem.W.Frag) (mg : Str → Option Value) (x : Str) (st : Stmt) (ps : List Str) : Prop := ∃ (f : Addr) (fd : FuncData), Fun K x x st f fd ∧ mg x = some (.ref f) ∧ Binds K fd ps []
/-- the built-in names stand for themselves -/
structure NB (mg : Str → Option Value) : Prop where
  len : mg "len" = none
  range : mg "range" = none
  sorted : mg "sorted" = none
  set : mg "set" = none
  list : mg "list" = none
  dict : mg "dict" = none
  sum : mg "sum" = none
  min : mg "min" = none
  max : mg "max" = none
  abs : mg "abs" = none
  isinstance : mg "isinstance" = none
  str : mg "str" = none
  int : mg "int" = none
  bool : mg "bool" = none
  tuple : mg "tuple" = none
/-- a constant of the module -/
structure Cst (mg : Str → Option Value) (x : Str) (v : V) (u : Value) : Prop where
  gm : mg x = some u
  rel : RelV v u
/-- an own exception class over ValueError, without an __init__ -/
structure Exc (K : PySem.W.Frag) (mg : Str → Option Value) (x : Str) (C : Addr) : Prop where
  gC : mg x = some (.ref C)
  x : PySem.W.excIn K C [.type "ValueError", .type "Exception", .type "BaseException", .type "object"] "ValueError.__new__" = true
  k : PySem.W.keepIn K (.ref C) = true
  b : PySem.W.subIn K (.ref C) (.type "BaseException") = some true
  t : PySem.W.typeIn K (.ref C) = some (.type "type")
section
variable {X : Cx}
theorem pe_cal {CX : CXT} {x : Str} {k : Nat} {ps : List Str} {sp : Sp} {E : XK} {e : Expr} {es : List Expr} {t : TA} {p pos : Pos} (C : CalX CX X.prog X.w X.K X.mg X.base x k ps sp) (hr : Room k X.A) (hx : Passes CX X E) (ha : PA X (e :: es) t) (hg : Gl X x := by rfl)
    (hdb : (x == ("__debug__" : Str)) = false := by decide) (he : starEach (e :: es) X.env = (false, eval e X.env) :: starEach es X.env := by rfl) (hpl : (backTo pos (starEach es X.env)).any (·.1) = false := by rfl) :
    PE X (.Call (.Name x p) (e :: es) [] pos) (tCall sp [] E t) := by
  obtain ⟨f, fd, F, hm, hk, hb⟩ := C
  exact pe_call F hr hg hm hk hb .nil hx ha hdb he hpl
/-- // by a positive number below 2 ^ 30 -/
theorem op_fdivP : OpR X (binaryOp .FloorDiv) (rI CDiv fun i j => .int (i / j)) := op_fdiv
/-- a op1 b op2 c op3 d, as a test -/
def tCh3 (r1 r2 r3 : R2) (ta tb tc td : TE) : TT := fun σ H Q => ta σ H fun x H1 => tb σ H1 fun y H2 => r1 x y H2 fun z H3 => ∃ k, z = .bl k ∧
  (if k = true then tc σ H3 fun u H4 => r2 y u H4 fun z2 H5 => ∃ k2, z2 = .bl k2 ∧ (if k2 = true then td σ H5 fun v H6 => r3 u v H6 fun z3 H7 => ∃ k3, z3 = .bl k3 ∧ Q k3 H7 else Q false H5) else Q false H3)
theorem pt_chain3 {o1 o2 o3 : CmpOp} {r1 r2 r3 : R2} {a b c d : Expr} {ta tb tc td : TE} {pos : Pos} (h1 : OpR X (compareOp o1) r1) (h2 : OpR X (compareOp o2) r2) (h3 : OpR X (compareOp o3) r3) (ha : PE X a ta) (hb : PE X b tb) (hc : PE X c tc) (hd : PE X d td)
    (hm : lastMarks [o1, o2, o3] [b, c, d] = false := by with_unfolding_all rfl) : PT X (.Compare a [o1, o2, o3] [b, c, d] pos) (tCh3 r1 r2 r3 ta tb tc td) := by
  refine ⟨fun pins s σ H Q I h => ?_⟩
  refine isTrue_chain (thn (ha.run pins s σ H _ I h) fun v s1 ⟨x, H1, I1, rx, q1⟩ => ?_) hm
  refine test_link (thn (hb.run pins s1 σ H1 _ I1 q1) fun u s2 ⟨y, H2, I2, ry, q2⟩ => thn (h1 pins s2 σ H2 x y v u _ I2 rx ry q2) fun e s3 hh => ?_)
  obtain ⟨z, H3, I3, rz, k, ez, q3⟩ := hh
  subst ez
  cases rz
  refine wpAny_truthy_bool ?_
  cases k with
  | false => exact ite_ff ⟨H3, I3, q3⟩
  | true =>
    refine ite_tt (test_link (thn (hc.run pins s3 σ H3 _ I3 q3) fun u4 s4 ⟨y4, H4, I4, r4, q4⟩ => thn (h2 pins s4 σ H4 y y4 u u4 _ I4 ry r4 q4) fun e5 s5 hh => ?_))
    obtain ⟨z5, H5, I5, r5, k5, e5, q5⟩ := hh
    subst e5
    cases r5
    refine wpAny_truthy_bool ?_
    cases k5 with
    | false => exact ite_ff ⟨H5, I5, q5⟩
    | true =>
      refine ite_tt (test_last (thn (hd.run pins s5 σ H5 _ I5 q5) fun u6 s6 ⟨y6, H6, I6, r6, q6⟩ => thn (h3 pins s6 σ H6 y4 y6 u4 u6 _ I6 r4 r6 q6) fun e7 s7 hh => ?_))
      obtain ⟨z7, H7, I7, r7, k7, e7, q7⟩ := hh
      subst e7
      cases r7
      exact wpAny_truthy_bool ⟨H7, I7, q7⟩
end
/-! the layer's rules that speak of the written part, by its own name (so that they serve within a comprehension's block) -/
section
variable {X : Cx} (K : PySem.W.Frag)
theorem k_len (hK : X.K = K := by rfl) : CallR X (.builtin "len") (fun xs H Q => ∃ p ys, xs = [.ref p] ∧ (SqL K H p ys ∨ SqT K H p ys) ∧ Q (.int ys.length) H) := by
  subst hK
  exact call_len_seq
theorem k_listof (hK : X.K = K := by rfl) : CallR X (.type "list") (fun xs H Q => ∃ p ys, xs = [.ref p] ∧ (SqL K H p ys ∨ SqT K H p ys) ∧ ∀ l, H l = none → Q (.ref l) (upd H l (.lst ys))) := by
  subst hK
  exact call_list_of
theorem k_isi (hK : X.K = K := by rfl) : CallR X (.builtin "isinstance") (rIsi K) := by
  subst hK
  exact call_isi
theorem k_sorted (hK : X.K = K := by rfl) : CallR X (.builtin "sorted") (rSorted K) := by
  subst hK
  exact cr_sorted
theorem k_sum (hc : X.calm = true := by rfl) (hK : X.K = K := by rfl) : CallR X (.builtin "sum") (rSum K) := by
  subst hK
  exact cr_sum hc
theorem k_set (w : World) (hc : X.calm = true := by rfl) (hK : X.K = K := by rfl) (hw : X.w = w := by rfl) : CallR X (.type "set") (SrSet.rSetOfL K w) := by
  subst hK hw
  exact SrSet.cr_setOfL hc
theorem k_sortedSet (w : World) (hc : X.calm = true := by rfl) (hw : X.w = w := by rfl) : CallR X (.builtin "sorted") (rSortedSet w) := by
  subst hw
  exact cr_sortedSet hc
theorem k_ixL (hK : X.K = K := by rfl) : IxR X (rIxL K) := by
  subst hK
  exact ix_list
theorem k_ixT (hK : X.K = K := by rfl) : IxR X (rIxT K) := by
  subst hK
  exact ix_tup
theorem k_in (hK : X.K = K := by rfl) : OpR X (compareOp .In) (rIn K false) := by
  subst hK
  exact op_in_seq
theorem k_notIn (hK : X.K = K := by rfl) : OpR X (compareOp .NotIn) (rIn K true) := by
  subst hK
  exact op_notIn_seq
theorem k_eqD (hu : X.A.units + 64 < cLine) (hK : X.K = K := by rfl) : OpR X (compareOp .Eq) (rEqD K) := by
  subst hK
  exact op_eqD hu
theorem k_neD (hu : X.A.units + 64 < cLine) (hK : X.K = K := by rfl) : OpR X (compareOp .NotEq) (rNeD K) := by
  subst hK
  exact op_neD hu
theorem k_slL (hK : X.K = K := by rfl) : SlR X (rSlL K) := by
  subst hK
  exact sl_list
theorem k_rev {e : Expr} {te : TE} {k : Nat} {p1 p2 p3 pos : Pos} (he : PE X e te) (hK : X.K = K := by rfl) : PE X (.Subscript e (.Slice none none (some (.UnaryOp .USub (.Constant (.int 1) k p1) p2)) p3) pos) (tRevL K te) := by
  subst hK
  exact pe_revL he
theorem k_list {tg l : Expr} {tl : TE} (hl : PE X l tl) (hK : X.K = K := by rfl) : PI X tg l (iList K tl) := by
  subst hK
  exact pi_list hl
end
/-! ### more of Evl: what evaluates to what -/
section
variable {K : PySem.W.Frag} {σ : L2.St} {H H' : Hp} {ta tb te tx : TE} {t u : TT} {x y z v : V} {D : Ends} {tu tw tz : TS}
/-- comparisons as tests -/
theorem et_op {r : R2} {b : Bool} (ha : Ev ta σ H x) (hb : Ev tb σ H y) (hr : RV r x y H (.bl b)) : EvT (tTest (tOp r ta tb)) σ H b := et_test (ev_op ha hb hr)
theorem et_lt {i j : Int} (ha : Ev ta σ H (.int i)) (hb : Ev tb σ H (.int j)) : EvT (tTest (tOp (rI0 fun i j => .bl (decide (i < j))) ta tb)) σ H (decide (i < j)) := et_op ha hb rv_I0
theorem et_gt {i j : Int} (ha : Ev ta σ H (.int i)) (hb : Ev tb σ H (.int j)) : EvT (tTest (tOp (rI0 fun i j => .bl (decide (j < i))) ta tb)) σ H (decide (j < i)) := et_op ha hb rv_I0
theorem et_le {i j : Int} (ha : Ev ta σ H (.int i)) (hb : Ev tb σ H (.int j)) : EvT (tTest (tOp (rI0 fun i j => .bl (decide (i ≤ j))) ta tb)) σ H (decide (i ≤ j)) := et_op ha hb rv_I0
theorem et_ge {i j : Int} (ha : Ev ta σ H (.int i)) (hb : Ev tb σ H (.int j)) : EvT (tTest (tOp (rI0 fun i j => .bl (decide (j ≤ i))) ta tb)) σ H (decide (j ≤ i)) := et_op ha hb rv_I0
theorem decInt {i j : Int} : decide (V.int i = V.int j) = decide (i = j) := by
  rw [Bool.eq_iff_iff]
  simp
theorem et_eq {i j : Int} (ha : Ev ta σ H (.int i)) (hb : Ev tb σ H (.int j)) : EvT (tTest (tOp rEq ta tb)) σ H (decide (i = j)) := by
  have h := et_op ha hb (rv_eq (H := H) (x := .int i) (y := .int j) rfl)
  rw [decInt] at h
  exact h
theorem et_ne {i j : Int} (ha : Ev ta σ H (.int i)) (hb : Ev tb σ H (.int j)) : EvT (tTest (tOp rNe ta tb)) σ H (!decide (i = j)) := by
  have h := et_op ha hb (rv_ne (H := H) (x := .int i) (y := .int j) rfl)
  rw [decInt] at h
  exact h
theorem ev_eqI {i j : Int} (ha : Ev ta σ H (.int i)) (hb : Ev tb σ H (.int j)) : Ev (tOp rEq ta tb) σ H (.bl (decide (i = j))) := by
  have h := ev_op ha hb (rv_eq (H := H) (x := .int i) (y := .int j) rfl)
  rw [decInt] at h
  exact h
/-- arithmetic -/
theorem ev_mod {i j : Int} (ha : Ev ta σ H (.int i)) (hb : Ev tb σ H (.int j)) (hj : 0 < j) : Ev (tOp (rI (fun _ j => 0 < j) fun i j => .int (i % j)) ta tb) σ H (.int (i % j)) := ev_op ha hb (rv_I (C := fun _ j => 0 < j) hj)
theorem ev_add {i j : Int} (ha : Ev ta σ H (.int i)) (hb : Ev tb σ H (.int j)) : Ev (tOp (rI0 fun i j => .int (i + j)) ta tb) σ H (.int (i + j)) := ev_op ha hb rv_I0
theorem ev_sub {i j : Int} (ha : Ev ta σ H (.int i)) (hb : Ev tb σ H (.int j)) : Ev (tOp (rI0 fun i j => .int (i - j)) ta tb) σ H (.int (i - j)) := ev_op ha hb rv_I0
theorem ev_div {i j : Int} (ha : Ev ta σ H (.int i)) (hb : Ev tb σ H (.int j)) (hj : 0 < j) (hj' : j < 1073741824) : Ev (tOp (rI CDiv fun i j => .int (i / j)) ta tb) σ H (.int (i / j)) := ev_op ha hb (rv_I (C := CDiv) ⟨hj, hj'⟩)
theorem ev_mul {i j : Int} (ha : Ev ta σ H (.int i)) (hb : Ev tb σ H (.int j)) (h : CMul i j) : Ev (tOp (rI CMul fun i j => .int (i * j)) ta tb) σ H (.int (i * j)) := ev_op ha hb (rv_I (C := CMul) h)
theorem ev_pow {i j : Int} (ha : Ev ta σ H (.int i)) (hb : Ev tb σ H (.int j)) (h : CPow i j) : Ev (tOp (rI CPow fun i j => .int (i ^ j.toNat)) ta tb) σ H (.int (i ^ j.toNat)) := ev_op ha hb (rv_I (C := CPow) h)
theorem ev_negI {i : Int} (ha : Ev ta σ H (.int i)) : Ev (tUn (rU fun i => .int (-i)) ta) σ H (.int (-i)) := ev_un ha ru_neg
theorem ev_int {i j : Int} (h : Ev te σ H (.int i)) (e : i = j) : Ev te σ H (.int j) := by
  rw [← e]
  exact h
theorem ev_min {i j : Int} (ha : Ev ta σ H (.int i)) (hb : Ev tb σ H (.int j)) : Ev (tCB (fun xs H Q => ∃ i j, xs = [.int i, .int j] ∧ Q (.int (if j < i then j else i)) H) (tCons ta (tCons tb tNil))) σ H (.int (if j < i then j else i)) := fun H1 e Q q =>
  ha H1 e _ fun H2 e2 => hb H2 (e.trans e2) _ fun H3 e3 => ⟨i, j, rfl, q H3 (e2.trans e3)⟩
theorem ev_max {i j : Int} (ha : Ev ta σ H (.int i)) (hb : Ev tb σ H (.int j)) : Ev (tCB (fun xs H Q => ∃ i j, xs = [.int i, .int j] ∧ Q (.int (if j > i then j else i)) H) (tCons ta (tCons tb tNil))) σ H (.int (if j > i then j else i)) := fun H1 e Q q =>
  ha H1 e _ fun H2 e2 => hb H2 (e.trans e2) _ fun H3 e3 => ⟨i, j, rfl, q H3 (e2.trans e3)⟩
theorem ev_abs {i : Int} (ha : Ev ta σ H (.int i)) : Ev (tCB (fun xs H Q => ∃ i, xs = [.int i] ∧ Q (.int (if i < 0 then -i else i)) H) (tCons ta tNil)) σ H (.int (if i < 0 then -i else i)) := fun H1 e Q q =>
  ha H1 e _ fun H2 e2 => ⟨i, rfl, q H2 e2⟩
/-- len, list(..) of a list, an item: as the rules of the layer print them -/
theorem ev_lenL {p : Addr} {xs : List V} (ha : Ev ta σ H (.ref p)) (h : SqL K H p xs) : Ev (tCB (fun xs H Q => ∃ p ys, xs = [.ref p] ∧ (SqL K H p ys ∨ SqT K H p ys) ∧ Q (.int ys.length) H) (tCons ta tNil)) σ H (.int (xs.length : Int)) := ev_len ha h
theorem ev_lenNL {xs : List V} (ha : EvL ta σ H xs) : Ev (tCB (fun xs H Q => ∃ p ys, xs = [.ref p] ∧ (SqL K H p ys ∨ SqT K H p ys) ∧ Q (.int ys.length) H) (tCons ta tNil)) σ H (.int (xs.length : Int)) := ev_lenN ha
theorem el_listL {p : Addr} {xs : List V} (ha : Ev ta σ H (.ref p)) (h : SqL K H p xs) : EvL (tCB (fun xs H Q => ∃ p ys, xs = [.ref p] ∧ (SqL K H p ys ∨ SqT K H p ys) ∧ ∀ l, H l = none → Q (.ref l) (upd H l (.lst ys))) (tCons ta tNil)) σ H xs := el_list ha h
theorem ev_itemL {p : Addr} {xs : List V} {i : Int} (ha : Ev ta σ H (.ref p)) (hb : Ev tb σ H (.int i)) (h : SqL K H p xs) (hi : atI xs i = some v) : Ev (tOp (rIxL K) ta tb) σ H v := ev_op ha hb (rv_ixL h hi)
theorem ev_itemNL {xs : List V} {i : Int} (ha : EvL ta σ H xs) (hb : Ev tb σ H (.int i)) (hi : atI xs i = some v) : Ev (tOp (rIxL K) ta tb) σ H v :=
  ev_opL1 ha (fun _ e => hb.mono e) fun _ _ h _ => rv_ixL (sq_of h) hi
theorem atI_map {xs : List Int} {k : Int} (h0 : 0 ≤ k) (h1 : k < xs.length) : atI (xs.map V.int) k = some (.int (xs.getD k.toNat 0)) := by
  have e : k = ((k.toNat : Nat) : Int) := by omega
  have hlt : k.toNat < xs.length := by omega
  rw [e]
  refine atI_nat ?_
  rw [List.getElem?_map, List.getElem?_eq_getElem hlt]
  show some (V.int xs[k.toNat]) = some (V.int (xs.getD ((k.toNat : Nat) : Int).toNat 0))
  rw [Int.toNat_natCast, List.getD_eq_getElem?_getD, List.getElem?_eq_getElem hlt]
  rfl
/-- a call in an assignment, by its promise as it stands -/
theorem q_call {i : Nat} {sp : Sp} {E : XK} {ta : TA} {vs : List V} (h : EvA ta σ H vs) (k : ∀ H1, Ex H H1 → sp vs H1 (fun x H2 => tz D (σ.set i (some x)) H2) E) : tSeq (tAsg (tCall sp [] E ta) (gName i)) tz D σ H := h H (Ex.refl H) _ fun H1 e1 => by
  show sp (vs ++ []) H1 (fun x H2 => tz D (σ.set i (some x)) H2) E
  rw [List.append_nil]
  exact k H1 e1
theorem inV_int (k : Int) (ns : List Int) : inV (.int k) (ns.map V.int) = decide (k ∈ ns) := by
  unfold inV
  rw [Bool.eq_iff_iff, List.any_eq_true, decide_eq_true_eq]
  constructor
  · rintro ⟨x, hx, e⟩
    obtain ⟨z, hz, rfl⟩ := List.mem_map.mp hx
    have : z = k := by
      have e : (z == k) = true := e
      exact eq_of_beq e
    rw [← this]
    exact hz
  · intro h
    refine ⟨.int k, List.mem_map.mpr ⟨k, h, rfl⟩, ?_⟩
    show (k == k) = true
    exact beq_self_eq_true k
theorem q_callS {i : Nat} {sp : Sp} {E : XK} {ta : TA} {vs : List V} (h : EvA ta σ H vs) (k : ∀ H1, Ex H H1 → sp vs H1 (fun x H2 => D.nx (σ.set i (some x)) H2) E) : tAsg (tCall sp [] E ta) (gName i) D σ H := h H (Ex.refl H) _ fun H1 e1 => by
  show sp (vs ++ []) H1 (fun x H2 => D.nx (σ.set i (some x)) H2) E
  rw [List.append_nil]
  exact k H1 e1
theorem flat_ints (ns : List Int) : (ns.map V.int).all flatV = true := by
  rw [List.all_eq_true]
  intro x hx
  obtain ⟨z, _, rfl⟩ := List.mem_map.mp hx
  rfl
theorem s_rcall {sp : Sp} {E : XK} {ta : TA} {vs : List V} (h : EvA ta σ H vs) (k : ∀ H1, Ex H H1 → sp vs H1 D.rt E) : tRet (tCall sp [] E ta) D σ H := h H (Ex.refl H) _ fun H1 e1 => by
  show sp (vs ++ []) H1 D.rt E
  rw [List.append_nil]
  exact k H1 e1
/-- dicts with whole numbers as keys -/
theorem et_din {p : Addr} {kvs : List (Key × V)} {k : Int} (ha : Ev ta σ H (.int k)) (hb : Ev tb σ H (.ref p)) (hp : H p = some (.dK kvs)) : EvT (tB (tDIn ta tb)) σ H (valV kvs (Sum.inl k : Key)).isSome := fun H1 e _ q =>
  ha H1 e _ fun H2 e2 => hb H2 (e.trans e2) _ fun H3 e3 => ⟨p, _, rfl, DGet.k (k := Sum.inl k) (((e.trans e2).trans e3) _ _ hp), _, rfl, q H3 (e2.trans e3)⟩
theorem et_dnotin {p : Addr} {kvs : List (Key × V)} {k : Int} (ha : Ev ta σ H (.int k)) (hb : Ev tb σ H (.ref p)) (hp : H p = some (.dK kvs)) : EvT (tB (tDNotIn ta tb)) σ H (!(valV kvs (Sum.inl k : Key)).isSome) := fun H1 e _ q =>
  ha H1 e _ fun H2 e2 => hb H2 (e.trans e2) _ fun H3 e3 => ⟨p, _, rfl, DGet.k (k := Sum.inl k) (((e.trans e2).trans e3) _ _ hp), _, rfl, q H3 (e2.trans e3)⟩
theorem ev_dnotin {p : Addr} {kvs : List (Key × V)} {k : Int} (ha : Ev ta σ H (.int k)) (hb : Ev tb σ H (.ref p)) (hp : H p = some (.dK kvs)) : Ev (tDNotIn ta tb) σ H (.bl (!(valV kvs (Sum.inl k : Key)).isSome)) := fun H1 e _ q =>
  ha H1 e _ fun H2 e2 => hb H2 (e.trans e2) _ fun H3 e3 => ⟨p, _, rfl, DGet.k (k := Sum.inl k) (((e.trans e2).trans e3) _ _ hp), q H3 (e2.trans e3)⟩
theorem ev_dget {p : Addr} {kvs : List (Key × V)} {k : Int} (ha : Ev ta σ H (.ref p)) (hb : Ev tb σ H (.int k)) (hp : H p = some (.dK kvs)) (hv : valV kvs (Sum.inl k : Key) = some v) : Ev (tDGet ta tb) σ H v := fun H1 e _ q =>
  ha H1 e _ fun H2 e2 => hb H2 (e.trans e2) _ fun H3 e3 => ⟨p, v, rfl, by
    have g := DGet.k (k := (Sum.inl k : Key)) (((e.trans e2).trans e3) _ _ hp)
    rw [hv] at g
    exact g, q H3 (e2.trans e3)⟩
theorem s_dput {p : Addr} {kvs : List (Key × V)} {k : Int} (hp : H p = some (.dK kvs)) (hl : kvs.length < 100000) (hv : Ev te σ H v) (ha : Ev ta σ H (.ref p)) (hb : Ev tb σ H (.int k)) (q : ∀ H1, Ex H H1 → D.nx σ (upd H1 p (.dK (putK kvs (Sum.inl k : Key) v)))) : sDPut ta tb te D σ H :=
  hv H (Ex.refl H) _ fun H1 e1 => ha H1 e1 _ fun H2 e2 => hb H2 (e1.trans e2) _ fun H3 e3 => ⟨p, _, rfl, DPut.k (k := Sum.inl k) (((e1.trans e2).trans e3) _ _ hp) (sz_lt hl), q H3 ((e1.trans e2).trans e3)⟩
theorem q_dput {p : Addr} {kvs : List (Key × V)} {k : Int} (hp : H p = some (.dK kvs)) (hl : kvs.length < 100000) (hv : Ev te σ H v) (ha : Ev ta σ H (.ref p)) (hb : Ev tb σ H (.int k)) (q : ∀ H1, Ex H H1 → tz D σ (upd H1 p (.dK (putK kvs (Sum.inl k : Key) v)))) : tSeq (sDPut ta tb te) tz D σ H :=
  s_dput (D := { D with nx := tz D }) hp hl hv ha hb q
/-- x = {k: v}, a whole number as the key -/
theorem q_disp1 {i : Nat} {k : Int} (e1 : Ev ta σ H (.int k)) (e2 : Ev tb σ H v) (q : ∀ p H2, H p = none → Ex H H2 → H2 p = some (.dK [((Sum.inl k : Key), v)]) → tz D (σ.set i (some (.ref p))) H2) :
    tSeq (tAsg (tDisp [(ta, tb)]) (gName i)) tz D σ H := fun p hp => by
  have s1 : Ex H (upd H p (.dK [])) := Ex.new hp
  refine e1 _ s1 _ fun H2 h2 => e2 _ (s1.trans h2) _ fun H3 h3 => ⟨(h2.trans h3) p _ upd_same, [((Sum.inl k : Key), v)], rfl, by show 1 ≤ 15; decide, ?_⟩
  refine q p _ hp (Ex.mut ((s1.trans h2).trans h3) hp) ?_
  rw [upd_same]
  rfl
/-- is None, is not None -/
theorem et_isN (ha : Ev ta σ H x) : EvT (tTest (tOp (fun x y H Q => y = .non ∧ Q (.bl (decide (x = .non))) H) ta (tC .non))) σ H (decide (x = .non)) := fun H1 e _ q => ha H1 e _ fun H2 e2 => ⟨rfl, _, rfl, q H2 e2⟩
theorem ev_isNV (ha : Ev ta σ H x) : Ev (tOp (fun x y H Q => y = .non ∧ Q (.bl (decide (x = .non))) H) ta (tC .non)) σ H (.bl (decide (x = .non))) := fun H1 e _ q => ha H1 e _ fun H2 e2 => ⟨rfl, q H2 e2⟩
theorem ev_notNV (ha : Ev ta σ H x) : Ev (tOp (fun x y H Q => y = .non ∧ Q (.bl (!decide (x = .non))) H) ta (tC .non)) σ H (.bl (!decide (x = .non))) := fun H1 e _ q => ha H1 e _ fun H2 e2 => ⟨rfl, q H2 e2⟩
/-- tuples -/
theorem ev_lenT {p : Addr} {xs : List V} (ha : Ev ta σ H (.ref p)) (h : SqT K H p xs) : Ev (tCB (fun xs H Q => ∃ p ys, xs = [.ref p] ∧ (SqL K H p ys ∨ SqT K H p ys) ∧ Q (.int ys.length) H) (tCons ta tNil)) σ H (.int (xs.length : Int)) := fun H1 e Q q =>
  ha H1 e _ fun H2 e2 => ⟨p, xs, rfl, Or.inr (ex_t (e.trans e2) h), q H2 e2⟩
theorem ev_itemT {p : Addr} {xs : List V} {i : Int} (ha : Ev ta σ H (.ref p)) (hb : Ev tb σ H (.int i)) (h : SqT K H p xs) (hi : atI xs i = some v) : Ev (tOp (rIxT K) ta tb) σ H v := ev_op ha hb (rv_ixT h hi)
theorem et_ch3 {p1 p2 p3 : Int → Int → Bool} {i j k l : Int} {tc td : TE} (ha : Ev ta σ H (.int i)) (hb : Ev tb σ H (.int j)) (hc : Ev tc σ H (.int k)) (hd : Ev td σ H (.int l)) (h1 : p1 i j = true) (h2 : p2 j k = true) (h3 : p3 k l = true) :
    EvT (tCh3 (rI0 fun i j => .bl (p1 i j)) (rI0 fun i j => .bl (p2 i j)) (rI0 fun i j => .bl (p3 i j)) ta tb tc td) σ H true := fun H1 e Q q =>
  ha H1 e _ fun H2 e2 => hb H2 (e.trans e2) _ fun H3 e3 => ⟨i, j, rfl, rfl, true, congrArg V.bl h1, by
    show tc σ H3 _
    refine hc H3 ((e.trans e2).trans e3) _ fun H4 e4 => ⟨j, k, rfl, rfl, true, congrArg V.bl h2, ?_⟩
    show td σ H4 _
    exact hd H4 (((e.trans e2).trans e3).trans e4) _ fun H5 e5 => ⟨k, l, rfl, rfl, true, congrArg V.bl h3, q H5 (((e2.trans e3).trans e4).trans e5)⟩⟩
/-- len(set(xs)) of a list in which no number is twice -/
theorem ev_lenSet {a : Addr} {ns : List Int} (ha : Ev ta σ H (.ref a)) (h : SqL K H a (ns.map V.int)) (hd : ns.Nodup) (hl : ns.length ≤ 4000) : Ev (RZ.tLenSetI K ta) σ H (.int (ns.length : Int)) := fun H1 e Q q =>
  ha H1 e _ fun H2 e2 => ⟨a, ns, rfl, ex_l (e.trans e2) h, hd, hl, q H2 e2⟩
/-- sum(xs) of a new list -/
theorem ev_sumN {ns : List Int} (ha : EvL ta σ H (ns.map V.int)) : Ev (tCB (rSum K) (tCons ta tNil)) σ H (.int ns.sum) := fun H1 e Q q => ha H1 e _ fun p H2 _ e2 h2 => ⟨p, ns, rfl, sq_of h2, q H2 e2⟩
/-- isinstance(x, T), T a built-in type -/
theorem ev_isi {m n : String} {b : Bool} (ha : Ev ta σ H x) (hb : Ev tb σ H (.ty n)) (ty : ∀ H1, Ex H H1 → TyX K H1 x (.type m)) (hk : kitB m n = some b) : Ev (tCB (rIsi K) (tCons ta (tCons tb tNil))) σ H (.bl b) := fun H1 e Q q =>
  ha H1 e _ fun H2 e2 => hb H2 (e.trans e2) _ fun H3 e3 => ⟨x, .ty n, .type m, .type n, b, rfl, .ty n, ty H3 ((e.trans e2).trans e3), kit_ty hk, q H3 (e2.trans e3)⟩
theorem ty_int (i : Int) : ∀ H1, Ex H H1 → TyX K H1 (.int i) (.type "int") := fun _ _ => .base (.int i)
theorem ty_lst {a : Addr} {xs : List V} (h : H a = some (.lst xs)) : ∀ H1, Ex H H1 → TyX K H1 (.ref a) (.type "list") := fun _ e => .base (.lst (e a _ h))
theorem ty_tup {a : Addr} {xs : List V} (h : H a = some (.tup xs)) : ∀ H1, Ex H H1 → TyX K H1 (.ref a) (.type "tuple") := fun _ e => .base (.tup (e a _ h))
theorem ty_str (z : Str) : ∀ H1, Ex H H1 → TyX K H1 (.str z) (.type "str") := fun _ _ => .base (.str z)
/-- xs + ys -/
theorem el_cat {p : Addr} {xs ys : List V} (ha : Ev ta σ H (.ref p)) (hp : H p = some (.lst xs)) (hb : EvL tb σ H ys) (hz : xs.length + ys.length ≤ 100000) : EvL (tOp rCat ta tb) σ H (xs ++ ys) := fun H1 e Q q =>
  ha H1 e _ fun H2 e2 => hb H2 (e.trans e2) _ fun b H3 hb3 e3 h3 => ⟨p, b, xs, ys, rfl, rfl, ((e.trans e2).trans e3) _ _ hp, h3, sz_of hz, fun r hr => q r _ (fresh_back (e2.trans e3) hr) ((e2.trans e3).trans (Ex.new hr)) upd_same⟩
theorem el_catLL {xs ys : List V} (ha : EvL ta σ H xs) (hb : EvL tb σ H ys) (hz : xs.length + ys.length ≤ 100000) : EvL (tOp rCat ta tb) σ H (xs ++ ys) := fun H1 e Q q =>
  ha H1 e _ fun p H2 hp2 e2 h2 => hb H2 (e.trans e2) _ fun b H3 hb3 e3 h3 => ⟨p, b, xs, ys, rfl, rfl, e3 _ _ h2, h3, sz_of hz, fun r hr => q r _ (fresh_back (e2.trans e3) hr) ((e2.trans e3).trans (Ex.new hr)) upd_same⟩
theorem el_catVV {p q : Addr} {xs ys : List V} (ha : Ev ta σ H (.ref p)) (hp : H p = some (.lst xs)) (hb : Ev tb σ H (.ref q)) (hq : H q = some (.lst ys)) (hz : xs.length + ys.length ≤ 100000) : EvL (tOp rCat ta tb) σ H (xs ++ ys) := fun H1 e Q k =>
  ha H1 e _ fun H2 e2 => hb H2 (e.trans e2) _ fun H3 e3 => ⟨p, q, xs, ys, rfl, rfl, ((e.trans e2).trans e3) _ _ hp, ((e.trans e2).trans e3) _ _ hq, sz_of hz, fun r hr => k r _ (fresh_back (e2.trans e3) hr) ((e2.trans e3).trans (Ex.new hr)) upd_same⟩
/-- calls some of whose arguments are new lists -/
theorem ev_callL {sp : Sp} {E : XK} {ys : List V} (ha : Ev ta σ H x) (hb : EvL tb σ H ys) (hs : ∀ b H1, Ex H H1 → H1 b = some (.lst ys) → SpV sp [x, .ref b] H1 z) : Ev (tCall sp [] E (tCons ta (tCons tb tNil))) σ H z := fun H1 e Q q =>
  ha H1 e _ fun H2 e2 => hb H2 (e.trans e2) _ fun b H3 _ e3 h3 => hs b H3 ((e.trans e2).trans e3) h3 H3 (Ex.refl H3) Q (fun H4 e4 => q H4 ((e2.trans e3).trans e4)) E
theorem ev_callL1 {sp : Sp} {E : XK} {ys : List V} (ha : EvL ta σ H ys) (hb : Ev tb σ H y) (hs : ∀ a H1, Ex H H1 → H1 a = some (.lst ys) → SpV sp [.ref a, y] H1 z) : Ev (tCall sp [] E (tCons ta (tCons tb tNil))) σ H z := fun H1 e Q q =>
  ha H1 e _ fun a H2 _ e2 h2 => hb H2 (e.trans e2) _ fun H3 e3 => hs a H3 ((e.trans e2).trans e3) (e3 _ _ h2) H3 (Ex.refl H3) Q (fun H4 e4 => q H4 ((e2.trans e3).trans e4)) E
theorem ev_callLL {sp : Sp} {E : XK} {xs ys : List V} (ha : EvL ta σ H xs) (hb : EvL tb σ H ys) (hs : ∀ a b H1, Ex H H1 → H1 a = some (.lst xs) → H1 b = some (.lst ys) → SpV sp [.ref a, .ref b] H1 z) : Ev (tCall sp [] E (tCons ta (tCons tb tNil))) σ H z := fun H1 e Q q =>
  ha H1 e _ fun a H2 _ e2 h2 => hb H2 (e.trans e2) _ fun b H3 _ e3 h3 => hs a b H3 ((e.trans e2).trans e3) (e3 _ _ h2) h3 H3 (Ex.refl H3) Q (fun H4 e4 => q H4 ((e2.trans e3).trans e4)) E
theorem el_callL {sp : Sp} {E : XK} {xs zs : List V} (ha : EvL ta σ H xs) (hb : Ev tb σ H y) (hs : ∀ a H1, Ex H H1 → H1 a = some (.lst xs) → SpL sp [.ref a, y] H1 zs) : EvL (tCall sp [] E (tCons ta (tCons tb tNil))) σ H zs := fun H1 e Q q =>
  ha H1 e _ fun a H2 _ e2 h2 => hb H2 (e.trans e2) _ fun H3 e3 => hs a H3 ((e.trans e2).trans e3) (e3 _ _ h2) H3 (Ex.refl H3) Q (fun p H4 hp e4 h4 => q p H4 (fresh_back (e2.trans e3) hp) ((e2.trans e3).trans e4) h4) E
/-- three arguments, the first two new lists -/
theorem el_call3 {sp : Sp} {E : XK} {tc : TE} {xs ys zs : List V} (ha : EvL ta σ H xs) (hb : EvL tb σ H ys) (hc : Ev tc σ H z) (hs : ∀ a b H1, Ex H H1 → H1 a = some (.lst xs) → H1 b = some (.lst ys) → SpL sp [.ref a, .ref b, z] H1 zs) :
    EvL (tCall sp [] E (tCons ta (tCons tb (tCons tc tNil)))) σ H zs := fun H1 e Q q =>
  ha H1 e _ fun a H2 _ e2 h2 => hb H2 (e.trans e2) _ fun b H3 _ e3 h3 => hc H3 ((e.trans e2).trans e3) _ fun H4 e4 => hs a b H4 (((e.trans e2).trans e3).trans e4) (e4 _ _ (e3 _ _ h2)) (e4 _ _ h3) H4 (Ex.refl H4) Q
    (fun p H5 hp e5 h5 => q p H5 (fresh_back ((e2.trans e3).trans e4) hp) (((e2.trans e3).trans e4).trans e5) h5) E
/-- xs[::-1] of a new list -/
theorem el_rev {xs : List V} (ha : EvL ta σ H xs) : EvL (tRevL K ta) σ H xs.reverse := fun H1 e Q q => ha H1 e _ fun a H2 _ e2 h2 => ⟨a, xs, rfl, sq_of h2, fun p hp => q p _ (fresh_back e2 hp) (e2.trans (Ex.new hp)) upd_same⟩
/-- x = [xs, ys], both new -/
theorem q_lst2 {i : Nat} {xs ys : List V} (ha : EvL ta σ H xs) (hb : EvL tb σ H ys) (q : ∀ p a b H2, H p = none → H a = none → H b = none → Ex H H2 → H2 p = some (.lst [.ref a, .ref b]) → H2 a = some (.lst xs) → H2 b = some (.lst ys) → tz D (σ.set i (some (.ref p))) H2) :
    tSeq (tAsg (tLst (tCons ta (tCons tb tNil))) (gName i)) tz D σ H := ha H (Ex.refl H) _ fun a H2 na e2 h2 => hb H2 e2 _ fun b H3 nb e3 h3 => ⟨by show 2 ≤ sizeLine; decide, fun p hp =>
  q p a b _ (fresh_back (e2.trans e3) hp) na (fresh_back e2 nb) ((e2.trans e3).trans (Ex.new hp)) upd_same (Ex.new hp _ _ (e3 _ _ h2)) (Ex.new hp _ _ h3)⟩
theorem et_yes : EvT tYes σ H true := fun H1 _ _ q => q H1 (Ex.refl H1)
theorem int_at {xs : List Int} {i : Nat} {x : V} (h : (xs.map V.int)[i]? = some x) : ∃ z, xs[i]? = some z ∧ x = .int z := by
  rw [List.getElem?_map] at h
  cases e : xs[i]? with
  | none =>
    rw [e] at h
    cases h
  | some z =>
    rw [e] at h
    exact ⟨z, rfl, (Option.some.inj h).symm⟩
theorem range_getD (xs : List Int) : (List.range xs.length).map (fun i => xs.getD i 0) = xs := by
  refine List.ext_getElem? fun i => ?_
  rw [List.getElem?_map]
  by_cases h : i < xs.length
  · rw [List.getElem?_range h, List.getElem?_eq_getElem h]
    show some (xs.getD i 0) = _
    rw [List.getD_eq_getElem?_getD, List.getElem?_eq_getElem h]
    rfl
  · rw [List.getElem?_eq_none (by rw [List.length_range]; omega), List.getElem?_eq_none (by omega)]
    rfl
/-- a comprehension over range(a, b) -/
theorem el_lcR2 {ta : TA} {j : Nat} {vs : List Nat} {lo n : Int} (f : Nat → Bool) (v : Nat → V) (h : EvA ta σ H [.int lo, .int n]) (hn : 0 ≤ lo ∧ lo ≤ 1000 ∧ -1000 ≤ n ∧ n ≤ 30000) (hw : ∀ x, wipe ((wipe σ vs).set j (some x)) vs = wipe σ vs)
    (ht : ∀ (i : Nat) H1, Ex H H1 → lo + (i : Int) < n → EvT t ((wipe σ vs).set j (some (.int (lo + (i : Int))))) H1 (f i)) (he : ∀ (i : Nat) H1, Ex H H1 → lo + (i : Int) < n → f i = true → Ev te ((wipe σ vs).set j (some (.int (lo + (i : Int))))) H1 (v i)) :
    EvL (tLc (iRng2 ta) (gName j) t te vs) σ H (given (n - lo).toNat f v) := fun H0 e Q q => h H0 e _ fun H1 e1 => ⟨lo, n, rfl, ⟨by omega, by omega, by omega, by omega⟩, fun Dl hD =>
  lc_range (lo := lo) (n := (n - lo).toNat) (Cw H1 f v Dl) ⟨hD, Ex.new hD, upd_same⟩ (fun i H' hi p => ⟨hw _, cw_turn p (by omega) (ht i H1 (e.trans e1) (by omega)) (fun hf => he i H1 (e.trans e1) (by omega) hf)⟩)
    (fun H' p => q Dl H' (fresh_back e1 p.1) (e1.trans p.2.1) p.2.2)⟩
theorem given_mem {n : Nat} {f : Nat → Bool} {v : Nat → V} {j : Nat} {x : V} (h : (given n f v)[j]? = some x) : ∃ i, i < n ∧ f i = true ∧ x = v i := by
  have hx := List.mem_of_getElem? h
  unfold given at hx
  obtain ⟨i, hi, e⟩ := List.mem_map.mp hx
  obtain ⟨h1, h2⟩ := List.mem_filter.mp hi
  exact ⟨i, List.mem_range.mp h1, h2, e.symm⟩
/-- a comprehension without a test -/
theorem given_all (xs : List Int) (g : Int → Int) : given xs.length (fun _ => true) (fun i => V.int (g (xs.getD i 0))) = (xs.map g).map V.int := by
  unfold given
  rw [List.filter_eq_self.mpr fun _ _ => rfl]
  have e := congrArg (List.map fun x => V.int (g x)) (range_getD xs)
  rw [List.map_map] at e
  rw [List.map_map]
  exact e
/-- .. with one -/
theorem given_if (xs : List Int) (p : Int → Bool) (g : Int → Int) : given xs.length (fun i => p (xs.getD i 0)) (fun i => V.int (g (xs.getD i 0))) = ((xs.filter p).map g).map V.int := by
  unfold given
  have e : xs.filter p = ((List.range xs.length).filter fun i => p (xs.getD i 0)).map fun i => xs.getD i 0 := by
    have h := congrArg (List.filter p) (range_getD xs)
    rw [List.filter_map] at h
    exact h.symm
  rw [e, List.map_map, List.map_map]
  rfl
theorem given_pos (xs : List Int) (p : Int → Bool) : decide ((0 : Int) < ((given xs.length (fun i => p (xs.getD i 0)) (fun i => V.int (xs.getD i 0))).length : Int)) = xs.any p := by
  have e0 : given xs.length (fun i => p (xs.getD i 0)) (fun i => V.int (xs.getD i 0)) = ((xs.filter p).map id).map V.int := given_if xs p id
  rw [e0, List.length_map, List.length_map]
  by_cases h : xs.any p = true
  · rw [h]
    obtain ⟨x, hx, px⟩ := List.any_eq_true.mp h
    exact decide_eq_true (Int.ofNat_lt.mpr (List.length_pos_of_mem (List.mem_filter.mpr ⟨hx, px⟩)))
  · rw [Bool.not_eq_true] at h
    rw [h]
    refine decide_eq_false fun z => ?_
    have z2 : 0 < (xs.filter p).length := Int.ofNat_lt.mp z
    obtain ⟨x, hx⟩ := List.exists_mem_of_length_pos z2
    obtain ⟨h1, h2⟩ := List.mem_filter.mp hx
    have : xs.any p = true := List.any_eq_true.mpr ⟨x, h1, h2⟩
    rw [h] at this
    cases this
/-! lists of ints compared -/
theorem dp_ints {a : Addr} {ns : List Int} (h : SqL K H a (ns.map V.int)) : Dp K H (.ref a) (.list (ns.map PyData.int)) := by
  refine Dp.lst h ?_
  clear h
  induction ns with
  | nil => exact DpAll.nil
  | cons n ns ih => exact DpAll.cons (Dp.int n) ih
theorem shaped_ints (ns : List Int) : SeqAt.shaped (.list (ns.map PyData.int)) = true := by
  have h1 : ∀ ns : List Int, PyData.canLayAll0 (ns.map PyData.int) = true := fun ns => by
    induction ns with
    | nil => rfl
    | cons n ns ih => simp only [List.map_cons, PyData.canLayAll0, ih, Bool.and_true]; rfl
  have h2 : ∀ ns : List Int, PyData.depthAll (ns.map PyData.int) ≤ 1 := fun ns => by
    induction ns with
    | nil => exact Nat.zero_le _
    | cons n ns ih =>
      simp only [List.map_cons, PyData.depthAll, PyData.depth]
      omega
  have a := h1 ns
  have b := h2 ns
  have c : PyData.depth (.list (ns.map PyData.int)) ≤ 64 := by
    rw [PyData.depth]
    omega
  unfold SeqAt.shaped
  rw [PyData.canLay0, a, decide_eq_true c]
  rfl
theorem eqv_ints (ns ms : List Int) : PyData.eqv (.list (ns.map PyData.int)) (.list (ms.map PyData.int)) = decide (ns = ms) := by
  rw [PyData.eqv]
  exact PySem.W.ked_eqvAll ns ms
/-- a list of two lists, and a new one of the same two -/
theorem shaped_two (ns ms : List Int) : SeqAt.shaped (.list [.list (ns.map PyData.int), .list (ms.map PyData.int)]) = true := by
  have h := shaped_ints ns
  have g := shaped_ints ms
  unfold SeqAt.shaped at h g ⊢
  rw [Bool.and_eq_true, decide_eq_true_eq] at h g
  have d : ∀ ns : List Int, PyData.depth (.list (ns.map PyData.int)) ≤ 2 := fun ns => by
    have k : ∀ ns : List Int, PyData.depthAll (ns.map PyData.int) ≤ 1 := fun ns => by
      induction ns with
      | nil => exact Nat.zero_le _
      | cons n ns ih =>
        simp only [List.map_cons, PyData.depthAll, PyData.depth]
        omega
    have := k ns
    rw [PyData.depth]
    omega
  have d1 := d ns
  have d2 := d ms
  have c : PyData.depth (.list [.list (ns.map PyData.int), .list (ms.map PyData.int)]) ≤ 64 := by
    rw [PyData.depth, PyData.depthAll, PyData.depthAll, PyData.depthAll]
    omega
  rw [decide_eq_true c, PyData.canLay0, PyData.canLayAll0, PyData.canLayAll0, PyData.canLayAll0, h.1, g.1]
  rfl
theorem et_neTwo {p a b : Addr} {ns ms : List Int} {tc : TE} {c d : Addr} (hp : H p = some (.lst [.ref a, .ref b])) (ha : SqL K H a (ns.map V.int)) (hb : SqL K H b (ms.map V.int)) (e1 : Ev ta σ H (.ref p)) (e2 : Ev tb σ H (.ref c)) (e3 : Ev tc σ H (.ref d))
    (hc : SqL K H c (ns.map V.int)) (hd : SqL K H d (ms.map V.int)) : EvT (tTest (tOp (rNeD K) ta (tLst (tCons tb (tCons tc tNil))))) σ H false := fun H1 e Q q =>
  e1 H1 e _ fun H2 h2 => e2 H2 (e.trans h2) _ fun H3 h3 => e3 H3 ((e.trans h2).trans h3) _ fun H4 h4 => ⟨by show 2 ≤ sizeLine; decide, fun r hr => by
    have E4 := ((e.trans h2).trans h3).trans h4
    have E5 : Ex H4 (upd H4 r (.lst [V.ref c, V.ref d])) := Ex.new hr
    refine ⟨.list [.list (ns.map PyData.int), .list (ms.map PyData.int)], .list [.list (ns.map PyData.int), .list (ms.map PyData.int)], Dp.lst (sq_of (E5 _ _ (E4 _ _ hp))) (.cons (dp_ints (ex_l (E4.trans E5) ha)) (.cons (dp_ints (ex_l (E4.trans E5) hb)) .nil)),
      Dp.lst (sq_of upd_same) (.cons (dp_ints (ex_l (E4.trans E5) hc)) (.cons (dp_ints (ex_l (E4.trans E5) hd)) .nil)), shaped_two ns ms, shaped_two ns ms, false, ?_, q _ (((h2.trans h3).trans h4).trans E5)⟩
    have g : PyData.eqv (.list [.list (ns.map PyData.int), .list (ms.map PyData.int)]) (.list [.list (ns.map PyData.int), .list (ms.map PyData.int)]) = true := by
      rw [PyData.eqv, PyData.eqvAll, PyData.eqvAll, PyData.eqvAll, eqv_ints, eqv_ints, decide_eq_true rfl, decide_eq_true rfl]
      rfl
    rw [g]
    rfl⟩
theorem rv_eqL {a b : Addr} {ns ms : List Int} (ha : SqL K H a (ns.map V.int)) (hb : SqL K H b (ms.map V.int)) : RV (rEqD K) (.ref a) (.ref b) H (.bl (decide (ns = ms))) := fun H1 e Q q =>
  ⟨_, _, dp_ints (ex_l e ha), dp_ints (ex_l e hb), shaped_ints ns, shaped_ints ms, by
    rw [eqv_ints]
    exact q H1 (Ex.refl H1)⟩
theorem rv_neL {a b : Addr} {ns ms : List Int} (ha : SqL K H a (ns.map V.int)) (hb : SqL K H b (ms.map V.int)) : RV (rNeD K) (.ref a) (.ref b) H (.bl (!decide (ns = ms))) := fun H1 e Q q =>
  ⟨_, _, dp_ints (ex_l e ha), dp_ints (ex_l e hb), shaped_ints ns, shaped_ints ms, by
    rw [eqv_ints]
    exact q H1 (Ex.refl H1)⟩
end
end Sr
namespace Sr
open PySem PySem.Spec PyProof.Rows L2 Evl
/-! ### the promises: arguments, what they must be, what comes out -/
section
variable (K : PySem.W.Frag)
/-- the k-th cell of the script, or nought -/
def cell (cs : List Int) (k : Int) : Int := cs.getD k.toNat 0
def spCell : Sp := fun vs H Q _ => ∃ (a : Addr) (cs : List Int) (k : Int), vs = [.ref a, .int k] ∧ SqL K H a (cs.map V.int) ∧ 0 ≤ k ∧ RetV (.int (cell cs k)) H Q
/-- is it a whole number -/
def isInt : V → Bool
  | .int _ => true
  | _ => false
def spWhole : Sp := fun vs H Q _ => ∃ x : V, vs = [x] ∧ (∃ i, x = .int i) ∧ RetV (.bl true) H Q
def numberBy (c way : Int) : Int :=
  if way = 0 then c % 9 - 4 else if way = 1 then c % 2 else if way = 2 then c % 2000000000001 - 1000000000000 else
    if c % 3 = 0 then 1000000000000 else if c % 3 = 1 then -1000000000000 else 1000000000000 - c / 3 % 99
theorem numberBy_le (c way : Int) : -1000000000000 ≤ numberBy c way ∧ numberBy c way ≤ 1000000000000 := by
  unfold numberBy
  split
  · omega
  · split
    · omega
    · split
      · omega
      · split
        · omega
        · split <;> omega
def spNumBy : Sp := fun vs H Q _ => ∃ (c way : Int), vs = [.int c, .int way] ∧ RetV (.int (numberBy c way)) H Q
def kindAt (way : Int) (k : Nat) : Int := if way > 3 then (way + (k : Int) / 2) % 4 else way
/-- the drawn numbers -/
def drawn (cs : List Int) (first : Int) (count : Nat) (way : Int) : List Int := (List.range count).map fun k : Nat => numberBy (cell cs (first + (k : Int))) (kindAt way k)
theorem drawn_len (cs : List Int) (first : Int) (count : Nat) (way : Int) : (drawn cs first count way).length = count := by
  unfold drawn
  rw [List.length_map, List.length_range]
theorem drawn_le {cs : List Int} {first : Int} {count : Nat} {way x : Int} (h : x ∈ drawn cs first count way) : -1000000000000 ≤ x ∧ x ≤ 1000000000000 := by
  unfold drawn at h
  obtain ⟨k, _, e⟩ := List.mem_map.mp h
  rw [← e]
  exact numberBy_le _ _
def spNums : Sp := fun vs H Q _ => ∃ (a : Addr) (cs : List Int) (first : Int) (count : Nat) (way : Int), vs = [.ref a, .int first, .int (count : Int), .int way] ∧ SqL K H a (cs.map V.int) ∧ 0 ≤ first ∧ count ≤ 1000 ∧
  RetL ((drawn cs first count way).map V.int) H Q
/-- the set of a list: its rests, rising -/
def hasRest (n : Int) (xs : List Int) (r : Int) : Bool := xs.any fun x => decide ((x - r) % n = 0)
def rset (n : Nat) (xs : List Int) : List Int := ((List.range n).map fun i : Nat => (i : Int)).filter (hasRest n xs)
def goodN (n : Int) : Prop := 1 ≤ n ∧ n ≤ 24
/-- see_round: nothing, or BadRound (the class at C) -/
def spSee (C : Addr) : Sp := fun vs H Q E => ∃ n : Int, vs = [.int n] ∧ (goodN n → RetV .non H Q) ∧ (¬ goodN n → ∀ H2, Ex H H2 → E (.ref C) none H2)
/-- a list and a round: refused, or a new list -/
def spRests (C : Addr) : Sp := fun vs H Q E => ∃ (a : Addr) (xs : List Int) (n : Int), vs = [.ref a, .int n] ∧ SqL K H a (xs.map V.int) ∧ xs.length ≤ 2000 ∧ (goodN n → RetL ((rset n.toNat xs).map V.int) H Q) ∧ (¬ goodN n → ∀ H2, Ex H H2 → E (.ref C) none H2)
def spLawSet : Sp := fun vs H Q _ => ∃ (a : Addr) (xs : List Int) (n : Int), vs = [.ref a, .int n] ∧ SqL K H a (xs.map V.int) ∧ xs.length ≤ 2000 ∧ goodN n ∧ RetL ((rset n.toNat xs).map V.int) H Q
/-- a list of whole numbers, and the one that is due -/
def spIsSet : Sp := fun vs H Q _ => ∃ (a b : Addr) (xs ys : List Int), vs = [.ref a, .ref b] ∧ H a = some (.lst (xs.map V.int)) ∧ SqL K H b (ys.map V.int) ∧ RetV (.bl (decide (xs = ys))) H Q
/-- law's -/
def spLaw : Sp := fun vs H Q _ => ∃ (a : Addr) (ns : List Int), vs = [.ref a] ∧ SqL K H a (ns.map V.int) ∧ ns.length ≤ 63 ∧ ∀ H', Q (.bl true) H'
end
/-! the promises as values -/
section
variable {K : PySem.W.Frag} {H : Hp}
theorem spv_cell {a : Addr} {cs : List Int} {k : Int} (h : SqL K H a (cs.map V.int)) (hk : 0 ≤ k) : SpV (spCell K) [.ref a, .int k] H (.int (cell cs k)) := fun H1 e Q q E => ⟨a, cs, k, rfl, ex_l e h, hk, fun H2 e2 => q H2 e2⟩
theorem spv_whole {i : Int} : SpV spWhole [.int i] H (.bl true) := fun H1 e Q q E => ⟨_, rfl, ⟨i, rfl⟩, fun H2 e2 => q H2 e2⟩
theorem spv_numBy {c way : Int} : SpV spNumBy [.int c, .int way] H (.int (numberBy c way)) := fun H1 e Q q E => ⟨c, way, rfl, fun H2 e2 => q H2 e2⟩
theorem spl_nums {a : Addr} {cs : List Int} {first way : Int} {count : Nat} (h : SqL K H a (cs.map V.int)) (hf : 0 ≤ first) (hc : count ≤ 1000) : SpL (spNums K) [.ref a, .int first, .int (count : Int), .int way] H ((drawn cs first count way).map V.int) := fun H1 e Q q E =>
  ⟨a, cs, first, count, way, rfl, ex_l e h, hf, hc, fun p H2 hp e2 h2 => q p H2 hp e2 h2⟩
theorem spl_rests {C a : Addr} {xs : List Int} {n : Int} (h : SqL K H a (xs.map V.int)) (hl : xs.length ≤ 2000) (hn : goodN n) : SpL (spRests K C) [.ref a, .int n] H ((rset n.toNat xs).map V.int) := fun H1 e Q q E =>
  ⟨a, xs, n, rfl, ex_l e h, hl, fun _ p H2 hp e2 h2 => q p H2 hp e2 h2, fun z => absurd hn z⟩
theorem spl_lawSet {a : Addr} {xs : List Int} {n : Int} (h : SqL K H a (xs.map V.int)) (hl : xs.length ≤ 2000) (hn : goodN n) : SpL (spLawSet K) [.ref a, .int n] H ((rset n.toNat xs).map V.int) := fun H1 e Q q E =>
  ⟨a, xs, n, rfl, ex_l e h, hl, hn, fun p H2 hp e2 h2 => q p H2 hp e2 h2⟩
theorem spv_isSet {a b : Addr} {xs ys : List Int} (h : H a = some (.lst (xs.map V.int))) (h2 : SqL K H b (ys.map V.int)) : SpV (spIsSet K) [.ref a, .ref b] H (.bl (decide (xs = ys))) := fun H1 e Q q E =>
  ⟨a, b, xs, ys, rfl, e _ _ h, ex_l e h2, fun H2 e2 => q H2 e2⟩
end
/-- see_round(n), and what follows it -/
theorem q_see {K : PySem.W.Frag} {H : Hp} {σ : L2.St} {te : TE} {D : Ends} {tz : TS} {C : Addr} {E : XK} {n : Int} (h : Ev te σ H (.int n)) (k : goodN n → ∀ H1, Ex H H1 → tz D σ H1) (kE : ¬ goodN n → ∀ H1, Ex H H1 → E (.ref C) none H1) :
    tSeq (tDrop (tCall (spSee C) [] E (tCons te tNil))) tz D σ H := h H (Ex.refl H) _ fun H1 e1 => ⟨n, rfl, fun g H2 e2 => k g H2 (e1.trans e2), fun g H2 e2 => kE g H2 (e1.trans e2)⟩
/-! the sets' mathematics -/
theorem mem_rset {n : Nat} {xs : List Int} {k : Int} : k ∈ rset n xs ↔ 0 ≤ k ∧ k < n ∧ ∃ x ∈ xs, (x - k) % (n : Int) = 0 := by
  unfold rset hasRest
  rw [List.mem_filter, List.mem_map]
  simp only [List.mem_range, List.any_eq_true, decide_eq_true_eq]
  constructor
  · rintro ⟨⟨i, hi, e⟩, x⟩
    exact ⟨by omega, by omega, x⟩
  · rintro ⟨h0, h1, x⟩
    exact ⟨⟨k.toNat, by omega, by omega⟩, x⟩
theorem rset_rises (n : Nat) (xs : List Int) : (rset n xs).Pairwise (· < ·) := by
  unfold rset
  refine List.Pairwise.filter _ ?_
  rw [List.pairwise_map]
  refine List.Pairwise.imp ?_ (List.pairwise_lt_range (n := n))
  intro a b h
  exact Int.ofNat_lt.mpr h
theorem rset_len (n : Nat) (xs : List Int) : (rset n xs).length ≤ n := by
  unfold rset
  refine Nat.le_trans (List.length_filter_le _ _) ?_
  rw [List.length_map, List.length_range]
  exact Nat.le_refl _
end Sr
namespace Sr
open PySem PySem.Spec PyProof.Rows L2 Evl
/-- the script's cell, as the laws ask it: _law_cell_at(script, k), the script in slot 0 -/
theorem ev_cell {K : PySem.W.Frag} {σ : L2.St} {H H' : Hp} {a : Addr} {cs : List Int} {k : Int} {ta tb : TE} {E : XK} (hS : SqL K H a (cs.map V.int)) (e : Ex H H') (ha : Ev ta σ H' (.ref a)) (hb : Ev tb σ H' (.int k)) (hk : 0 ≤ k) :
    Ev (tCall (spCell K) [] E (tCons ta (tCons tb tNil))) σ H' (.int (cell cs k)) := ev_call (ea_cons ha (ea_cons hb ea_nil)) (spv_cell (ex_l e hS) hk)
/-- how many numbers a law draws: as the script's cell says, or as the script is long -/
theorem countOf (d L w k off most m : Int) (hd : 0 ≤ d ∧ d ≤ m) (hm : 0 ≤ most ∧ most ≤ m) (hL : L ≤ 63) (ho : 0 ≤ off) : ∃ c : Nat, (c : Int) ≤ m ∧ (c : Int) = if w = k then (if most < (if (L - off) > 0 then L - off else 0) then most else (if (L - off) > 0 then L - off else 0)) else d := by
  have g : 0 ≤ (if w = k then (if most < (if (L - off) > 0 then L - off else 0) then most else (if (L - off) > 0 then L - off else 0)) else d) ∧ (if w = k then (if most < (if (L - off) > 0 then L - off else 0) then most else (if (L - off) > 0 then L - off else 0)) else d) ≤ m := by
    split
    · split
      · omega
      · split at * <;> omega
    · omega
  exact ⟨(if w = k then (if most < (if (L - off) > 0 then L - off else 0) then most else (if (L - off) > 0 then L - off else 0)) else d).toNat, by omega, by omega⟩
theorem goodN_of (c : Int) : goodN (1 + c % 24) := by
  unfold goodN
  omega
end Sr
namespace Sr
open PySem PySem.Spec PyProof.Rows L2 Evl
/-! ### choices and what they leave -/
def Ch (xs : List Int) (n : Int) (k : Nat) (r : Int) : Prop := ∃ s : List Int, s.Sublist xs ∧ s.length = k ∧ s.sum % n = r
theorem ch_len {xs : List Int} {n : Int} {k : Nat} {r : Int} (h : Ch xs n k r) : k ≤ xs.length := by
  obtain ⟨s, h1, h2, _⟩ := h
  have := h1.length_le
  omega
theorem ch_range {xs : List Int} {n : Int} {k : Nat} {r : Int} (hn : 0 < n) (h : Ch xs n k r) : 0 ≤ r ∧ r < n := by
  obtain ⟨s, _, _, rfl⟩ := h
  exact ⟨Int.emod_nonneg _ (by omega), Int.emod_lt_of_pos _ hn⟩
theorem ch_nil {n : Int} {k : Nat} {r : Int} : Ch [] n k r ↔ k = 0 ∧ r = 0 := by
  constructor
  · rintro ⟨s, h1, h2, h3⟩
    rw [List.sublist_nil] at h1
    subst h1
    refine ⟨h2.symm, ?_⟩
    rw [← h3]
    exact Int.zero_emod n
  · rintro ⟨rfl, rfl⟩
    exact ⟨[], List.Sublist.refl _, rfl, Int.zero_emod n⟩
theorem sub_one {l : List Int} {x : Int} (h : l.Sublist [x]) : l = [] ∨ l = [x] := by
  cases h with
  | cons _ h => exact .inl (List.sublist_nil.mp h)
  | cons_cons _ h => exact .inr (by rw [List.sublist_nil.mp h])
theorem ch_snoc {xs : List Int} {n x : Int} {k : Nat} {r : Int} : Ch (xs ++ [x]) n k r ↔ Ch xs n k r ∨ ∃ (j : Nat) (s : Int), k = j + 1 ∧ Ch xs n j s ∧ r = (s + x) % n := by
  constructor
  · rintro ⟨s, h1, h2, h3⟩
    obtain ⟨l1, l2, rfl, g1, g2⟩ := List.sublist_append_iff.mp h1
    rcases sub_one g2 with rfl | rfl
    · left
      rw [List.append_nil] at h2 h3
      exact ⟨l1, g1, h2, h3⟩
    · right
      rw [List.length_append] at h2
      refine ⟨l1.length, l1.sum % n, by rw [← h2]; rfl, ⟨l1, g1, rfl, rfl⟩, ?_⟩
      rw [List.sum_append] at h3
      rw [Int.emod_add_emod, ← h3]
      simp
  · rintro (⟨s, h1, h2, h3⟩ | ⟨j, s, rfl, ⟨l, g1, g2, g3⟩, rfl⟩)
    · exact ⟨s, h1.trans (List.sublist_append_left _ _), h2, h3⟩
    · refine ⟨l ++ [x], g1.append (List.Sublist.refl _), by rw [List.length_append, g2]; rfl, ?_⟩
      rw [List.sum_append, ← g3, Int.emod_add_emod]
      simp
theorem ch_over {xs : List Int} {n : Int} {k : Nat} {r : Int} (h : xs.length < k) : ¬ Ch xs n k r := fun g => by
  have := ch_len g
  omega
/-! ### dicts of rests -/
def Keys (n : Int) (P : Int → Prop) (kvs : List (Key × V)) : Prop :=
  (kvs.map (·.1)).Nodup ∧ (∀ kv ∈ kvs, ∃ r : Int, kv.1 = (Sum.inl r : Key) ∧ 0 ≤ r ∧ r < n) ∧ ∀ r : Int, (valV kvs (Sum.inl r : Key)).isSome = true ↔ P r
theorem keys_nil {n : Int} {P : Int → Prop} (h : ∀ r, ¬ P r) : Keys n P [] := ⟨List.nodup_nil, fun kv h => (nomatch h), fun r => by
  rw [valV_nil]
  exact ⟨fun z => (nomatch z), fun z => absurd z (h r)⟩⟩
theorem keys_iff {n : Int} {P P' : Int → Prop} {kvs : List (Key × V)} (h : Keys n P kvs) (e : ∀ r, P r ↔ P' r) : Keys n P' kvs := ⟨h.1, h.2.1, fun r => (h.2.2 r).trans (e r)⟩
theorem keys_put {n : Int} {P : Int → Prop} {kvs : List (Key × V)} {r : Int} {v : V} (h : Keys n P kvs) (h0 : 0 ≤ r) (h1 : r < n) : Keys n (fun j => P j ∨ j = r) (putK kvs (Sum.inl r : Key) v) := by
  obtain ⟨a, b, c⟩ := h
  refine ⟨?_, ?_, fun j => ?_⟩
  · cases hv : valV kvs (Sum.inl r : Key) with
    | none =>
      rw [putK_new v hv, List.map_append]
      refine List.nodup_append.mpr ⟨a, List.nodup_cons.mpr ⟨fun h => (nomatch h), List.nodup_nil⟩, fun x hx y hy => ?_⟩
      have e : y = (Sum.inl r : Key) := by simpa using hy
      subst e
      exact fun z => valV_not hv (z ▸ hx)
    | some u =>
      have e : (putK kvs (Sum.inl r : Key) v).map (·.1) = kvs.map (·.1) := by
        unfold putK
        rw [valV_any, hv]
        rw [if_pos (show (some u).isSome = true from rfl), List.map_map]
        refine List.map_congr_left fun kv _ => ?_
        show (if kv.1 = _ then (kv.1, v) else kv).1 = kv.1
        by_cases hk : kv.1 = (Sum.inl r : Key)
        · rw [if_pos hk]
        · rw [if_neg hk]
      rw [e]
      exact a
  · intro kv hkv
    cases hv : valV kvs (Sum.inl r : Key) with
    | none =>
      rw [putK_new v hv] at hkv
      rcases List.mem_append.mp hkv with g | g
      · exact b kv g
      · have e : kv = ((Sum.inl r : Key), v) := by simpa using g
        subst e
        exact ⟨r, rfl, h0, h1⟩
    | some u =>
      unfold putK at hkv
      rw [valV_any, hv] at hkv
      rw [if_pos (show (some u).isSome = true from rfl)] at hkv
      obtain ⟨kv', g, rfl⟩ := List.mem_map.mp hkv
      obtain ⟨q, g1, g2⟩ := b kv' g
      refine ⟨q, ?_, g2⟩
      by_cases hk : kv'.1 = (Sum.inl r : Key)
      · rw [if_pos hk]
        exact g1
      · rw [if_neg hk]
        exact g1
  · rw [valV_put]
    by_cases e : j = r
    · subst e
      rw [if_pos rfl]
      exact ⟨fun _ => Or.inr rfl, fun _ => rfl⟩
    · rw [if_neg (fun z => e (Sum.inl.inj z)), c j]
      exact ⟨Or.inl, fun z => z.elim id fun z => absurd z e⟩
theorem valV_mem {kvs : List (Key × V)} {k : Key} : (valV kvs k).isSome = true ↔ k ∈ kvs.map (·.1) := by
  rw [← valV_any, List.any_eq_true]
  constructor
  · rintro ⟨kv, h1, h2⟩
    exact List.mem_map.mpr ⟨kv, h1, of_decide_eq_true h2⟩
  · intro h
    obtain ⟨kv, h1, h2⟩ := List.mem_map.mp h
    exact ⟨kv, h1, decide_eq_true h2⟩
theorem keys_ints {n : Int} {P : Int → Prop} {kvs : List (Key × V)} (h : Keys n P kvs) : ∃ ns : List Int, kvs.map (fun kv => kV kv.1) = ns.map V.int ∧ ns.length = kvs.length ∧ ns.Nodup ∧ (∀ r, r ∈ ns ↔ P r) ∧ ∀ r ∈ ns, 0 ≤ r ∧ r < n := by
  obtain ⟨a, b, c⟩ := h
  have g : ∀ l : List (Key × V), (∀ kv ∈ l, ∃ r : Int, kv.1 = (Sum.inl r : Key) ∧ 0 ≤ r ∧ r < n) → ∃ ns : List Int, l.map (·.1) = ns.map (fun r => (Sum.inl r : Key)) ∧ ∀ r ∈ ns, 0 ≤ r ∧ r < n := by
    intro l
    induction l with
    | nil => exact fun _ => ⟨[], rfl, fun r h => nomatch h⟩
    | cons kv l ih =>
      intro h
      obtain ⟨ns, e, k⟩ := ih fun kv h' => h kv (List.mem_cons_of_mem _ h')
      obtain ⟨r, e2, k2⟩ := h kv List.mem_cons_self
      refine ⟨r :: ns, ?_, fun s hs => ?_⟩
      · rw [List.map_cons, List.map_cons, e, e2]
      · rcases List.mem_cons.mp hs with rfl | hs
        · exact k2
        · exact k s hs
  obtain ⟨ns, e, k⟩ := g kvs b
  refine ⟨ns, ?_, ?_, ?_, fun r => ?_, k⟩
  · have e2 : kvs.map (fun kv => kV kv.1) = (kvs.map (·.1)).map kV := by
      rw [List.map_map]
      rfl
    rw [e2, e, List.map_map]
    rfl
  · have := congrArg List.length e
    simp only [List.length_map] at this
    exact this.symm
  · rw [e] at a
    rw [List.nodup_iff_pairwise_ne] at a ⊢
    rw [List.pairwise_map] at a
    exact a.imp fun h z => h (congrArg (fun r : Int => (Sum.inl r : Key)) z)
  · rw [← c r, valV_mem, e]
    constructor
    · intro h
      exact List.mem_map.mpr ⟨r, h, rfl⟩
    · intro h
      obtain ⟨s, h1, h2⟩ := List.mem_map.mp h
      cases h2
      exact h1
theorem keys_len {n : Int} {P : Int → Prop} {kvs : List (Key × V)} (hn : goodN n) (h : Keys n P kvs) : kvs.length ≤ 24 := by
  obtain ⟨ns, _, e, g, _, k⟩ := keys_ints h
  have q := SrSet.nodup_len ns ((List.range n.toNat).map fun i : Nat => (i : Int)) g fun r hr => by
    obtain ⟨h0, h1⟩ := k r hr
    exact List.mem_map.mpr ⟨r.toNat, List.mem_range.mpr (by omega), by omega⟩
  rw [List.length_map, List.length_range] at q
  have := hn.2
  omega
/-! ### rows of them -/
def Row (H : Hp) (n : Int) (P : Int → Prop) (p : Addr) : Prop := ∃ kvs, H p = some (.dK kvs) ∧ Keys n P kvs
def RowsAt (H : Hp) (n : Int) (P : Nat → Int → Prop) (ps : List Addr) : Prop := ∀ k p, ps[k]? = some p → Row H n (P k) p
def Rows (H : Hp) (p : Addr) (n : Int) (P : Nat → Int → Prop) (m : Nat) : Prop := ∃ ps : List Addr, H p = some (.lst (ps.map V.ref)) ∧ ps.length = m ∧ RowsAt H n P ps
theorem Row.ex {H H' : Hp} {n : Int} {P : Int → Prop} {p : Addr} (e : Ex H H') (h : Row H n P p) : Row H' n P p := by
  obtain ⟨kvs, a, b⟩ := h
  exact ⟨kvs, e _ _ a, b⟩
theorem RowsAt.ex {H H' : Hp} {n : Int} {P : Nat → Int → Prop} {ps : List Addr} (e : Ex H H') (h : RowsAt H n P ps) : RowsAt H' n P ps := fun k p hk => (h k p hk).ex e
theorem Rows.ex {H H' : Hp} {p : Addr} {n : Int} {P : Nat → Int → Prop} {m : Nat} (e : Ex H H') (h : Rows H p n P m) : Rows H' p n P m := by
  obtain ⟨ps, a, b, c⟩ := h
  exact ⟨ps, e _ _ a, b, c.ex e⟩
theorem Row.iff {H : Hp} {n : Int} {P P' : Int → Prop} {p : Addr} (h : Row H n P p) (e : ∀ r, P r ↔ P' r) : Row H n P' p := by
  obtain ⟨kvs, a, b⟩ := h
  exact ⟨kvs, a, keys_iff b e⟩
theorem RowsAt.iff {H : Hp} {n : Int} {P P' : Nat → Int → Prop} {ps : List Addr} (h : RowsAt H n P ps) (e : ∀ k, k < ps.length → ∀ r, P k r ↔ P' k r) : RowsAt H n P' ps := fun k p hk => (h k p hk).iff (e k (List.getElem?_eq_some_iff.mp hk).1)
/-- rows just made, each its own dict -/
def FR (H0 H : Hp) (n : Int) (P : Nat → Int → Prop) (ps : List Addr) : Prop := Ex H0 H ∧ ps.Nodup ∧ (∀ p ∈ ps, H0 p = none) ∧ RowsAt H n P ps
theorem FR.nil {H0 H : Hp} {n : Int} {P : Nat → Int → Prop} (e : Ex H0 H) : FR H0 H n P [] := ⟨e, List.nodup_nil, fun p h => (nomatch h), fun k p h => by cases h⟩
theorem FR.iff {H0 H : Hp} {n : Int} {P P' : Nat → Int → Prop} {ps : List Addr} (h : FR H0 H n P ps) (e : ∀ k, k < ps.length → ∀ r, P k r ↔ P' k r) : FR H0 H n P' ps := ⟨h.1, h.2.1, h.2.2.1, h.2.2.2.iff e⟩
theorem FR.ex {H0 H H' : Hp} {n : Int} {P : Nat → Int → Prop} {ps : List Addr} (h : FR H0 H n P ps) (e : Ex H H') : FR H0 H' n P ps := ⟨h.1.trans e, h.2.1, h.2.2.1, h.2.2.2.ex e⟩
/-- an object that is no dict, and new, may change -/
theorem FR.lst {H0 H : Hp} {n : Int} {P : Nat → Int → Prop} {ps : List Addr} {D : Addr} {xs : List V} {o : HO} (h : FR H0 H n P ps) (hD : H0 D = none) (h1 : H D = some (.lst xs)) : FR H0 (upd H D o) n P ps := by
  obtain ⟨a, b, c, d⟩ := h
  refine ⟨Ex.mut a hD, b, c, fun k p hk => ?_⟩
  obtain ⟨kvs, g1, g2⟩ := d k p hk
  refine ⟨kvs, ?_, g2⟩
  have hne : p ≠ D := fun z => by
    subst z
    rw [h1] at g1
    cases g1
  rw [upd_ne hne]
  exact g1
theorem FR.add {H0 H : Hp} {n : Int} {P : Nat → Int → Prop} {ps : List Addr} {q : Addr} {kvs : List (Key × V)} (h : FR H0 H n P ps) (hq : H q = none) (hk : Keys n (P ps.length) kvs) : FR H0 (upd H q (.dK kvs)) n P (ps ++ [q]) := by
  obtain ⟨a, b, c, d⟩ := h
  have e := Ex.new (o := .dK kvs) hq
  refine ⟨a.trans e, ?_, fun p hp => ?_, fun k p hkp => ?_⟩
  · refine List.nodup_append.mpr ⟨b, List.nodup_cons.mpr ⟨fun h => (nomatch h), List.nodup_nil⟩, fun x hx y hy => ?_⟩
    have ey : y = q := by simpa using hy
    subst ey
    intro z
    subst z
    obtain ⟨k, hk⟩ := List.getElem?_of_mem hx
    obtain ⟨_, g, _⟩ := d k x hk
    rw [hq] at g
    cases g
  · rcases List.mem_append.mp hp with g | g
    · exact c p g
    · have ey : p = q := by simpa using g
      subst ey
      exact fresh_back a hq
  · rw [List.getElem?_append] at hkp
    by_cases hlt : k < ps.length
    · rw [if_pos hlt] at hkp
      exact (d k p hkp).ex e
    · rw [if_neg hlt] at hkp
      have hk0 : k - ps.length = 0 := by
        have := (List.getElem?_eq_some_iff.mp hkp).1
        simp at this
        omega
      rw [hk0] at hkp
      cases hkp
      have ek : k = ps.length := by omega
      subst ek
      exact ⟨kvs, upd_same, hk⟩
theorem FR.put {H0 H : Hp} {n : Int} {P : Nat → Int → Prop} {ps : List Addr} {k : Nat} {q : Addr} {kvs : List (Key × V)} {r : Int} {v : V} (h : FR H0 H n P ps) (hq : ps[k]? = some q) (hv : H q = some (.dK kvs)) (h0 : 0 ≤ r) (h1 : r < n) :
    FR H0 (upd H q (.dK (putK kvs (Sum.inl r : Key) v))) n (fun j s => P j s ∨ (j = k ∧ s = r)) ps := by
  obtain ⟨a, b, c, d⟩ := h
  have hm := List.mem_of_getElem? hq
  refine ⟨Ex.mut a (c q hm), b, c, fun j p hj => ?_⟩
  by_cases e : j = k
  · subst e
    rw [hq] at hj
    cases hj
    obtain ⟨kvs', g1, g2⟩ := d j q hq
    rw [hv] at g1
    cases g1
    exact ⟨_, upd_same, keys_iff (keys_put g2 h0 h1) fun s => ⟨fun z => z.imp id fun z => ⟨rfl, z⟩, fun z => z.imp id fun z => z.2⟩⟩
  · obtain ⟨kvs', g1, g2⟩ := d j p hj
    have hne : p ≠ q := fun z => by
      subst z
      have i1 := (List.getElem?_eq_some_iff.mp hj)
      have i2 := (List.getElem?_eq_some_iff.mp hq)
      obtain ⟨l1, e1⟩ := i1
      obtain ⟨l2, e2⟩ := i2
      exact e ((List.getElem_inj b).mp (e1.trans e2.symm))
    refine ⟨kvs', ?_, keys_iff g2 fun s => ⟨Or.inl, fun z => z.elim id fun z => absurd z.1 e⟩⟩
    rw [upd_ne hne]
    exact g1
theorem FR.rows {H0 H : Hp} {n : Int} {P : Nat → Int → Prop} {ps : List Addr} {p : Addr} (h : FR H0 H n P ps) (hp : H p = some (.lst (ps.map V.ref))) : Rows H p n P ps.length := ⟨ps, hp, rfl, h.2.2.2⟩
/-! ### readings -/
section
variable {K : PySem.W.Frag} {σ : L2.St} {H H' : Hp} {ta tb te tx : TE} {t u : TT} {x y z v : V} {D : Ends} {tu tw tz : TS}
/-- list(d) -/
theorem el_keys {p : Addr} {kvs : List (Key × V)} {ns : List Int} (ha : Ev ta σ H (.ref p)) (hp : H p = some (.dK kvs)) (hk : kvs.map (fun kv => kV kv.1) = ns.map V.int) : EvL (tCB rListD (tCons ta tNil)) σ H (ns.map V.int) := fun H1 e Q q =>
  ha H1 e _ fun H2 e2 => ⟨p, kvs, rfl, (e.trans e2) _ _ hp, fun l hl => q l _ (fresh_back e2 hl) (e2.trans (Ex.new hl)) (by rw [upd_same, hk])⟩
/-- for k in range(i, -1, -1) -/
theorem s_forR3 {ta : TA} {j : Nat} {m : Nat} {lo : Int} (h : EvA ta σ H [.int lo, .int (-1), .int (-1)]) (hl : lo = (m : Int) - 1) (hm : m ≤ 100000) (Pv : Nat → L2.St → Hp → Prop) (h0 : ∀ H1, Ex H H1 → Pv 0 σ H1)
    (hs : ∀ (i : Nat) σ' H', i < m → Pv i σ' H' → tu { D with nx := Pv (i + 1), ct := Pv (i + 1), bk := D.nx } (σ'.set j (some (.int ((m - 1 - i : Nat) : Int)))) H') (hd : ∀ σ' H', Pv m σ' H' → D.nx σ' H') : tFor (iRng3 ta) (gName j) tu D σ H :=
  h H (Ex.refl H) _ fun H1 e => ⟨lo, -1, -1, m, rfl, by
    have g := RgC.neg (i := lo) (j := -1) (by omega) (by omega) (by omega) (by omega)
    have e2 : (lo - -1).toNat = m := by omega
    rw [e2] at g
    exact g, for_rangeC (lo := lo) (n := m) Pv (h0 H1 e) (fun i σ' H' hi p => by
      have e0 : lo + (i : Nat) * (-1 : Int) = ((m - 1 - i : Nat) : Int) := by omega
      show tu { D with nx := Pv (i + 1), ct := Pv (i + 1), bk := D.nx } (σ'.set j (some (.int (lo + (i : Nat) * (-1 : Int))))) H'
      rw [e0]
      exact hs i σ' H' hi p) hd⟩
theorem q_forR3 {ta : TA} {j : Nat} {m : Nat} {lo : Int} (h : EvA ta σ H [.int lo, .int (-1), .int (-1)]) (hl : lo = (m : Int) - 1) (hm : m ≤ 100000) (Pv : Nat → L2.St → Hp → Prop) (h0 : ∀ H1, Ex H H1 → Pv 0 σ H1)
    (hs : ∀ (i : Nat) σ' H', i < m → Pv i σ' H' → tu { D with nx := Pv (i + 1), ct := Pv (i + 1), bk := tz D } (σ'.set j (some (.int ((m - 1 - i : Nat) : Int)))) H') (hd : ∀ σ' H', Pv m σ' H' → tz D σ' H') : tSeq (tFor (iRng3 ta) (gName j) tu) tz D σ H :=
  s_forR3 (D := { D with nx := tz D }) h hl hm Pv h0 hs hd
/-- comprehensions whose items are new objects -/
theorem lcG_R1 {ta : TA} {j : Nat} {vs : List Nat} {n : Int} {Q : VK} (h : EvA ta σ H [.int n]) (hn : 0 ≤ n ∧ n ≤ 40000) (hw : ∀ x, wipe ((wipe σ vs).set j (some x)) vs = wipe σ vs) (Iv : Addr → Nat → Hp → Prop)
    (h0 : ∀ l H1, H l = none → Ex H H1 → H1 l = some (.lst []) → Iv l 0 H1)
    (hs : ∀ l (i : Nat) H1, (i : Int) < n → Iv l i H1 → te ((wipe σ vs).set j (some (.int (i : Int)))) H1 fun y H4 => ∃ acc, H4 l = some (.lst acc) ∧ acc.length < sizeLine ∧ Iv l (i + 1) (upd H4 l (.lst (acc ++ [y]))))
    (hd : ∀ l H1, Iv l n.toNat H1 → Q (.ref l) H1) : tLc (iRng1 ta) (gName j) tYes te vs σ H Q := h H (Ex.refl H) _ fun H1 e1 => ⟨n, rfl, by omega, by omega, fun l hl =>
  lc_range (lo := 0) (n := n.toNat) (Iv l) (h0 l _ (fresh_back e1 hl) (e1.trans (Ex.new hl)) upd_same) (fun i H' hi p => by
    have e0 : (0 : Int) + (i : Int) = (i : Int) := Int.zero_add _
    refine ⟨hw _, ?_⟩
    show te ((wipe σ vs).set j (some (.int ((0 : Int) + (i : Int))))) H' fun y H4 => ∃ acc, H4 l = some (.lst acc) ∧ acc.length < sizeLine ∧ Iv l (i + 1) (upd H4 l (.lst (acc ++ [y])))
    rw [e0]
    exact hs l i H' (by omega) p) (fun H' p => hd l H' p)⟩
theorem lcG_L {a : Addr} {xs : List V} {tl : TE} {j : Nat} {vs : List Nat} {Q : VK} (h : Ev tl σ H (.ref a)) (hx : SqL K H a xs) (hw : ∀ x, wipe ((wipe σ vs).set j (some x)) vs = wipe σ vs) (Iv : Addr → Nat → Hp → Prop)
    (h0 : ∀ l H1, H l = none → Ex H H1 → H1 l = some (.lst []) → Iv l 0 H1) (hI : ∀ l i H1, Iv l i H1 → Ex H H1)
    (hs : ∀ l i x H1, xs[i]? = some x → Iv l i H1 → te ((wipe σ vs).set j (some x)) H1 fun y H4 => ∃ acc, H4 l = some (.lst acc) ∧ acc.length < sizeLine ∧ Iv l (i + 1) (upd H4 l (.lst (acc ++ [y]))))
    (hd : ∀ l H1, Iv l xs.length H1 → Q (.ref l) H1) : tLc (iList K tl) (gName j) tYes te vs σ H Q := h H (Ex.refl H) _ fun H1 e1 => ⟨a, rfl, ⟨xs, ex_l e1 hx⟩, fun l hl =>
  lc_list (xs := xs) (Iv l) (h0 l _ (fresh_back e1 hl) (e1.trans (Ex.new hl)) upd_same) (fun i H' _ p => ex_l (hI l i H' p) hx) (fun i x H' hi p => ⟨hw x, hs l i x H' hi p⟩) (fun H' p => hd l H' p)⟩
end
section
variable {K : PySem.W.Frag} {σ : L2.St} {H H' : Hp} {ta tb te tx : TE} {t u : TT} {x y z v : V} {D : Ends} {tu tw tz : TS}
theorem q_asgOpLc {a : Addr} {xs : List V} {tl : TE} {j : Nat} {vs : List Nat} {r : R2} {g : TG} (h : Ev tl σ H (.ref a)) (hx : SqL K H a xs) (hw : ∀ x, wipe ((wipe σ vs).set j (some x)) vs = wipe σ vs) (Iv : Addr → Nat → Hp → Prop)
    (h0 : ∀ l H1, H l = none → Ex H H1 → H1 l = some (.lst []) → Iv l 0 H1) (hI : ∀ l i H1, Iv l i H1 → Ex H H1)
    (hs : ∀ l i x H1, xs[i]? = some x → Iv l i H1 → te ((wipe σ vs).set j (some x)) H1 fun y H4 => ∃ acc, H4 l = some (.lst acc) ∧ acc.length < sizeLine ∧ Iv l (i + 1) (upd H4 l (.lst (acc ++ [y]))))
    (hd : ∀ l H1, Iv l xs.length H1 → tb σ H1 fun y H2 => r (.ref l) y H2 fun v H3 => g v σ H3 (tz D)) : tSeq (tAsg (tOp r (tLc (iList K tl) (gName j) tYes te vs) tb) g) tz D σ H :=
  lcG_L (Q := fun x H1 => tb σ H1 fun y H2 => r x y H2 fun v H3 => g v σ H3 (tz D)) h hx hw Iv h0 hI hs hd
theorem s_retLc {a : Addr} {xs : List V} {tl : TE} {j : Nat} {vs : List Nat} (h : Ev tl σ H (.ref a)) (hx : SqL K H a xs) (hw : ∀ x, wipe ((wipe σ vs).set j (some x)) vs = wipe σ vs) (Iv : Addr → Nat → Hp → Prop)
    (h0 : ∀ l H1, H l = none → Ex H H1 → H1 l = some (.lst []) → Iv l 0 H1) (hI : ∀ l i H1, Iv l i H1 → Ex H H1)
    (hs : ∀ l i x H1, xs[i]? = some x → Iv l i H1 → te ((wipe σ vs).set j (some x)) H1 fun y H4 => ∃ acc, H4 l = some (.lst acc) ∧ acc.length < sizeLine ∧ Iv l (i + 1) (upd H4 l (.lst (acc ++ [y]))))
    (hd : ∀ l H1, Iv l xs.length H1 → D.rt (.ref l) H1) : tRet (tLc (iList K tl) (gName j) tYes te vs) D σ H :=
  lcG_L (Q := D.rt) h hx hw Iv h0 hI hs hd
theorem q_asgLcR1 {ta : TA} {i j : Nat} {vs : List Nat} {n : Int} (h : EvA ta σ H [.int n]) (hn : 0 ≤ n ∧ n ≤ 40000) (hw : ∀ x, wipe ((wipe σ vs).set j (some x)) vs = wipe σ vs) (Iv : Addr → Nat → Hp → Prop)
    (h0 : ∀ l H1, H l = none → Ex H H1 → H1 l = some (.lst []) → Iv l 0 H1)
    (hs : ∀ l (i : Nat) H1, (i : Int) < n → Iv l i H1 → te ((wipe σ vs).set j (some (.int (i : Int)))) H1 fun y H4 => ∃ acc, H4 l = some (.lst acc) ∧ acc.length < sizeLine ∧ Iv l (i + 1) (upd H4 l (.lst (acc ++ [y]))))
    (hd : ∀ l H1, Iv l n.toNat H1 → tz D (σ.set i (some (.ref l))) H1) : tSeq (tAsg (tLc (iRng1 ta) (gName j) tYes te vs) (gName i)) tz D σ H :=
  lcG_R1 (Q := fun x H1 => tz D (σ.set i (some x)) H1) h hn hw Iv h0 hs hd
end
/-- l.append(f(..)) -/
theorem s_appC {K : PySem.W.Frag} {σ : L2.St} {H : Hp} {ta : TE} {D : Ends} {l : Addr} {xs vs : List V} {sp : Sp} {E : XK} {tc : TA} (hl : H l = some (.lst xs)) (ha : Ev ta σ H (.ref l)) (hv : EvA tc σ H vs)
    (k : ∀ H1, Ex H H1 → sp vs H1 (fun y H2 => rAppend (.ref l) [y] H2 fun _ H4 => D.nx σ H4) E) : tDrop (tBM K "list" rAppend ta (tCons (tCall sp [] E tc) tNil)) D σ H := ha H (Ex.refl H) _ fun H1 e1 =>
  ⟨Or.inl ⟨rfl, xs, sq_of (e1 l _ hl)⟩, hv H1 e1 _ fun H2 e2 => by
    show sp (vs ++ []) H2 (fun y H2 => rAppend (.ref l) [y] H2 fun _ H4 => D.nx σ H4) E
    rw [List.append_nil]
    exact k H2 (e1.trans e2)⟩
theorem atI_end {α : Type} {xs : List α} {v : α} {m : Nat} (h : xs[m]? = some v) (hl : xs.length = m + 1) : atI xs (-1) = some v := by
  have e : xs = xs.take m ++ [v] := by
    have g := List.take_add_one (l := xs) (i := m)
    rw [h, List.take_of_length_le (by omega)] at g
    exact g
  rw [e]
  exact atI_last _ v
/-- return [.. for x in f(..)[i]] -/
theorem s_retLcIx {K : PySem.W.Frag} {σ : L2.St} {H : Hp} {D : Ends} {sp : Sp} {E : XK} {tc : TA} {ti te : TE} {j : Nat} {ws : List Nat} {vs : List V} (hv : EvA tc σ H vs)
    (k : ∀ H1, Ex H H1 → sp vs H1 (fun x H2 => ti σ H2 fun y H3 => rIxL K x y H3 fun z H4 => tLc (iList K (tC z)) (gName j) tYes te ws σ H4 D.rt) E) : tRet (tLc (iList K (tOp (rIxL K) (tCall sp [] E tc) ti)) (gName j) tYes te ws) D σ H :=
  hv H (Ex.refl H) _ fun H1 e1 => by
    show sp (vs ++ []) H1 _ E
    rw [List.append_nil]
    exact k H1 e1
theorem ref_at {xs : List Addr} {i : Nat} {x : V} (h : (xs.map V.ref)[i]? = some x) : ∃ z, xs[i]? = some z ∧ x = .ref z := by
  rw [List.getElem?_map] at h
  cases e : xs[i]? with
  | none => rw [e] at h; cases h
  | some z => rw [e] at h; exact ⟨z, rfl, (Option.some.inj h).symm⟩
theorem s_forNLn {K : PySem.W.Frag} {σ : L2.St} {H : Hp} {D : Ends} {tu : TS} {xs : List V} {tl : TE} {j : Nat} (h : EvL tl σ H xs) (Pv : Addr → Nat → L2.St → Hp → Prop) (h0 : ∀ p H1, H p = none → Ex H H1 → H1 p = some (.lst xs) → Pv p 0 σ H1) (hl : ∀ p i σ' H', i ≤ xs.length → Pv p i σ' H' → SqL K H' p xs)
    (hs : ∀ p i x σ' H', xs[i]? = some x → Pv p i σ' H' → tu { D with nx := Pv p (i + 1), ct := Pv p (i + 1), bk := D.nx } (σ'.set j (some x)) H') (hd : ∀ p σ' H', Pv p xs.length σ' H' → D.nx σ' H') : tFor (iList K tl) (gName j) tu D σ H :=
  s_forNL h Pv h0 hl hs hd
/-! ### promises -/
noncomputable def setRows (n : Int) (xs : List Int) (k : Nat) : List Int := ((List.range n.toNat).map fun i : Nat => (i : Int)).filter fun r => @decide (Ch xs n k r) (Classical.propDecidable _)
theorem mem_setRows {n : Int} {xs : List Int} {k : Nat} {r : Int} (hn : 0 < n) : r ∈ setRows n xs k ↔ Ch xs n k r := by
  unfold setRows
  rw [List.mem_filter]
  constructor
  · rintro ⟨_, h⟩
    exact @of_decide_eq_true _ (Classical.propDecidable _) h
  · intro h
    obtain ⟨h0, h1⟩ := ch_range hn h
    exact ⟨List.mem_map.mpr ⟨r.toNat, List.mem_range.mpr (by omega), by omega⟩, @decide_eq_true _ (Classical.propDecidable _) h⟩
theorem setRows_rises (n : Int) (xs : List Int) (k : Nat) : (setRows n xs k).Pairwise (· < ·) := by
  unfold setRows
  refine List.Pairwise.filter _ ?_
  rw [List.pairwise_map]
  exact (List.pairwise_lt_range (n := n.toNat)).imp fun h => by omega
theorem setRows_len (n : Int) (xs : List Int) (k : Nat) : (setRows n xs k).length ≤ n.toNat := by
  unfold setRows
  have h := List.length_filter_le (fun r => @decide (Ch xs n k r) (Classical.propDecidable _)) ((List.range n.toNat).map fun i : Nat => (i : Int))
  rw [List.length_map, List.length_range] at h
  exact h
/-- what sorted tells of a row's keys -/
theorem sorted_setRows {n : Int} {xs ns ns' : List Int} {k : Nat} (hn : 0 < n) (h : ∀ r, r ∈ ns ↔ Ch xs n k r) (hd : ns.Nodup) (hp : ns'.Perm ns) (hs : ns'.Pairwise (· ≤ ·)) : ns' = setRows n xs k := by
  refine SrSet.sortedEq _ _ ?_ (setRows_rises n xs k) fun r => ?_
  · have g := hp.symm.nodup hd
    rw [List.nodup_iff_pairwise_ne] at g
    exact (hs.and g).imp fun h => by omega
  · rw [hp.mem_iff, h r, mem_setRows hn]
theorem el_catLV {σ : L2.St} {H : Hp} {ta tb : TE} {q : Addr} {xs ys : List V} (ha : EvL ta σ H xs) (hb : Ev tb σ H (.ref q)) (hq : H q = some (.lst ys)) (hz : xs.length + ys.length ≤ 100000) : EvL (tOp rCat ta tb) σ H (xs ++ ys) := fun H1 e Q k =>
  ha H1 e _ fun p H2 hp2 e2 h2 => hb H2 (e.trans e2) _ fun H3 e3 => ⟨p, q, xs, ys, rfl, rfl, e3 _ _ h2, ((e.trans e2).trans e3) _ _ hq, sz_of hz, fun r hr => k r _ (fresh_back (e2.trans e3) hr) ((e2.trans e3).trans (Ex.new hr)) upd_same⟩
/-- sorted(list(d)) -/
theorem el_sortedKeys {K : PySem.W.Frag} {σ : L2.St} {H : Hp} {ta : TE} {p : Addr} {kvs : List (Key × V)} {ns xs : List Int} {n : Int} {k : Nat} (hn : 0 < n) (ha : Ev ta σ H (.ref p)) (hp : H p = some (.dK kvs)) (hk : kvs.map (fun kv => kV kv.1) = ns.map V.int) (h64 : ns.length < 64)
    (h : ∀ r, r ∈ ns ↔ Ch xs n k r) (hd : ns.Nodup) : EvL (tCB (rSorted K) (tCons (tCB rListD (tCons ta tNil)) tNil)) σ H ((setRows n xs k).map V.int) := fun H1 e Q q =>
  el_keys ha hp hk H1 e _ fun l H2 hl e2 h2 => ⟨l, ns, rfl, sq_of h2, h64, fun ns' p7 hperm hsort hp7 => q p7 _ (fresh_back e2 hp7) (e2.trans (Ex.new hp7)) (by rw [upd_same, sorted_setRows hn h hd hperm hsort])⟩
section
variable (K : PySem.W.Frag)
def spWider : Sp := fun vs H Q _ => ∃ (a : Addr) (ys : List Int) (x n : Int), vs = [.ref a, .int x, .int n] ∧ Rows H a n (Ch ys n) (ys.length + 1) ∧ ys.length ≤ 100 ∧ goodN n ∧
  ∀ p H2, H p = none → Ex H H2 → Rows H2 p n (Ch (ys ++ [x]) n) (ys.length + 2) → Q (.ref p) H2
def Layers (H : Hp) (p : Addr) (xs : List Int) (n : Int) : Prop := ∃ qs : List Addr, H p = some (.lst (qs.map V.ref)) ∧ qs.length = xs.length + 1 ∧ ∀ i q, qs[i]? = some q → Rows H q n (Ch (xs.take i) n) (i + 1)
def spLayers : Sp := fun vs H Q _ => ∃ (a : Addr) (xs : List Int) (n : Int), vs = [.ref a, .int n] ∧ SqL K H a (xs.map V.int) ∧ xs.length ≤ 100 ∧ goodN n ∧
  ∀ p H2, H p = none → Ex H H2 → Layers H2 p xs n → Q (.ref p) H2
def spLawTable : Sp := fun vs H Q _ => ∃ (a : Addr) (xs : List Int) (n : Int) (m : Nat), vs = [.ref a, .int n, .int (m : Int)] ∧ SqL K H a (xs.map V.int) ∧ xs.length ≤ 100 ∧ m ≤ 100 ∧ goodN n ∧
  ∀ p H2, H p = none → Ex H H2 → Rows H2 p n (Ch xs n) (m + 1) → Q (.ref p) H2
def spTable (C : Addr) : Sp := fun vs H Q E => ∃ (a : Addr) (xs : List Int) (n : Int), vs = [.ref a, .int n] ∧ SqL K H a (xs.map V.int) ∧ xs.length ≤ 100 ∧
  (goodN n → ∀ (p : Addr) (qs : List Addr) (H2 : Hp), H p = none → Ex H H2 → H2 p = some (.lst (qs.map V.ref)) → qs.length = xs.length + 1 → (∀ k q, qs[k]? = some q → q ≠ p ∧ H q = none ∧ H2 q = some (.lst ((setRows n xs k).map V.int))) → Q (.ref p) H2) ∧
  (¬ goodN n → ∀ H2, Ex H H2 → E (.ref C) none H2)
end
/-- r not in _law_table(xs, n, m)[m] -/
theorem ev_noneInTable {K : PySem.W.Frag} {σ : L2.St} {H : Hp} {ta ti : TE} {tc : TA} {E : XK} {a : Addr} {xs : List Int} {n r : Int} {m : Nat} (ha : Ev ta σ H (.int r)) (hv : EvA tc σ H [.ref a, .int n, .int (m : Int)]) (hi : Ev ti σ H (.int (m : Int))) (hS : SqL K H a (xs.map V.int))
    (hl : xs.length ≤ 100) (hm : m ≤ 100) (hn : goodN n) (hno : ¬ Ch xs n m r) : Ev (tDNotIn ta (tOp (rIxL K) (tCall (spLawTable K) [] E tc) ti)) σ H (.bl true) := fun H1 e Q q =>
  ha H1 e _ fun H2 e2 => hv H2 (e.trans e2) _ fun H3 e3 => ⟨a, xs, n, m, rfl, ex_l ((e.trans e2).trans e3) hS, hl, hm, hn, fun p H4 hp e4 hR => by
    obtain ⟨as, h4, hal, hrows⟩ := hR
    obtain ⟨r1, hr1⟩ : ∃ r1, as[m]? = some r1 := ⟨_, List.getElem?_eq_getElem (by omega)⟩
    obtain ⟨kvs, g1, g2⟩ := hrows m r1 hr1
    have ix : atI (as.map V.ref) (m : Int) = some (.ref r1) := atI_nat (by rw [List.getElem?_map, hr1]; rfl)
    have g4 : (valV kvs (Sum.inl r : Key)).isSome = false := by
      cases h : (valV kvs (Sum.inl r : Key)).isSome with
      | false => rfl
      | true => exact absurd ((g2.2.2 r).mp h) hno
    refine hi H4 (((e.trans e2).trans e3).trans e4) _ fun H5 e5 => ⟨p, _, _, _, rfl, rfl, sq_of (e5 _ _ h4), ix, r1, _, rfl, DGet.k (k := Sum.inl r) (e5 _ _ g1), ?_⟩
    rw [g4]
    exact q H5 (((e2.trans e3).trans e4).trans e5)⟩
end Sr
namespace Sr
open PySem PySem.Spec PyProof.Rows L2 Evl
/-! ### texts -/
def numS (i : Int) : Str := Str.ofString (toString i)
def numI (i : Int) : List Nat := if 0 ≤ i then TL.numL i.toNat else 45 :: TL.numL (-i).toNat
theorem tl_numS (i : Int) : TL.tl (numS i) = numI i := by
  unfold numS numI
  by_cases h : 0 ≤ i
  · rw [if_pos h]
    have e : i = ((i.toNat : Nat) : Int) := by omega
    rw [e, TL.tl_num, Int.toNat_natCast]
  · rw [if_neg h]
    obtain ⟨k, rfl⟩ : ∃ k : Nat, i = Int.negSucc k := ⟨(-i - 1).toNat, by omega⟩
    have e2 : (-(Int.negSucc k)).toNat = k + 1 := by omega
    rw [e2, TL.tl_ofString]
    show ("-" ++ Nat.repr (k + 1)).toList.map Char.toNat = _
    rw [String.toList_append, List.map_append, Nat.toList_repr]
    rfl
theorem numL_len13 {m : Nat} (h : m ≤ 1000000000000) : (TL.numL m).length ≤ 13 := TL.numL_len (by decide) (by omega)
theorem numL_head : ∀ m : Nat, (TL.numL m)[0]? = some 48 → (TL.numL m).length = 1 := by
  intro m
  induction m using Nat.strongRecOn with
  | ind m ih =>
    intro h
    by_cases h10 : m < 10
    · rw [TL.numL_lt h10]
      rfl
    · rw [TL.numL_step (by omega)] at h
      have hne := TL.numL_ne (m / 10)
      have hpos : 0 < (TL.numL (m / 10)).length := List.length_pos_iff.mpr hne
      rw [List.getElem?_append_left hpos] at h
      have h1 := ih (m / 10) (by omega) h
      have hv := TL.numL_val (m / 10)
      obtain ⟨a, ha⟩ : ∃ a, TL.numL (m / 10) = [a] := by
        match e : TL.numL (m / 10), h1 with
        | [a], _ => exact ⟨a, rfl⟩
      rw [ha] at h hv
      have ea : a = 48 := Option.some.inj h
      subst ea
      have : (0 : Nat) = m / 10 := hv
      omega
theorem numI_len {i : Int} (h : -1000000000000 ≤ i ∧ i ≤ 1000000000000) : (numI i).length ≤ 14 := by
  unfold numI
  split
  · have := numL_len13 (m := i.toNat) (by omega)
    omega
  · have := numL_len13 (m := (-i).toNat) (by omega)
    rw [List.length_cons]
    omega
theorem numI_free {i : Int} {s : Nat} (h : s = 58 ∨ s = 32) : s ∉ numI i := by
  unfold numI
  split
  · exact TL.numL_free (by omega)
  · intro z
    rcases List.mem_cons.mp z with z | z
    · omega
    · exact TL.numL_free (by omega) z
section
variable {K : PySem.W.Frag} {σ : L2.St} {H H' : Hp} {ta tb te tx : TE} {t u : TT} {x y z v : V} {D : Ends} {tu tw tz : TS}
theorem ev_lenS {z : Str} (ha : Ev ta σ H (.str z)) (hz : z.length ≤ 100000) : Ev (tCB (fun xs H Q => ∃ z, xs = [.str z] ∧ z.length ≤ sizeLine ∧ Q (.int z.length) H) (tCons ta tNil)) σ H (.int (z.length : Int)) := fun H1 e Q q =>
  ha H1 e _ fun H2 e2 => ⟨z, rfl, sz_of hz, q H2 e2⟩
theorem ev_strI {i : Int} (ha : Ev ta σ H (.int i)) (hi : i.natAbs.log2 < 1920) : Ev (tCB (fun xs H Q => ∃ i : Int, xs = [.int i] ∧ i.natAbs.log2 < 1920 ∧ Q (.str (toString i)) H) (tCons ta tNil)) σ H (.str (numS i)) := fun H1 e Q q =>
  ha H1 e _ fun H2 e2 => ⟨i, rfl, hi, q H2 e2⟩
theorem ev_intS {a : Str} {n : Int} (ha : Ev ta σ H (.str a)) (hn : PySem.intText? a = some n) (hl : a.length ≤ 640) : Ev (tCB (fun xs H Q => ∃ a n, xs = [.str a] ∧ PySem.intText? a = some n ∧ a.length ≤ 640 ∧ Q (.int n) H) (tCons ta tNil)) σ H (.int n) := fun H1 e Q q =>
  ha H1 e _ fun H2 e2 => ⟨a, n, rfl, hn, hl, q H2 e2⟩
theorem ev_catS {a b : Str} (ha : Ev ta σ H (.str a)) (hb : Ev tb σ H (.str b)) (hl : a.length + b.length ≤ 100000) : Ev (tOp (fun x y H Q => ∃ i j, x = .str i ∧ y = .str j ∧ i.length + j.length ≤ sizeLine ∧ Q (.str (i ++ j)) H) ta tb) σ H (.str (a ++ b)) := fun H1 e Q q =>
  ha H1 e _ fun H2 e2 => hb H2 (e.trans e2) _ fun H3 e3 => ⟨a, b, rfl, rfl, sz_of hl, q H3 (e2.trans e3)⟩
theorem ev_cutS {tl th : TO} {a : Str} {lo hi : Option Int} (h : Ev te σ H (.str a)) (h1 : EvO tl σ H lo) (h2 : EvO th σ H hi) (hl : a.length ≤ 100000) : Ev (tSl rSlS te tl th) σ H (.str (cutS a lo hi)) := fun H1 e Q q =>
  h H1 e _ fun H2 e2 => h1 H2 (e.trans e2) _ fun H3 e3 => h2 H3 ((e.trans e2).trans e3) _ fun H4 e4 => ⟨a, rfl, sz_of hl, q H4 ((e2.trans e3).trans e4)⟩
theorem ev_find {a b : Str} (ha : Ev ta σ H (.str a)) (hb : Ev tb σ H (.str b)) : Ev (tM1 (fun x xs H Q => ∃ a b, x = .str a ∧ xs = [.str b] ∧ Q (.int (Txt.find a b)) H) ta tb) σ H (.int (Txt.find a b)) := fun H1 e Q q =>
  ha H1 e _ fun H2 e2 => ⟨⟨a, rfl⟩, hb H2 (e.trans e2) _ fun H3 e3 => ⟨a, b, rfl, rfl, q H3 (e2.trans e3)⟩⟩
theorem el_split {a b : Str} (ha : Ev ta σ H (.str a)) (hb : Ev tb σ H (.str b)) (h0 : (b.length == 0) = false) (hl : a.length + 2 ≤ 100000) : EvL (tM1 (fun x xs H Q => ∃ a b, x = .str a ∧ xs = [.str b] ∧ (b.length == 0) = false ∧ a.length + 2 ≤ sizeLine ∧ rNewStrs (Txt.split a b) H Q) ta tb) σ H ((Txt.split a b).map V.str) := fun H1 e Q q =>
  ha H1 e _ fun H2 e2 => ⟨⟨a, rfl⟩, hb H2 (e.trans e2) _ fun H3 e3 => ⟨a, b, rfl, rfl, h0, sz_of hl, fun p hp => q p _ (fresh_back (e2.trans e3) hp) ((e2.trans e3).trans (Ex.new hp)) upd_same⟩⟩
theorem ev_join {a : Str} {ys : List Str} (ha : Ev ta σ H (.str a)) (hb : EvL tb σ H (ys.map V.str)) (hl : (ys.map (·.length)).sum + ys.length * a.length ≤ 16777216) : Ev (tM1 (fun x xs H Q => ∃ a p, ∃ ys : List Str, x = .str a ∧ xs = [.ref p] ∧ (SqL K H p (ys.map V.str) ∨ SqT K H p (ys.map V.str)) ∧
    (ys.map (·.length)).sum + ys.length * a.length ≤ 16777216 ∧ Q (.str (Txt.join a ys)) H) ta tb) σ H (.str (Txt.join a ys)) := fun H1 e Q q =>
  ha H1 e _ fun H2 e2 => ⟨⟨a, rfl⟩, hb H2 (e.trans e2) _ fun p H3 _ e3 h3 => ⟨a, p, ys, rfl, rfl, Or.inl (sq_of h3), hl, q H3 (e2.trans e3)⟩⟩
theorem decStr {a b : Str} : decide (V.str a = V.str b) = decide (a = b) := by
  rw [Bool.eq_iff_iff]
  simp
theorem et_eqS {a b : Str} (ha : Ev ta σ H (.str a)) (hb : Ev tb σ H (.str b)) : EvT (tTest (tOp rEq ta tb)) σ H (decide (a = b)) := by
  have h := et_op ha hb (rv_eq (H := H) (x := .str a) (y := .str b) rfl)
  rw [decStr] at h
  exact h
theorem et_neS {a b : Str} (ha : Ev ta σ H (.str a)) (hb : Ev tb σ H (.str b)) : EvT (tTest (tOp rNe ta tb)) σ H (!decide (a = b)) := by
  have h := et_op ha hb (rv_ne (H := H) (x := .str a) (y := .str b) rfl)
  rw [decStr] at h
  exact h
theorem et_noSign {c : Nat} {z : Str} (ha : Ev ta σ H (.str ⟨#[c]⟩)) (hb : Ev tb σ H (.str z)) : EvT (tTest (tOp (fun x y H Q => ∃ (c : Nat) (z : Str), x = .str ⟨#[c]⟩ ∧ y = .str z ∧ Q (.bl (!decide (c ∈ z.cps.toList))) H) ta tb)) σ H (!decide (c ∈ z.cps.toList)) := fun H1 e Q q =>
  ha H1 e _ fun H2 e2 => hb H2 (e.trans e2) _ fun H3 e3 => ⟨c, z, rfl, rfl, _, rfl, q H3 (e2.trans e3)⟩
/-- for c in z -/
theorem s_forS {z : Str} {j : Nat} (h : Ev te σ H (.str z)) (Pv : Nat → L2.St → Hp → Prop) (h0 : ∀ H1, Ex H H1 → Pv 0 σ H1)
    (hs : ∀ (i c : Nat) σ' H', (TL.tl z)[i]? = some c → Pv i σ' H' → tu { D with nx := Pv (i + 1), ct := Pv (i + 1), bk := D.nx } (σ'.set j (some (.str ⟨#[c]⟩))) H') (hd : ∀ σ' H', Pv (TL.tl z).length σ' H' → D.nx σ' H') : tFor (iStr te) (gName j) tu D σ H :=
  h H (Ex.refl H) _ fun H1 e1 => ⟨z, rfl, fun i m σ H => m = z.cps.size - i ∧ i ≤ z.cps.size ∧ Pv i σ H, ⟨z.cps.size, by simp, Nat.zero_le _, h0 H1 e1⟩, by
    rintro i m σ' H' ⟨rfl, hi, p⟩
    by_cases hlt : i < z.cps.size
    · refine .inr ⟨hlt, Pv (i + 1), fun σ' H' p' => ⟨z.cps.size - (i + 1), by omega, rfl, hlt, p'⟩, fun x H2 y => ?_⟩
      obtain ⟨e, c, hc, ex⟩ := y
      subst e ex
      refine hs i c σ' _ ?_ p
      rw [Array.getElem?_toList]
      exact hc
    · have e : i = z.cps.size := by omega
      subst e
      refine .inl ⟨Nat.le_refl _, hd σ' H' ?_⟩
      rw [Array.length_toList]
      exact p⟩
theorem q_forS {z : Str} {j : Nat} (h : Ev te σ H (.str z)) (Pv : Nat → L2.St → Hp → Prop) (h0 : ∀ H1, Ex H H1 → Pv 0 σ H1)
    (hs : ∀ (i c : Nat) σ' H', (TL.tl z)[i]? = some c → Pv i σ' H' → tu { D with nx := Pv (i + 1), ct := Pv (i + 1), bk := tz D } (σ'.set j (some (.str ⟨#[c]⟩))) H') (hd : ∀ σ' H', Pv (TL.tl z).length σ' H' → tz D σ' H') : tSeq (tFor (iStr te) (gName j) tu) tz D σ H :=
  s_forS (D := { D with nx := tz D }) h Pv h0 hs hd
end
end Sr
namespace Sr
open PySem PySem.Spec PyProof.Rows L2 Evl
/-! ### a round and numbers as a text -/
def bodyL (xs : List Int) : List Nat := xs.flatMap fun x => 32 :: numI x
def shownS (n : Int) (xs : List Int) : Str := (numS n ++ (":" : Str)) ++ Txt.join ("" : Str) (xs.map fun x => (" " : Str) ++ numS x)
theorem tl_colon : TL.tl (":" : Str) = [58] := by decide +kernel
theorem tl_blank : TL.tl (" " : Str) = [32] := by decide +kernel
theorem tl_empty : TL.tl ("" : Str) = [] := by decide +kernel
theorem joinL_nil : ∀ l : List (List Nat), TL.joinL [] l = l.flatten
  | [] => rfl
  | [p] => by simp [TL.joinL]
  | p :: q :: r => by
    show p ++ ([] ++ TL.joinL [] (q :: r)) = _
    rw [joinL_nil (q :: r)]
    rfl
theorem tl_shown (n : Int) (xs : List Int) : TL.tl (shownS n xs) = numI n ++ 58 :: bodyL xs := by
  unfold shownS bodyL
  rw [TL.tl_append, TL.tl_append, TL.join_eq, TL.tl_join, tl_numS, tl_colon, tl_empty, joinL_nil, List.append_assoc, List.map_map]
  have e : xs.map (TL.tl ∘ fun x => (" " : Str) ++ numS x) = xs.map fun x => 32 :: numI x := List.map_congr_left fun x _ => by
    show TL.tl ((" " : Str) ++ numS x) = _
    rw [TL.tl_append, tl_blank, tl_numS]
    rfl
  rw [e, List.flatMap_def]
  rfl
theorem body_len : ∀ xs : List Int, (∀ x ∈ xs, -1000000000000 ≤ x ∧ x ≤ 1000000000000) → (bodyL xs).length ≤ 15 * xs.length
  | [], _ => Nat.le_refl 0
  | x :: xs, h => by
    have ih := body_len xs fun y hy => h y (List.mem_cons_of_mem _ hy)
    have := numI_len (h x List.mem_cons_self)
    unfold bodyL at ih ⊢
    rw [List.flatMap_cons, List.length_append, List.length_cons, List.length_cons]
    omega
theorem shown_len {n : Int} {xs : List Int} (hn : goodN n) (hl : xs.length ≤ 60) (h : ∀ x ∈ xs, -1000000000000 ≤ x ∧ x ≤ 1000000000000) : (shownS n xs).length ≤ 1000 := by
  rw [TL.len_tl, tl_shown, List.length_append, List.length_cons]
  have := body_len xs h
  have := numI_len (i := n) (by have := hn.1; have := hn.2; omega)
  omega
theorem shown_snoc (n : Int) (xs : List Int) (x : Int) : shownS n (xs ++ [x]) = (shownS n xs ++ (" " : Str)) ++ numS x := by
  refine TL.ext_tl ?_
  rw [TL.tl_append, TL.tl_append, tl_shown, tl_shown, tl_blank, tl_numS]
  unfold bodyL
  rw [List.flatMap_append, List.append_assoc, List.append_assoc]
  simp
theorem find_first {x y : Str} {c : Nat} {a b : List Nat} (hy : TL.tl y = [c]) (h : TL.tl x = a ++ c :: b) (ha : c ∉ a) : Txt.find x y = (a.length : Int) := by
  have hne : TL.tl y ≠ [] := by rw [hy]; simp
  have hat : StrLaws.At x y x.length a.length := (TL.at_iff hne _).mpr (by
    rw [hy, h, List.drop_left]
    show ([c] == [c]) = true
    exact beq_self_eq_true _)
  have hno : ∀ k, k < a.length → ¬ StrLaws.At x y x.length k := fun k hk z => by
    have g := (TL.at_iff hne _).mp z
    rw [hy, h, List.drop_append_of_le_length (Nat.le_of_lt hk), List.drop_eq_getElem_cons hk] at g
    have g2 : ([a[k]] == [c]) = true := g
    have g3 := beq_iff_eq.mp g2
    injection g3 with g3
    exact ha (g3 ▸ List.getElem_mem hk)
  rcases find_whole x y with ⟨_, hn⟩ | ⟨i, he, hi, hk⟩
  · exact absurd hat (hn _)
  · rw [he]
    rcases Nat.lt_trichotomy i a.length with g | g | g
    · exact absurd hi (hno i g)
    · rw [g]
    · exact absurd hat (hk _ g)
theorem tl_cut (z : Str) (lo hi : Option Int) : TL.tl (cutS z lo hi) = ((TL.tl z).drop (HT.sIx z.length 0 lo)).take (HT.sIx z.length z.length hi - HT.sIx z.length 0 lo) := rfl
theorem cut_to {z : Str} {k : Nat} (h : k ≤ (TL.tl z).length) : TL.tl (cutS z none (some (k : Int))) = (TL.tl z).take k := by
  rw [tl_cut, HT.sIx_nat, ← TL.len_tl] at *
  show ((TL.tl z).drop 0).take (min k z.length - 0) = _
  rw [Nat.min_eq_left h]
  rfl
theorem cut_from {z : Str} {k : Nat} (h : k ≤ (TL.tl z).length) : TL.tl (cutS z (some (k : Int)) none) = (TL.tl z).drop k := by
  rw [tl_cut, HT.sIx_nat, ← TL.len_tl] at *
  show ((TL.tl z).drop (min k z.length)).take (z.length - min k z.length) = _
  rw [Nat.min_eq_left h, TL.len_tl, ← List.length_drop, List.take_length]
theorem cut_round (n : Int) (xs : List Int) : cutS (shownS n xs) none (some ((numI n).length : Int)) = numS n := by
  refine TL.ext_tl ?_
  rw [cut_to (by rw [tl_shown, List.length_append]; omega), tl_shown, List.take_left, tl_numS]
theorem body_join : ∀ xs : List Int, TL.joinL [32] ([] :: xs.map numI) = bodyL xs
  | [] => rfl
  | x :: xs => by
    have ih := body_join xs
    show [] ++ ([32] ++ TL.joinL [32] (numI x :: xs.map numI)) = _
    unfold bodyL at ih ⊢
    rw [List.flatMap_cons, ← ih]
    cases xs with
    | nil => simp [TL.joinL]
    | cons y ys => simp [TL.joinL]
theorem split_body {z : Str} {xs : List Int} (h : TL.tl z = bodyL xs) : Txt.split z (" " : Str) = ("" : Str) :: xs.map numS := by
  have e : z = Txt.join (" " : Str) (("" : Str) :: xs.map numS) := by
    refine TL.ext_tl ?_
    rw [TL.join_eq, TL.tl_join, h, tl_blank, ← body_join, List.map_cons, tl_empty, List.map_map]
    congr 2
    refine List.map_congr_left fun x _ => ?_
    exact (tl_numS x).symm
  rw [e]
  refine TL.split_join (s := 32) (S := []) tl_blank (by decide +kernel) (by simp) fun p hp => ?_
  rcases List.mem_cons.mp hp with rfl | hp
  · rw [tl_empty]
    simp
  · obtain ⟨x, _, rfl⟩ := List.mem_map.mp hp
    rw [tl_numS]
    exact numI_free (Or.inr rfl)
/-! ### promises -/
def inB (x : Int) : Prop := -1000000000000 ≤ x ∧ x ≤ 1000000000000
section
variable (K : PySem.W.Frag)
def spShown : Sp := fun vs H Q _ => ∃ (a : Addr) (xs : List Int) (n : Int), vs = [.ref a, .int n] ∧ SqL K H a (xs.map V.int) ∧ xs.length ≤ 60 ∧ goodN n ∧ (∀ x ∈ xs, inB x) ∧ RetV (.str (shownS n xs)) H Q
def spFigs : Sp := fun vs H Q _ => ∃ m : Nat, vs = [.str (numS (m : Int))] ∧ m ≤ 1000000000000 ∧ RetV (.int (m : Int)) H Q
def spNumOf : Sp := fun vs H Q _ => ∃ x : Int, vs = [.str (numS x)] ∧ inB x ∧ RetV (.int x) H Q
def spRead : Sp := fun vs H Q _ => ∃ (xs : List Int) (n : Int), vs = [.str (shownS n xs)] ∧ xs.length ≤ 60 ∧ goodN n ∧ (∀ x ∈ xs, inB x) ∧
  ∀ p q H2, H p = none → Ex H H2 → H2 p = some (.tup [.ref q, .int n]) → H2 q = some (.lst (xs.map V.int)) → Q (.ref p) H2
def spTold : Sp := fun vs H Q _ => ∃ (p q b : Addr) (xs : List Int) (n : Int), vs = [.ref p, .ref b, .int n] ∧ H p = some (.tup [.ref q, .int n]) ∧ H q = some (.lst (xs.map V.int)) ∧ SqL K H b (xs.map V.int) ∧ RetV (.bl true) H Q
end
theorem log_le {i : Int} (h : inB i) : i.natAbs.log2 < 1920 := by
  have h2 : i.natAbs < 2 ^ 1920 := Nat.lt_of_le_of_lt (show i.natAbs ≤ 2 ^ 40 by have := h.1; have := h.2; omega) (by decide +kernel)
  by_cases h0 : i.natAbs = 0
  · rw [h0]
    decide
  · exact (Nat.log2_lt h0).mpr h2
theorem s_retTupL {σ : L2.St} {H : Hp} {ta tb : TE} {D : Ends} {xs : List V} {y : V} (h : EvL ta σ H xs) (hb : Ev tb σ H y) (k : ∀ p q H1, H p = none → Ex H H1 → H1 p = some (.tup [.ref q, y]) → H1 q = some (.lst xs) → D.rt (.ref p) H1) : tRet (tTup (tCons ta (tCons tb tNil))) D σ H :=
  h H (Ex.refl H) _ fun q H1 hq e1 h1 => hb H1 e1 _ fun H2 e2 => ⟨by show 2 ≤ sizeLine; decide, fun p hp => k p q _ (fresh_back (e1.trans e2) hp) ((e1.trans e2).trans (Ex.new hp)) upd_same ((Ex.new hp) _ _ (e2 _ _ h1))⟩
theorem ev_toldOf {K : PySem.W.Frag} {σ : L2.St} {H : Hp} {E E' : XK} {tz : TA} {tr : TA} {b : Addr} {xs : List Int} {n : Int} (h : EvA tz σ H [.str (shownS n xs)]) (hr : EvA tr σ H [.ref b, .int n]) (hS : SqL K H b (xs.map V.int)) (hl : xs.length ≤ 60) (hn : goodN n) (hb : ∀ x ∈ xs, inB x) :
    Ev (tCall (spTold K) [] E (tCons (tCall spRead [] E' tz) tr)) σ H (.bl true) := fun H1 e Q q =>
  h H1 e _ fun H2 e2 => ⟨xs, n, rfl, hl, hn, hb, fun p r H3 hp e3 h3 h3' => hr H3 ((e.trans e2).trans e3) _ fun H4 e4 => ⟨p, r, b, xs, n, rfl, e4 _ _ h3, e4 _ _ h3', ex_l (((e.trans e2).trans e3).trans e4) hS, fun H5 e5 => q H5 (((e2.trans e3).trans e4).trans e5)⟩⟩
end Sr
namespace Sr
open PySem PySem.Spec PyProof.Rows L2 Evl
/-! ### the defs of the text -/
def topS (i : Nat) : Stmt := PySem.Challenge.pw_sumrests_k12_lists_written.main.body.getD i (.Pass ⟨0, 0, 0, 0⟩)
abbrev slaw_number_by : Stmt := topS 15
theorem sclaw_number_by : FnScope ["cell", "way"] ["cell", "way"] (defScope slaw_number_by) := ⟨rfl, rfl, rfl, by decide +kernel, rfl, by decide +kernel, by decide +kernel⟩
abbrev slaw_cell_at : Stmt := topS 13
theorem sclaw_cell_at : FnScope ["script", "k"] ["script", "k"] (defScope slaw_cell_at) := ⟨rfl, rfl, rfl, by decide +kernel, rfl, by decide +kernel, by decide +kernel⟩
abbrev slaw_numbers : Stmt := topS 16
theorem sclaw_numbers : FnScope ["script", "first", "count", "way", "found", "k", "kind"] ["script", "first", "count", "way"] (defScope slaw_numbers) := ⟨rfl, rfl, rfl, by decide +kernel, rfl, by decide +kernel, by decide +kernel⟩
abbrev sshown : Stmt := topS 8
theorem scshown : FnScope ["numbers", "n", "number"] ["numbers", "n"] (defScope sshown) := ⟨rfl, rfl, rfl, by decide +kernel, rfl, by decide +kernel, by decide +kernel⟩
abbrev slaw_whole : Stmt := topS 14
theorem sclaw_whole : FnScope ["found"] ["found"] (defScope slaw_whole) := ⟨rfl, rfl, rfl, by decide +kernel, rfl, by decide +kernel, by decide +kernel⟩
abbrev slaw_is_told : Stmt := topS 18
theorem sclaw_is_told : FnScope ["found", "numbers", "n", "number"] ["found", "numbers", "n"] (defScope slaw_is_told) := ⟨rfl, rfl, rfl, by decide +kernel, rfl, by decide +kernel, by decide +kernel⟩
abbrev sfigures_of : Stmt := topS 9
theorem scfigures_of : FnScope ["word", "sign"] ["word"] (defScope sfigures_of) := ⟨rfl, rfl, rfl, by decide +kernel, rfl, by decide +kernel, by decide +kernel⟩
abbrev snumber_of : Stmt := topS 10
theorem scnumber_of : FnScope ["word", "number"] ["word"] (defScope snumber_of) := ⟨rfl, rfl, rfl, by decide +kernel, rfl, by decide +kernel, by decide +kernel⟩
abbrev sread : Stmt := topS 11
theorem scread : FnScope ["text", "colon", "n", "words", "word"] ["text"] (defScope sread) := ⟨rfl, rfl, rfl, by decide +kernel, rfl, by decide +kernel, by decide +kernel⟩
abbrev slaw_text : Stmt := topS 17
theorem sclaw_text : FnScope ["numbers", "n", "text", "number"] ["numbers", "n"] (defScope slaw_text) := ⟨rfl, rfl, rfl, by decide +kernel, rfl, by decide +kernel, by decide +kernel⟩
abbrev slaw : Stmt := topS 19
theorem sclaw : FnScope ["script", "n", "count", "numbers", "handed", "found"] ["script"] (defScope slaw) := ⟨rfl, rfl, rfl, by decide +kernel, rfl, by decide +kernel, by decide +kernel⟩
section
variable {P : Program} {w : World} {K : PySem.W.Frag} {mg : Str → Option Value} {base : Heap}
theorem oklaw_number_by (T : Top K mg "_law_number_by" slaw_number_by ["cell", "way"]) : Cal0 P w K mg base "_law_number_by" 1 ["cell", "way"] spNumBy := by
  obtain ⟨f, fd, F, hm, hb⟩ := T
  refine ⟨f, fd, F.ok sclaw_number_by (fun vs H Q E h => ?_) (fun cdv A outer s H vs Q E hr h => ?_), hm, F.kp, hb⟩
  · obtain ⟨c, way, rfl, _⟩ := h
    rfl
  · obtain ⟨c, way, rfl, q⟩ := h
    refine ⟨_, (pss_cons (ps_if (pt_cmpR op_eq (pv 1) pe_int (nomark _)) (pss_one (ps_ret (pe_op op_sub (pe_op op_mod (pv 0) pe_int) pe_int))) pss_nil)
      (pss_cons (ps_if (pt_cmpR op_eq (pv 1) pe_int (nomark _)) (pss_one (ps_ret (pe_op op_mod (pv 0) pe_int))) pss_nil)
      (pss_cons (ps_if (pt_cmpR op_eq (pv 1) pe_int (nomark _)) (pss_one (ps_ret (pe_op op_sub (pe_op op_mod (pv 0) (pe_op op_add (pe_op op_mul pe_int (pe_op op_pow pe_int pe_int)) pe_int)) (pe_op op_pow pe_int pe_int)))) pss_nil)
      (pss_one (ps_ret (pe_ix (k_ixL K) (pe_lst (pa_cons (pe_op op_pow pe_int pe_int) (pa_cons (pe_un un_neg (pe_op op_pow pe_int pe_int)) (pa_cons (pe_op op_sub (pe_op op_pow pe_int pe_int) (pe_op op_mod (pe_op op_fdivP (pv 0) pe_int) pe_int)) pa_nil)))) (pe_op op_mod (pv 0) pe_int) (fun _ _ => rfl))))))), ?_⟩
    have p12 : ∀ {σ : L2.St} {H : Hp}, Ev (tOp (rI CPow fun i j => .int (i ^ j.toNat)) (tC (.int 10)) (tC (.int 12))) σ H (.int 1000000000000) := ev_int (ev_pow ev_c ev_c ⟨by decide, by decide, by decide⟩) (by decide)
    refine q_when (et_eq (ev_var rfl) ev_c) (fun hb H1 e1 => ?_) (fun h1 H1 e1 => ?_)
    · have e := of_decide_eq_true hb
      refine s_ret (ev_sub (ev_mod (ev_var rfl) ev_c (by decide)) ev_c) fun H2 e2 => ?_
      have g := q.go (e1.trans e2)
      unfold numberBy at g
      rw [if_pos e] at g
      exact g
    have n1 := of_decide_eq_false h1
    refine q_when (et_eq (ev_var rfl) ev_c) (fun hb H2 e2 => ?_) (fun h2 H2 e2 => ?_)
    · have e := of_decide_eq_true hb
      refine s_ret (ev_mod (ev_var rfl) ev_c (by decide)) fun H3 e3 => ?_
      have g := q.go ((e1.trans e2).trans e3)
      unfold numberBy at g
      rw [if_neg n1, if_pos e] at g
      exact g
    have n2 := of_decide_eq_false h2
    refine q_when (et_eq (ev_var rfl) ev_c) (fun hb H3 e3 => ?_) (fun h3 H3 e3 => ?_)
    · have e := of_decide_eq_true hb
      refine s_ret (ev_sub (ev_mod (ev_var rfl) (ev_add (ev_mul ev_c p12 (.inl (by decide))) ev_c) (by decide)) p12) fun H4 e4 => ?_
      have g := q.go (((e1.trans e2).trans e3).trans e4)
      unfold numberBy at g
      rw [if_neg n1, if_neg n2, if_pos e] at g
      exact g
    have n3 := of_decide_eq_false h3
    refine s_ret (ev_itemNL (el_lst (ea_cons p12 (ea_cons (ev_negI p12) (ea_cons (ev_sub p12 (ev_mod (ev_div (ev_var rfl) ev_c (by decide) (by decide)) ev_c (by decide))) ea_nil))) (by show (3 : Nat) ≤ 100000; decide)) (ev_mod (ev_var rfl) ev_c (by decide)) (v := .int (numberBy c way)) ?_) fun H4 e4 => q.go (((e1.trans e2).trans e3).trans e4)
    unfold numberBy
    rw [if_neg n1, if_neg n2, if_neg n3]
    have h0 : c % 3 = 0 ∨ c % 3 = 1 ∨ c % 3 = 2 := by omega
    rcases h0 with e | e | e
    · rw [e, if_pos rfl]
      exact atI_nat (j := 0) rfl
    · rw [e, if_neg (by decide), if_pos rfl]
      exact atI_nat (j := 1) rfl
    · rw [e, if_neg (by decide), if_neg (by decide)]
      exact atI_nat (j := 2) rfl
theorem oklaw_cell_at (T : Top K mg "_law_cell_at" slaw_cell_at ["script", "k"]) (nb : NB mg) : Cal0 P w K mg base "_law_cell_at" 1 ["script", "k"] (spCell K) := by
  obtain ⟨f, fd, F, hm, hb⟩ := T
  refine ⟨f, fd, F.ok sclaw_cell_at (fun vs H Q E h => ?_) (fun cdv A outer s H vs Q E hr h => ?_), hm, F.kp, hb⟩
  · obtain ⟨a, cs, k, rfl, _⟩ := h
    rfl
  · obtain ⟨a, cs, k, rfl, hS, h0, q⟩ := h
    refine ⟨_, (pss_cons (ps_if (pt_cmpR op_lt (pv 1) (pe_callB (k_len K) (by rfl) nb.len (by decide +kernel) (pa_cons (pv 0) pa_nil)) (nomark _)) (pss_one (ps_ret (pe_ix (k_ixL K) (pv 0) (pv 1) (fun _ _ => rfl)))) pss_nil)
      (pss_one (ps_ret pe_int))), ?_⟩
    refine q_when (et_lt (ev_var rfl) (ev_lenL (ev_var rfl) hS)) (fun hb H1 e1 => ?_) (fun hb H1 e1 => ?_)
    · have hlt := of_decide_eq_true hb
      rw [List.length_map] at hlt
      exact s_ret (ev_itemL (ev_var rfl) (ev_var rfl) (ex_l e1 hS) (atI_map h0 hlt)) fun H2 e2 => q.go (e1.trans e2)
    · have hge := of_decide_eq_false hb
      rw [List.length_map] at hge
      have e : cell cs k = 0 := by
        unfold cell
        rw [List.getD_eq_getElem?_getD, List.getElem?_eq_none (by omega)]
        rfl
      rw [e] at q
      exact s_ret ev_c fun H2 e2 => q.go (e1.trans e2)
theorem oklaw_numbers (T : Top K mg "_law_numbers" slaw_numbers ["script", "first", "count", "way"]) (nb : NB mg) (claw_cell_at : Cal0 P w K mg base "_law_cell_at" 1 ["script", "k"] (spCell K)) (claw_number_by : Cal0 P w K mg base "_law_number_by" 1 ["cell", "way"] spNumBy) :
    Cal0 P w K mg base "_law_numbers" 2 ["script", "first", "count", "way"] (spNums K) := by
  obtain ⟨f, fd, F, hm, hb⟩ := T
  refine ⟨f, fd, F.ok sclaw_numbers (fun vs H Q E h => ?_) (fun cdv A outer s H vs Q E hr h => ?_), hm, F.kp, hb⟩
  · obtain ⟨a, cs, first, count, way, rfl, _⟩ := h
    rfl
  · obtain ⟨a, cs, first, count, way, rfl, hS, hf, hc, q⟩ := h
    refine ⟨_, (pss_cons (ps_set (i := 4) sclaw_numbers.nd rfl (Or.inl rfl) (pe_lst pa_nil))
      (pss_cons (ps_for PassesOwn.never rfl (pi_range1 (by rfl) nb.range (pa_cons (pv 2) pa_nil)) (pg_name (i := 5) sclaw_numbers.nd rfl (Or.inl rfl)) (pss_cons (ps_set (i := 6) sclaw_numbers.nd rfl (Or.inl rfl) (pv 3))
      (pss_cons (ps_if (pt_cmpR op_gt (pv 3) pe_int (nomark _)) (pss_one (ps_set (i := 6) sclaw_numbers.nd rfl (Or.inl rfl) (pe_op op_mod (pe_op op_add (pv 3) (pe_op op_fdivP (pv 5) pe_int)) pe_int))) pss_nil)
      (pss_one (ps_expr (pe_bm PySem.F.plainAttrs_list PySem.F.slot_list_append PySem.F.type_list_append mt_append (pv 4) (pa_cons (pe_cal claw_number_by (hr.mono (by decide)) pass0 (pa_cons (pe_cal claw_cell_at (hr.mono (by decide)) pass0 (pa_cons (pv 0) (pa_cons (pe_op op_add (pv 1) (pv 5)) pa_nil))) (pa_cons (pv 6) pa_nil))) pa_nil)))))))
      (pss_one (ps_ret (pv 4))))), ?_⟩
    refine q_asgL (el_lst ea_nil (by decide)) fun p H1 hp e1 hl => ?_
    refine q_forR1 (ea_cons (ev_var rfl) ea_nil) ⟨by omega, by omega⟩ (fun i σ' H' => ∃ y5 y6, σ' = [some (.ref a), some (.int first), some (.int (count : Int)), some (.int way), some (.ref p), y5, y6] ∧ Ex H H' ∧ H' p = some (.lst ((drawn cs first i way).map V.int)))
      (fun H2 e2 => ⟨none, none, rfl, e1.trans e2, e2 p _ hl⟩) ?_ ?_
    · rintro i σ' H' hi ⟨y5, y6, rfl, e, hl'⟩
      refine q_asg (ev_var rfl) fun H2 e2 => ?_
      have hkind : ∀ {H3 : Hp}, Ex H2 H3 → ∀ (D : Ends), D.nx [some (.ref a), some (.int first), some (.int (count : Int)), some (.int way), some (.ref p), some (.int (i : Int)), some (.int (kindAt way i))] H3 → True := fun _ _ _ => trivial
      refine q_ifAsg (v := .int (kindAt way i)) (et_gt (ev_var rfl) ev_c) (fun hb => ?_) (fun hb => ?_) fun H3 e3 => ?_
      · have g := of_decide_eq_true hb
        refine ev_int (ev_mod (ev_add (ev_var rfl) (ev_div (ev_var rfl) ev_c (by decide) (by decide))) ev_c (by decide)) ?_
        unfold kindAt
        rw [if_pos g]
      · have g := of_decide_eq_false hb
        have e0 : kindAt way i = way := by
          unfold kindAt
          rw [if_neg g]
        rw [e0]
        rfl
      · refine s_app (l := p) (xs := (drawn cs first i way).map V.int) (e3 p _ (e2 p _ hl')) (ev_var rfl) (v := .int (numberBy (cell cs (first + (i : Int))) (kindAt way i)))
          (ev_call (ea_cons (ev_call (ea_cons (ev_var rfl) (ea_cons (ev_add (ev_var rfl) (ev_var rfl)) ea_nil)) (spv_cell (ex_l ((e.trans e2).trans e3) hS) (by omega))) (ea_cons (ev_var rfl) ea_nil)) spv_numBy)
          (by rw [List.length_map, drawn_len]; omega) fun H4 e4 => ?_
        refine ⟨_, _, rfl, Ex.mut (((e.trans e2).trans e3).trans e4) hp, ?_⟩
        rw [upd_same]
        unfold drawn
        rw [List.range_succ, List.map_append, List.map_append]
        rfl
    · rintro σ' H' ⟨y5, y6, rfl, e, hl'⟩
      rw [Int.toNat_natCast] at hl'
      exact s_ret (ev_var rfl) fun H2 e2 => q p H2 hp (e.trans e2) (e2 p _ hl')
theorem okshown (T : Top K mg "shown" sshown ["numbers", "n"]) (nb : NB mg) : Cal0 P w K mg base "shown" 1 ["numbers", "n"] (spShown K) := by
  obtain ⟨f, fd, F, hm, hb⟩ := T
  refine ⟨f, fd, F.ok scshown (fun vs H Q E h => ?_) (fun cdv A outer s H vs Q E hr h => ?_), hm, F.kp, hb⟩
  · obtain ⟨a, xs, n, rfl, _⟩ := h
    rfl
  · obtain ⟨a, xs, n, rfl, hS, hl, hn, hbd, q⟩ := h
    refine ⟨_, (pss_one (ps_ret (pe_op op_add_str (pe_op op_add_str (pe_callTy call_str_int (by rfl) nb.str (by decide +kernel) (pa_cons (pv 1) pa_nil)) pe_str) (pe_join pe_str (pe_lc (own := [("number", 2)]) (g := gName 2) (tt := tYes) rfl scshown.nd (k_list K (pv 0)) (blkOk_by (by kernel_rfl)) (fun _ _ _ _ _ => pg_name (i := 2) scshown.nd rfl (Or.inl rfl)) (fun _ _ _ _ _ => pts_nil) (fun _ _ _ _ _ => (pe_op op_add_str pe_str (pe_callTy call_str_int (by rfl) nb.str (by decide +kernel) (pa_cons (pv 2) pa_nil))))))))), ?_⟩
    have hnb : inB n := by have := hn.1; have := hn.2; unfold inB; omega
    have hc : (":" : Str).length = 1 := by decide +kernel
    have hbl : (" " : Str).length = 1 := by decide +kernel
    have hem : ("" : Str).length = 0 := by decide +kernel
    have l14 : ∀ x : Int, inB x → (numS x).length ≤ 14 := fun x hx => by
      rw [TL.len_tl, tl_numS]
      exact numI_len hx
    have ltot := shown_len hn hl hbd
    unfold shownS at ltot
    have lapp : ∀ a b : Str, (a ++ b).length = a.length + b.length := fun a b => by rw [TL.len_tl, TL.tl_append, List.length_append, ← TL.len_tl, ← TL.len_tl]
    rw [lapp, lapp] at ltot
    have eg : given xs.length (fun _ => true) (fun i => V.str ((" " : Str) ++ numS (xs.getD i 0))) = (xs.map fun x => (" " : Str) ++ numS x).map V.str := by
      unfold given
      rw [List.filter_eq_self.mpr fun _ _ => rfl, List.map_map]
      refine List.ext_getElem? fun i => ?_
      rw [List.getElem?_map, List.getElem?_map]
      by_cases h : i < xs.length
      · rw [List.getElem?_range h, List.getElem?_eq_getElem h]
        show some (V.str ((" " : Str) ++ numS (xs.getD i 0))) = some (V.str ((" " : Str) ++ numS xs[i]))
        rw [List.getD_eq_getElem?_getD, List.getElem?_eq_getElem h]
        rfl
      · rw [List.getElem?_eq_none (by rw [List.length_range]; omega), List.getElem?_eq_none (by omega)]
        rfl
    have hsum : ∀ ys : List Int, (∀ x ∈ ys, inB x) → ((ys.map fun x => (" " : Str) ++ numS x).map (·.length)).sum ≤ 15 * ys.length := fun ys => by
      induction ys with
      | nil => exact fun _ => Nat.le_refl 0
      | cons y ys ih =>
        intro h
        have g := ih fun x hx => h x (List.mem_cons_of_mem _ hx)
        have := l14 y (h y List.mem_cons_self)
        rw [List.map_cons, List.map_cons, List.sum_cons, List.length_cons, lapp, hbl]
        omega
    have hs := hsum xs hbd
    refine s_ret (ev_catS (ev_catS (ev_strI (ev_var rfl) (log_le hnb)) ev_c (by have := l14 n hnb; omega)) (ev_join ev_c ?_ ?_) ?_) fun H1 e1 => q.go e1
    · rw [← eg]
      have g := el_lcL (K := K) (σ := [some (.ref a), some (.int n), none]) (H := H) (a := a) (xs := xs.map V.int) (tl := tVar 0) (j := 2) (vs := [2]) (t := tYes) (te := tOp (fun x y H Q => ∃ i j, x = .str i ∧ y = .str j ∧ i.length + j.length ≤ sizeLine ∧ Q (.str (i ++ j)) H) (tC (.str " ")) (tCB (fun xs H Q => ∃ i : Int, xs = [.int i] ∧ i.natAbs.log2 < 1920 ∧ Q (.str (toString i)) H) (tCons (tVar 2) tNil)))
        (fun _ => true) (fun i => V.str ((" " : Str) ++ numS (xs.getD i 0))) (ev_var rfl) hS (by rw [List.length_map]; omega) (fun x => rfl) (fun i x H2 _ _ => et_yes) (fun i x H2 e2 hx _ => by
          obtain ⟨z, hz, rfl⟩ := int_at hx
          have hzb := hbd z (List.mem_of_getElem? hz)
          have ez : xs.getD i 0 = z := by rw [List.getD_eq_getElem?_getD, hz]; rfl
          rw [ez]
          exact ev_catS ev_c (ev_strI (ev_var rfl) (log_le hzb)) (by have := l14 z hzb; omega))
      rw [List.length_map] at g
      exact g
    · rw [hem]
      omega
    · rw [lapp]
      omega
theorem oklaw_whole (T : Top K mg "_law_whole" slaw_whole ["found"]) (nb : NB mg) : Cal0 P w K mg base "_law_whole" 1 ["found"] spWhole := by
  obtain ⟨f, fd, F, hm, hb⟩ := T
  refine ⟨f, fd, F.ok sclaw_whole (fun vs H Q E h => ?_) (fun cdv A outer s H vs Q E hr h => ?_), hm, F.kp, hb⟩
  · obtain ⟨x, rfl, _⟩ := h
    rfl
  · obtain ⟨x, rfl, ⟨i, rfl⟩, q⟩ := h
    refine ⟨_, (pss_one (ps_ret (pe_and (pe_callB (k_isi K) (by rfl) nb.isinstance (by decide +kernel) (pa_cons (pv 0) (pa_cons (pe_bltn (v := .ty "int") (by rfl) nb.int (by decide +kernel) rfl) pa_nil))) (pe_one (pe_not (pe_callB (k_isi K) (by rfl) nb.isinstance (by decide +kernel) (pa_cons (pv 0) (pa_cons (pe_bltn (v := .ty "bool") (by rfl) nb.bool (by decide +kernel) rfl) pa_nil)))))))), ?_⟩
    exact s_ret (ev_andV (a := true) (b := true) (ev_isi (ev_var rfl) ev_c (ty_int i) (by decide +kernel)) fun _ =>
      ev_notV (a := false) (ev_isi (ev_var rfl) ev_c (ty_int i) (by decide +kernel))) fun H2 e2 => q.go e2
theorem oklaw_is_told (T : Top K mg "_law_is_told" slaw_is_told ["found", "numbers", "n"]) (nb : NB mg) (claw_whole : Cal0 P w K mg base "_law_whole" 1 ["found"] spWhole) : Cal0 P w K mg base "_law_is_told" 2 ["found", "numbers", "n"] (spTold K) := by
  obtain ⟨f, fd, F, hm, hb⟩ := T
  refine ⟨f, fd, F.ok sclaw_is_told (fun vs H Q E h => ?_) (fun cdv A outer s H vs Q E hr h => ?_), hm, F.kp, hb⟩
  · obtain ⟨p, q, b, xs, n, rfl, _⟩ := h
    rfl
  · obtain ⟨p, r, b, xs, n, rfl, hp, hr', hS, q⟩ := h
    refine ⟨_, (pss_cons (ps_if (PW.pt (pw_or (pt_not (pt_val (pe_callB (k_isi K) (by rfl) nb.isinstance (by decide +kernel) (pa_cons (pv 0) (pa_cons (pe_bltn (v := .ty "tuple") (by rfl) nb.tuple (by decide +kernel) rfl) pa_nil))))) (pw_or (pt_cmpR op_ne (pe_callB (k_len K) (by rfl) nb.len (by decide +kernel) (pa_cons (pv 0) pa_nil)) pe_int (nomark _)) (pw_or1 (pt_not (pt_val (pe_callB (k_isi K) (by rfl) nb.isinstance (by decide +kernel) (pa_cons (pe_ix (k_ixT K) (pv 0) pe_int (fun _ _ => rfl)) (pa_cons (pe_bltn (v := .ty "list") (by rfl) nb.list (by decide +kernel) rfl) pa_nil))))))))) (pss_one (ps_ret pe_bl)) pss_nil)
      (pss_cons (ps_for PassesOwn.never rfl (k_list K (pe_ix (k_ixT K) (pv 0) pe_int (fun _ _ => rfl))) (pg_name (i := 3) sclaw_is_told.nd rfl (Or.inl rfl)) (pss_one (ps_if (pt_not (pt_val (pe_cal claw_whole (hr.mono (by decide)) pass0 (pa_cons (pv 3) pa_nil)))) (pss_one (ps_ret pe_bl)) pss_nil)))
      (pss_one (ps_ret (pe_and (pe_cal claw_whole (hr.mono (by decide)) pass0 (pa_cons (pe_ix (k_ixT K) (pv 0) pe_int (fun _ _ => rfl)) pa_nil)) (pe_and (pe_cmpR (k_eqD K hr.units) (pe_ix (k_ixT K) (pv 0) pe_int (fun _ _ => rfl)) (pv 1) (nomark _)) (pe_one (pe_cmpR op_eq (pe_ix (k_ixT K) (pv 0) pe_int (fun _ _ => rfl)) (pv 2) (nomark _))))))))), ?_⟩
    have x0 : atI [V.ref r, V.int n] 0 = some (.ref r) := atI_nat (j := 0) rfl
    have x1 : atI [V.ref r, V.int n] 1 = some (.int n) := atI_nat (j := 1) rfl
    refine q_when (b := false) (et_or (a := false) (et_not (a := true) (et_B (ev_isi (K := K) (ev_var rfl) ev_c (ty_tup hp) (by decide +kernel)))) fun _ => et_or (a := false) (et_is (et_ne (ev_lenT (K := K) (ev_var rfl) (st_of hp)) ev_c) (by rfl)) fun _ =>
      et_not (a := true) (et_B (ev_isi (K := K) (ev_itemT (ev_var rfl) ev_c (st_of hp) x0) ev_c (ty_lst hr') (by decide +kernel)))) (fun hb => nomatch hb) fun _ H1 e1 => ?_
    refine q_forLn (K := K) (ev_itemT (ev_var rfl) ev_c (st_of (e1 _ _ hp)) x0) (sq_of (e1 _ _ hr')) (fun i σ' H' => ∃ y3 : Option V, σ' = [some (.ref p), some (.ref b), some (.int n), y3] ∧ Ex H H') (fun H2 e2 => ⟨none, rfl, e1.trans e2⟩) (fun i σ' H' _ h => by
      obtain ⟨_, _, e⟩ := h
      exact sq_of (e _ _ hr')) ?_ ?_
    · rintro i x σ' H' hx ⟨y3, rfl, e⟩
      obtain ⟨z, hz, rfl⟩ := int_at hx
      refine s_when (b := false) (et_not (a := true) (et_B (ev_call (ea_cons (ev_var rfl) ea_nil) spv_whole))) (fun hb => nomatch hb) fun _ H2 e2 => ⟨_, rfl, e.trans e2⟩
    · rintro σ' H' ⟨y3, rfl, e⟩
      have hp' := st_of (K := K) (e _ _ hp)
      refine s_ret (v := .bl true) (ev_is (ev_andV (ev_call (ea_cons (ev_itemT (ev_var rfl) ev_c hp' x1) ea_nil) spv_whole) fun _ => ev_andV (ev_op (ev_itemT (ev_var rfl) ev_c hp' x0) (ev_var rfl) (rv_eqL (sq_of (e _ _ hr')) (ex_l e hS))) fun _ => ev_eqI (ev_itemT (ev_var rfl) ev_c hp' x1) (ev_var rfl)) ?_) fun H2 e2 => q.go (e.trans e2)
      rw [decide_eq_true rfl, decide_eq_true rfl]
      rfl
theorem okfigures_of (T : Top K mg "figures_of" sfigures_of ["word"]) (nb : NB mg) (cFIGURES : Cst mg "FIGURES" (.str "0123456789") (Value.str ("0123456789" : Str) tFIGURES)) : Cal0 P w K mg base "figures_of" 1 ["word"] spFigs := by
  obtain ⟨f, fd, F, hm, hb⟩ := T
  refine ⟨f, fd, F.ok scfigures_of (fun vs H Q E h => ?_) (fun cdv A outer s H vs Q E hr h => ?_), hm, F.kp, hb⟩
  · obtain ⟨m, rfl, _⟩ := h
    rfl
  · obtain ⟨m, rfl, hm12, q⟩ := h
    refine ⟨_, (pss_cons (ps_if (PW.pt (pw_or (pt_cmpR op_lt (pe_callB call_len_str (by rfl) nb.len (by decide +kernel) (pa_cons (pv 0) pa_nil)) pe_int (nomark _)) (pw_or (pt_cmpR op_gt (pe_callB call_len_str (by rfl) nb.len (by decide +kernel) (pa_cons (pv 0) pa_nil)) pe_int (nomark _)) (pw_or1 (PW.pt (pw_and (pt_cmpR op_eq (pe_ix ix_str (pv 0) pe_int (fun _ _ => rfl)) pe_str (nomark _)) (pw_and1 (pt_cmpR op_gt (pe_callB call_len_str (by rfl) nb.len (by decide +kernel) (pa_cons (pv 0) pa_nil)) pe_int (nomark _))))))))) (pss_one ps_never) pss_nil)
      (pss_cons (ps_for PassesOwn.never rfl (pi_str (pv 0)) (pg_name (i := 1) scfigures_of.nd rfl (Or.inl rfl)) (pss_one (ps_if (pt_cmpR op_notIn_sign (pv 1) (pe_glob (by rfl) cFIGURES.gm cFIGURES.rel) (by with_unfolding_all rfl)) (pss_one ps_never) pss_nil)))
      (pss_one (ps_ret (pe_callTy call_int_str (by rfl) nb.int (by decide +kernel) (pa_cons (pv 0) pa_nil)))))), ?_⟩
    have htl : TL.tl (numS (m : Int)) = TL.numL m := TL.tl_num m
    have hlen : (numS (m : Int)).length = (TL.numL m).length := by rw [TL.len_tl, htl]
    have h13 := numL_len13 hm12
    have hpos : 0 < (TL.numL m).length := List.length_pos_iff.mpr (TL.numL_ne m)
    obtain ⟨c, hc⟩ : ∃ c, (TL.numL m)[0]? = some c := ⟨_, List.getElem?_eq_getElem hpos⟩
    have ix : atI (numS (m : Int)).cps.toList 0 = some c := atI_nat (j := 0) (by rw [show (numS (m : Int)).cps.toList = TL.numL m from htl]; exact hc)
    refine q_when (b := false) (et_or (a := false) (et_is (et_lt (ev_lenS (ev_var rfl) (by omega)) ev_c) (decide_eq_false (by omega))) fun _ => et_or (a := false) (et_is (et_gt (ev_lenS (ev_var rfl) (by omega)) ev_c) (decide_eq_false (by omega))) fun _ =>
      et_is (et_and (et_eqS (ev_op (ev_var rfl) ev_c (rv_ixS (by omega) ix)) ev_c) fun _ => et_gt (ev_lenS (ev_var rfl) (by omega)) ev_c) (by
        by_cases h : (⟨#[c]⟩ : Str) = "0"
        · have h2 := congrArg TL.tl h
          have h3 : [c] = [48] := h2.trans (by decide +kernel)
          injection h3 with h3
          subst h3
          have := numL_head m hc
          rw [Bool.and_eq_false_iff]
          right
          exact decide_eq_false (by omega)
        · rw [decide_eq_false h]
          rfl)) (fun hb => nomatch hb) fun _ H1 e1 => ?_
    refine q_forS (ev_var rfl) (fun i σ' H' => ∃ y1 : Option V, σ' = [some (.str (numS (m : Int))), y1] ∧ Ex H H') (fun H2 e2 => ⟨none, rfl, e1.trans e2⟩) ?_ ?_
    · rintro i d σ' H' hd ⟨y1, rfl, e⟩
      rw [htl] at hd
      have hdd := TL.numL_digits m d (List.mem_of_getElem? hd)
      refine s_when (b := false) (et_is (et_noSign (ev_var rfl) ev_c) (by
        have ef : TL.tl ("0123456789" : Str) = [48, 49, 50, 51, 52, 53, 54, 55, 56, 57] := by decide +kernel
        rw [show ("0123456789" : Str).cps.toList = [48, 49, 50, 51, 52, 53, 54, 55, 56, 57] from ef, decide_eq_true (by simp only [List.mem_cons]; omega)]
        rfl)) (fun hb => nomatch hb) fun _ H2 e2 => ⟨_, rfl, e.trans e2⟩
    · rintro σ' H' ⟨y1, rfl, e⟩
      exact s_ret (ev_intS (ev_var rfl) (TL.int_num (by omega)) (by omega)) fun H2 e2 => q.go (e.trans e2)
theorem oknumber_of (T : Top K mg "number_of" snumber_of ["word"]) (nb : NB mg) (cMOST : Cst mg "MOST" (.int 1000000000000) (Value.int 1000000000000 tMOST)) (cfigures_of : Cal0 P w K mg base "figures_of" 1 ["word"] spFigs) : Cal0 P w K mg base "number_of" 2 ["word"] spNumOf := by
  obtain ⟨f, fd, F, hm, hb⟩ := T
  refine ⟨f, fd, F.ok scnumber_of (fun vs H Q E h => ?_) (fun cdv A outer s H vs Q E hr h => ?_), hm, F.kp, hb⟩
  · obtain ⟨x, rfl, _⟩ := h
    rfl
  · obtain ⟨x, rfl, hx, q⟩ := h
    refine ⟨_, (pss_cons (ps_if (pt_cmpR op_eq (pe_slice sl_str (pv 0) po_none (po_some pe_int)) pe_str (nomark _)) (pss_cons (ps_set (i := 1) scnumber_of.nd rfl (Or.inl rfl) (pe_un un_neg (pe_cal cfigures_of (hr.mono (by decide)) pass0 (pa_cons (pe_slice sl_str (pv 0) (po_some pe_int) po_none) pa_nil))))
      (pss_one (ps_if (pt_cmpR op_eq (pv 1) pe_int (nomark _)) (pss_one ps_never) pss_nil))) (pss_one (ps_set (i := 1) scnumber_of.nd rfl (Or.inl rfl) (pe_cal cfigures_of (hr.mono (by decide)) pass0 (pa_cons (pv 0) pa_nil)))))
      (pss_cons (ps_if (pt_cmpR op_gt (pe_callB call_abs (by rfl) nb.abs (by decide +kernel) (pa_cons (pv 1) pa_nil)) (pe_glob (by rfl) cMOST.gm cMOST.rel) (nomark _)) (pss_one ps_never) pss_nil)
      (pss_one (ps_ret (pv 1))))), ?_⟩
    have htl := tl_numS x
    have h14 := numI_len hx
    have hlen : (numS x).length = (numI x).length := by rw [TL.len_tl, htl]
    have hne : 1 ≤ (numI x).length := by
      unfold numI
      split
      · exact List.length_pos_iff.mpr (TL.numL_ne _)
      · rw [List.length_cons]
        omega
    have cut1 : TL.tl (cutS (numS x) none (some 1)) = (numI x).take 1 := by
      have g := cut_to (z := numS x) (k := 1) (by rw [htl]; exact hne)
      rw [htl] at g
      exact g
    have minus : TL.tl ("-" : Str) = [45] := by decide +kernel
    have rest : ∀ (D : Ends) (H1 : Hp), Ex H H1 → (∀ H2, Ex H H2 → D.rt (.int x) H2) → tSeq (tIfS (tTest (tOp (rI0 fun i j => .bl (decide (j < i))) (tCB (fun xs H Q => ∃ i, xs = [.int i] ∧ Q (.int (if i < 0 then -i else i)) H) (tCons (tVar 1) tNil)) (tC (.int 1000000000000)))) (fun _ _ _ => False) tNext) (tRet (tVar 1)) D [some (.str (numS x)), some (.int x)] H1 := fun D H1 e1 k =>
      q_when (b := false) (et_is (et_gt (ev_abs (ev_var rfl)) ev_c) (decide_eq_false (by have := hx.1; have := hx.2; split <;> omega))) (fun hb => nomatch hb) fun _ H2 e2 => s_ret (ev_var rfl) fun H3 e3 => k H3 ((e1.trans e2).trans e3)
    by_cases h0 : 0 ≤ x
    · obtain ⟨m, rfl⟩ := Int.eq_ofNat_of_zero_le h0
      refine q_if (b := false) (et_is (et_eqS (ev_cutS (ev_var rfl) eo_none (eo_some ev_c) (by omega)) ev_c) (decide_eq_false fun z => ?_)) (fun hb => nomatch hb) fun _ H1 e1 => ?_
      · have g := congrArg TL.tl z
        rw [cut1, minus] at g
        unfold numI at g
        rw [if_pos (by omega)] at g
        have hm := TL.numL_digits (m : Int).toNat 45 (by
          have : (45 : Nat) ∈ (TL.numL (m : Int).toNat).take 1 := by rw [g]; exact List.mem_cons_self
          exact List.mem_of_mem_take this)
        omega
      · refine s_asg (ev_call (ea_cons (ev_var rfl) ea_nil) (fun H2 e2 Q q E => ⟨m, rfl, by have := hx.2; omega, fun H3 e3 => q H3 e3⟩)) fun H2 e2 => ?_
        exact rest _ H2 (e1.trans e2) fun H3 e3 => q.go e3
    · obtain ⟨m, hmm⟩ : ∃ m : Nat, x = -(m : Int) := ⟨(-x).toNat, by omega⟩
      have hnum : numI x = 45 :: TL.numL m := by
        unfold numI
        rw [if_neg h0, show (-x).toNat = m by omega]
      refine q_if (b := true) (et_is (et_eqS (ev_cutS (ev_var rfl) eo_none (eo_some ev_c) (by omega)) ev_c) (decide_eq_true (TL.ext_tl ?_))) (fun _ H1 e1 => ?_) (fun hb => nomatch hb)
      · rw [cut1, minus, hnum]
        rfl
      · have ecut : cutS (numS x) (some 1) none = numS (m : Int) := TL.ext_tl (by
          have g := cut_from (z := numS x) (k := 1) (by rw [htl]; exact hne)
          rw [htl, hnum] at g
          rw [show (numS (m : Int)) = Str.ofString (toString (m : Int)) from rfl, TL.tl_num]
          exact g)
        refine q_asg (v := .int x) (ev_int (i := -(m : Int)) (ev_negI (ev_call (ea_cons (ev_is (ev_cutS (ev_var rfl) (eo_some ev_c) eo_none (by omega)) (congrArg V.str ecut)) ea_nil) (fun H2 e2 Q q E => ⟨m, rfl, by have := hx.1; omega, fun H3 e3 => q H3 e3⟩))) hmm.symm) fun H2 e2 => ?_
        refine s_when (b := false) (et_is (et_eq (ev_var rfl) ev_c) (decide_eq_false (by omega))) (fun hb => nomatch hb) fun _ H3 e3 => ?_
        exact rest _ H3 ((e1.trans e2).trans e3) fun H4 e4 => q.go e4
theorem okread (T : Top K mg "read" sread ["text"]) (nb : NB mg) (cGREATEST : Cst mg "GREATEST" (.int 24) (Value.int 24 tGREATEST)) (cLENGTH : Cst mg "LENGTH" (.int 60) (Value.int 60 tLENGTH)) (cfigures_of : Cal0 P w K mg base "figures_of" 1 ["word"] spFigs) (cnumber_of : Cal0 P w K mg base "number_of" 2 ["word"] spNumOf) :
    Cal0 P w K mg base "read" 3 ["text"] spRead := by
  obtain ⟨f, fd, F, hm, hb⟩ := T
  refine ⟨f, fd, F.ok scread (fun vs H Q E h => ?_) (fun cdv A outer s H vs Q E hr h => ?_), hm, F.kp, hb⟩
  · obtain ⟨xs, n, rfl, _⟩ := h
    rfl
  · obtain ⟨xs, n, rfl, hl, hn, hbd, q⟩ := h
    refine ⟨_, (pss_cons (ps_set (i := 1) scread.nd rfl (Or.inl rfl) (pe_m1 PySem.F.slot_str_find PySem.F.type_str_find mt_find (pv 0) pe_str))
      (pss_cons (ps_if (pt_cmpR op_lt (pv 1) pe_int (nomark _)) (pss_one ps_never) pss_nil)
      (pss_cons (ps_set (i := 2) scread.nd rfl (Or.inl rfl) (pe_cal cfigures_of (hr.mono (by decide)) pass0 (pa_cons (pe_slice sl_str (pv 0) po_none (po_some (pv 1))) pa_nil)))
      (pss_cons (ps_set (i := 3) scread.nd rfl (Or.inl rfl) (pe_split (pe_slice sl_str (pv 0) (po_some (pe_op op_add (pv 1) pe_int)) po_none) pe_str))
      (pss_cons (ps_if (PW.pt (pw_or (pt_cmpR op_lt (pv 2) pe_int (nomark _)) (pw_or (pt_cmpR op_gt (pv 2) (pe_glob (by rfl) cGREATEST.gm cGREATEST.rel) (nomark _)) (pw_or (pt_cmpR op_ne (pe_ix (k_ixL K) (pv 3) pe_int (fun _ _ => rfl)) pe_str (nomark _)) (pw_or1 (pt_cmpR op_gt (pe_callB (k_len K) (by rfl) nb.len (by decide +kernel) (pa_cons (pv 3) pa_nil)) (pe_op op_add (pe_glob (by rfl) cLENGTH.gm cLENGTH.rel) pe_int) (nomark _))))))) (pss_one ps_never) pss_nil)
      (pss_one (ps_ret (pe_tup (pa_cons (pe_lc (own := [("word", 4)]) (g := gName 4) (tt := tYes) rfl scread.nd (k_list K (pe_slice (k_slL K) (pv 3) (po_some pe_int) po_none)) (blkOk_by (by kernel_rfl)) (fun _ _ _ _ _ => pg_name (i := 4) scread.nd rfl (Or.inl rfl)) (fun _ _ _ _ _ => pts_nil) (fun _ _ _ _ _ => (pe_cal cnumber_of (hr.mono (by decide)) pass0 (pa_cons (pv 4) pa_nil)))) (pa_cons (pv 2) pa_nil)))))))))), ?_⟩
    have hn1 := hn.1
    have hn2 := hn.2
    have htl := tl_shown n xs
    have hlen := shown_len hn hl hbd
    have hfind : Txt.find (shownS n xs) ":" = ((numI n).length : Int) := find_first tl_colon htl (numI_free (Or.inl rfl))
    have hlt : (numI n).length + 1 ≤ (TL.tl (shownS n xs)).length := by
      rw [htl, List.length_append, List.length_cons]
      omega
    refine q_asg (v := .int ((numI n).length : Int)) (ev_int (ev_find (ev_var rfl) ev_c) hfind) fun H1 e1 => ?_
    refine q_when (b := false) (et_is (et_lt (ev_var rfl) ev_c) (decide_eq_false (by omega))) (fun hb => nomatch hb) fun _ H2 e2 => ?_
    have hnn : ((n.toNat : Nat) : Int) = n := by omega
    refine q_asg (v := .int n) (ev_int (i := ((n.toNat : Nat) : Int)) (ev_call (ea_cons (ev_is (ev_cutS (ev_var rfl) eo_none (eo_some (ev_var rfl)) (by omega)) (congrArg V.str (cut_round n xs))) ea_nil) (fun H3 e3 Q q E => ⟨n.toNat, by rw [hnn]; rfl, by omega, fun H4 e4 => q H4 e4⟩)) hnn) fun H3 e3 => ?_
    have hbody : TL.tl (cutS (shownS n xs) (some (((numI n).length : Int) + 1)) none) = bodyL xs := by
      have g := cut_from (z := shownS n xs) (k := (numI n).length + 1) hlt
      rw [htl] at g
      rw [show (((numI n).length + 1 : Nat) : Int) = ((numI n).length : Int) + 1 by omega] at g
      rw [g]
      show (numI n ++ 58 :: bodyL xs).drop ((numI n).length + 1) = bodyL xs
      rw [← List.drop_drop, List.drop_left]
      rfl
    have hsp := split_body hbody
    have hcl := cutS_length (shownS n xs) (some (((numI n).length : Int) + 1)) none
    refine q_asgL (xs := (("" : Str) :: xs.map numS).map V.str) (by
      rw [← hsp]
      exact el_split (ev_cutS (ev_var rfl) (eo_some (ev_add (ev_var rfl) ev_c)) eo_none (by omega)) ev_c (by decide +kernel) (by omega)) fun p H4 n4 e4 h4 => ?_
    have hwl : ((("" : Str) :: xs.map numS).map V.str).length = xs.length + 1 := by rw [List.length_map, List.length_cons, List.length_map]
    refine q_when (b := false) (et_or (a := false) (et_is (et_lt (ev_var rfl) ev_c) (decide_eq_false (by omega))) fun _ => et_or (a := false) (et_is (et_gt (ev_var rfl) ev_c) (decide_eq_false (by omega))) fun _ =>
      et_or (a := false) (et_is (et_neS (ev_itemL (K := K) (ev_var rfl) ev_c (sq_of h4) (atI_nat (j := 0) rfl)) ev_c) (by rw [decide_eq_true rfl]; rfl)) fun _ => et_is (et_gt (ev_lenL (K := K) (ev_var rfl) (sq_of h4)) (ev_add ev_c ev_c)) (decide_eq_false (by rw [hwl]; omega))) (fun hb => nomatch hb) fun _ H5 e5 => ?_
    have h5 := e5 _ _ h4
    have hcut : cutV ((("" : Str) :: xs.map numS).map V.str) (some 1) none = (xs.map numS).map V.str := by
      unfold cutV
      rw [show HT.sIx ((("" : Str) :: xs.map numS).map V.str).length 0 (some 1) = min 1 ((("" : Str) :: xs.map numS).map V.str).length from HT.sIx_nat _ _ 1, hwl, Nat.min_eq_left (by omega)]
      show (((xs.map numS).map V.str).take (xs.length + 1 - 1)) = _
      rw [List.take_of_length_le (by rw [List.length_map, List.length_map]; omega)]
    have E5 := (((e1.trans e2).trans e3).trans e4).trans e5
    refine s_retTupL (xs := xs.map V.int) ?_ (ev_var rfl) fun p6 q6 H6 n6 e6 h6 h6' => q p6 q6 H6 (fresh_back E5 n6) (E5.trans e6) h6 h6'
    have g := el_lcNL (K := K) (σ := [some (.str (shownS n xs)), some (.int ((numI n).length : Int)), some (.int n), some (.ref p), none]) (H := H5) (xs := (xs.map numS).map V.str) (tl := tSl (rSlL K) (tVar 3) (tPart (tC (.int 1))) tNoPart) (j := 4) (vs := [4]) (t := tYes) (te := tCall spNumOf [] E0 (tCons (tVar 4) tNil))
      (fun _ => true) (fun i => V.int (xs.getD i 0)) (by
        rw [← hcut]
        exact el_sl (ev_var rfl) (eo_some ev_c) eo_none (sq_of h5)) (by rw [List.length_map, List.length_map]; omega) (fun x => rfl) (fun i x H2 _ _ => et_yes) (fun i x H2 e2 hx _ => by
        rw [List.getElem?_map, List.getElem?_map] at hx
        cases hz : xs[i]? with
        | none => rw [hz] at hx; cases hx
        | some z =>
          rw [hz] at hx
          have ex : x = V.str (numS z) := (Option.some.inj hx).symm
          subst ex
          have ez : xs.getD i 0 = z := by rw [List.getD_eq_getElem?_getD, hz]; rfl
          rw [ez]
          exact ev_call (ea_cons (ev_var rfl) ea_nil) (fun H3 e3 Q q E => ⟨z, rfl, hbd z (List.mem_of_getElem? hz), fun H4 e4 => q H4 e4⟩))
    have eg := given_all xs id
    rw [List.map_id] at eg
    rw [List.length_map, List.length_map] at g
    rw [← eg]
    exact g
theorem oklaw_text (T : Top K mg "_law_text" slaw_text ["numbers", "n"]) (nb : NB mg) : Cal0 P w K mg base "_law_text" 1 ["numbers", "n"] (spShown K) := by
  obtain ⟨f, fd, F, hm, hb⟩ := T
  refine ⟨f, fd, F.ok sclaw_text (fun vs H Q E h => ?_) (fun cdv A outer s H vs Q E hr h => ?_), hm, F.kp, hb⟩
  · obtain ⟨a, xs, n, rfl, _⟩ := h
    rfl
  · obtain ⟨a, xs, n, rfl, hS, hl, hn, hbd, q⟩ := h
    refine ⟨_, (pss_cons (ps_set (i := 2) sclaw_text.nd rfl (Or.inl rfl) (pe_op op_add_str (pe_callTy call_str_int (by rfl) nb.str (by decide +kernel) (pa_cons (pv 1) pa_nil)) pe_str))
      (pss_cons (ps_for PassesOwn.never rfl (k_list K (pv 0)) (pg_name (i := 3) sclaw_text.nd rfl (Or.inl rfl)) (pss_one (ps_set (i := 2) sclaw_text.nd rfl (Or.inl rfl) (pe_op op_add_str (pe_op op_add_str (pv 2) pe_str) (pe_callTy call_str_int (by rfl) nb.str (by decide +kernel) (pa_cons (pv 3) pa_nil))))))
      (pss_one (ps_ret (pv 2))))), ?_⟩
    have hnb : inB n := by have := hn.1; have := hn.2; unfold inB; omega
    have l14 : ∀ x : Int, inB x → (numS x).length ≤ 14 := fun x hx => by
      rw [TL.len_tl, tl_numS]
      exact numI_len hx
    have hc : (":" : Str).length = 1 := by decide +kernel
    have hbl : (" " : Str).length = 1 := by decide +kernel
    have lapp : ∀ a b : Str, (a ++ b).length = a.length + b.length := fun a b => by rw [TL.len_tl, TL.tl_append, List.length_append, ← TL.len_tl, ← TL.len_tl]
    have e0 : numS n ++ (":" : Str) = shownS n [] := TL.ext_tl (by rw [TL.tl_append, tl_shown, tl_numS, tl_colon]; rfl)
    refine q_asg (v := .str (shownS n [])) (ev_is (ev_catS (ev_strI (ev_var rfl) (log_le hnb)) ev_c (by have := l14 n hnb; omega)) (congrArg V.str e0)) fun H1 e1 => ?_
    refine q_forLn (K := K) (ev_var rfl) (ex_l e1 hS) (fun i σ' H' => ∃ y3 : Option V, σ' = [some (.ref a), some (.int n), some (.str (shownS n (xs.take i))), y3] ∧ Ex H H') (fun H2 e2 => ⟨none, by rw [List.take_zero]; rfl, e1.trans e2⟩) (fun i σ' H' _ h => by
      obtain ⟨_, _, e⟩ := h
      exact ex_l e hS) ?_ ?_
    · rintro i x σ' H' hx ⟨y3, rfl, e⟩
      obtain ⟨z, hz, rfl⟩ := int_at hx
      have hzb := hbd z (List.mem_of_getElem? hz)
      have hls := shown_len hn (xs := xs.take i) (by rw [List.length_take]; omega) fun y hy => hbd y (List.mem_of_mem_take hy)
      have hlz := l14 z hzb
      refine s_asg (ev_catS (ev_catS (ev_var rfl) ev_c (by omega)) (ev_strI (ev_var rfl) (log_le hzb)) (by rw [lapp]; omega)) fun H2 e2 => ⟨some (.int z), ?_, e.trans e2⟩
      rw [List.take_add_one, hz]
      show _ = [some (V.ref a), some (V.int n), some (V.str (shownS n (xs.take i ++ [z]))), some (V.int z)]
      rw [shown_snoc]
      rfl
    · rintro σ' H' ⟨y3, rfl, e⟩
      rw [List.length_map, List.take_length]
      exact s_ret (ev_var rfl) fun H2 e2 => q.go (e.trans e2)
theorem oklaw {f : Addr} {fd : FuncData} (F : Fun K "law" "law" slaw f fd) (nb : NB mg) (claw_cell_at : Cal0 P w K mg base "_law_cell_at" 1 ["script", "k"] (spCell K)) (claw_numbers : Cal0 P w K mg base "_law_numbers" 2 ["script", "first", "count", "way"] (spNums K))
    (cshown : Cal0 P w K mg base "shown" 1 ["numbers", "n"] (spShown K)) (cread : Cal0 P w K mg base "read" 3 ["text"] spRead) (claw_text : Cal0 P w K mg base "_law_text" 1 ["numbers", "n"] (spShown K)) (claw_is_told : Cal0 P w K mg base "_law_is_told" 2 ["found", "numbers", "n"] (spTold K)) : FnOk P w K mg base CX0 4 f fd ["script"] (spLaw K) := by
  refine F.ok sclaw (fun vs H Q E h => ?_) (fun cdv A outer s H vs Q E hr h => ?_)
  · obtain ⟨a, ns, rfl, _⟩ := h
    rfl
  · obtain ⟨a, ns, rfl, hS, hlen, q⟩ := h
    refine ⟨_, (pss_cons (ps_set (i := 1) sclaw.nd rfl (Or.inl rfl) (pe_op op_add pe_int (pe_op op_mod (pe_cal claw_cell_at (hr.mono (by decide)) pass0 (pa_cons (pv 0) (pa_cons pe_int pa_nil))) pe_int)))
      (pss_cons (ps_set (i := 2) sclaw.nd rfl (Or.inl rfl) (pe_op op_mod (pe_cal claw_cell_at (hr.mono (by decide)) pass0 (pa_cons (pv 0) (pa_cons pe_int pa_nil))) pe_int))
      (pss_cons (ps_if (pt_cmpR op_eq (pe_op op_mod (pe_op op_fdivP (pe_cal claw_cell_at (hr.mono (by decide)) pass0 (pa_cons (pv 0) (pa_cons pe_int pa_nil))) pe_int) pe_int) pe_int (nomark _)) (pss_one (ps_set (i := 2) sclaw.nd rfl (Or.inl rfl) (pe_callB (call_min2 rfl) (by rfl) nb.min (by decide +kernel) (pa_cons (pe_callB (call_max2 rfl) (by rfl) nb.max (by decide +kernel) (pa_cons pe_int (pa_cons (pe_op op_sub (pe_callB (k_len K) (by rfl) nb.len (by decide +kernel) (pa_cons (pv 0) pa_nil)) pe_int) pa_nil))) (pa_cons pe_int pa_nil))))) pss_nil)
      (pss_cons (ps_set (i := 3) sclaw.nd rfl (Or.inl rfl) (pe_cal claw_numbers (hr.mono (by decide)) pass0 (pa_cons (pv 0) (pa_cons pe_int (pa_cons (pv 2) (pa_cons (pe_op op_mod (pe_cal claw_cell_at (hr.mono (by decide)) pass0 (pa_cons (pv 0) (pa_cons pe_int pa_nil))) pe_int) pa_nil))))))
      (pss_cons (ps_set (i := 4) sclaw.nd rfl (Or.inl rfl) (pe_callTy (k_listof K) (by rfl) nb.list (by decide +kernel) (pa_cons (pv 3) pa_nil)))
      (pss_cons (ps_set (i := 5) sclaw.nd rfl (Or.inl rfl) (pe_cal cshown (hr.mono (by decide)) pass0 (pa_cons (pv 4) (pa_cons (pv 1) pa_nil))))
      (pss_cons (ps_if (PW.pt (pw_or (pt_cmpR (k_neD K hr.units) (pv 4) (pv 3) (nomark _)) (pw_or (pt_not (pt_val (pe_callB (k_isi K) (by rfl) nb.isinstance (by decide +kernel) (pa_cons (pv 5) (pa_cons (pe_bltn (v := .ty "str") (by rfl) nb.str (by decide +kernel) rfl) pa_nil))))) (pw_or1 (pt_cmpR op_ne (pv 5) (pe_cal claw_text (hr.mono (by decide)) pass0 (pa_cons (pv 3) (pa_cons (pv 1) pa_nil))) (nomark _)))))) (pss_one (ps_ret pe_bl)) pss_nil)
      (pss_one (ps_ret (pe_cal claw_is_told (hr.mono (by decide)) pass0 (pa_cons (pe_cal cread (hr.mono (by decide)) pass0 (pa_cons (pv 5) pa_nil)) (pa_cons (pv 3) (pa_cons (pv 1) pa_nil))))))))))))), ?_⟩
    have hlm : ((ns.map V.int).length : Int) ≤ 63 := by
      rw [List.length_map]
      omega
    refine q_asg (ev_add ev_c (ev_mod (ev_cell hS (Ex.refl H) (ev_var rfl) ev_c (by decide)) ev_c (by decide))) fun H1 e1 => ?_
    have hn := goodN_of (cell ns 0)
    generalize 1 + cell ns 0 % 24 = n at hn ⊢
    refine q_asg (ev_mod (ev_cell hS e1 (ev_var rfl) ev_c (by decide)) ev_c (by decide)) fun H2 e2 => ?_
    have e2 := e1.trans e2
    obtain ⟨c, hc, hcv⟩ := countOf (cell ns 1 % 10) ((ns.map V.int).length : Int) (cell ns 1 / 10 % 4) 1 3 60 60 (by omega) (by omega) hlm (by decide)
    refine q_ifAsg (v := .int (c : Int)) (et_eq (ev_mod (ev_div (ev_cell hS e2 (ev_var rfl) ev_c (by decide)) ev_c (by decide) (by decide)) ev_c (by decide)) ev_c) (fun hb => ?_) (fun hb => ?_) fun H3 e3 => ?_
    · refine ev_int (ev_min (ev_max ev_c (ev_sub (ev_lenL (ev_var rfl) (ex_l e2 hS)) ev_c)) ev_c) ?_
      rw [hcv, if_pos (of_decide_eq_true hb)]
    · rw [hcv, if_neg (of_decide_eq_false hb)]
      rfl
    have e3 := e2.trans e3
    refine q_asgL (el_call (ea_cons (ev_var rfl) (ea_cons ev_c (ea_cons (ev_var rfl) (ea_cons (ev_mod (ev_cell hS e3 (ev_var rfl) ev_c (by decide)) ev_c (by decide)) ea_nil)))) (spl_nums (ex_l e3 hS) (by decide) (by omega))) fun p4 H4 n4 e4 h4 => ?_
    have hxl := drawn_len ns 3 c (cell ns 2 % 8)
    have hbd : ∀ x ∈ drawn ns 3 c (cell ns 2 % 8), inB x := fun x hx => drawn_le hx
    generalize drawn ns 3 c (cell ns 2 % 8) = xs at h4 hxl hbd
    refine q_asgL (el_listL (K := K) (ev_var rfl) (sq_of h4)) fun p5 H5 n5 e5 h5 => ?_
    have h45 := e5 _ _ h4
    have spS : ∀ {H : Hp} {p : Addr}, H p = some (.lst (xs.map V.int)) → SpV (spShown K) [.ref p, .int n] H (.str (shownS n xs)) := fun {H p} h H1 e Q q E => ⟨p, xs, n, rfl, sq_of (e _ _ h), by omega, hn, hbd, fun H2 e2 => q H2 e2⟩
    refine q_asg (ev_call (ea_cons (ev_var rfl) (ea_cons (ev_var rfl) ea_nil)) (spS h5)) fun H6 e6 => ?_
    have h46 := e6 _ _ h45
    refine q_when (b := false) (et_or (a := false) (et_is (et_op (ev_var rfl) (ev_var rfl) (rv_neL (K := K) (sq_of (e6 _ _ h5)) (sq_of h46))) (by rw [decide_eq_true rfl]; rfl)) fun _ => et_or (a := false) (et_not (a := true) (et_B (ev_isi (K := K) (ev_var rfl) ev_c (ty_str _) (by decide +kernel)))) fun _ =>
      et_is (et_neS (ev_var rfl) (ev_call (ea_cons (ev_var rfl) (ea_cons (ev_var rfl) ea_nil)) (spS h46))) (by rw [decide_eq_true rfl]; rfl)) (fun hb => nomatch hb) fun _ H7 e7 => ?_
    exact s_ret (v := .bl true) (ev_toldOf (ea_cons (ev_var rfl) ea_nil) (ea_cons (ev_var rfl) (ea_cons (ev_var rfl) ea_nil)) (sq_of (e7 _ _ h46)) (by omega) hn hbd) fun H8 e8 => q H8
end
theorem all_mk {l : PySem.W.OpenLaw} {w : World} {K : PySem.W.Frag} {h : Heap} {mg : Str → Option Value} {fa : Addr} {f1 f2 f3 f4 f5 f6 f7 f8 f9 f10 f11 : Addr} (X : K.In h) (G : h.Ns mainGlobals mg) (hfa : mg "law" = some (.ref fa))
    {od1 an1 : Option Addr} {sl1 : Array (Option Value)} {oc1 kV1 dc1 pm1 cd1 ct1 : Value}
    (a1 : PySem.W.nsIn K mainGlobals "_law_number_by" = some (some (.ref f1))) (l1 : K.lookup f1 = some ⟨oc1, od1, .func (PySem.W.fnOf "_law_number_by" "_law_number_by" (defArgs slaw_number_by) (defBody slaw_number_by) (defScope slaw_number_by) .none kV1 dc1 pm1 an1 cd1 ct1), sl1⟩) (c1 : PySem.W.codeIn K cd1 "_law_number_by" = true) (k1 : PySem.W.keepIn K (.ref f1) = true)
    {od2 an2 : Option Addr} {sl2 : Array (Option Value)} {oc2 kV2 dc2 pm2 cd2 ct2 : Value}
    (a2 : PySem.W.nsIn K mainGlobals "_law_cell_at" = some (some (.ref f2))) (l2 : K.lookup f2 = some ⟨oc2, od2, .func (PySem.W.fnOf "_law_cell_at" "_law_cell_at" (defArgs slaw_cell_at) (defBody slaw_cell_at) (defScope slaw_cell_at) .none kV2 dc2 pm2 an2 cd2 ct2), sl2⟩) (c2 : PySem.W.codeIn K cd2 "_law_cell_at" = true) (k2 : PySem.W.keepIn K (.ref f2) = true)
    {od3 an3 : Option Addr} {sl3 : Array (Option Value)} {oc3 kV3 dc3 pm3 cd3 ct3 : Value}
    (a3 : PySem.W.nsIn K mainGlobals "_law_numbers" = some (some (.ref f3))) (l3 : K.lookup f3 = some ⟨oc3, od3, .func (PySem.W.fnOf "_law_numbers" "_law_numbers" (defArgs slaw_numbers) (defBody slaw_numbers) (defScope slaw_numbers) .none kV3 dc3 pm3 an3 cd3 ct3), sl3⟩) (c3 : PySem.W.codeIn K cd3 "_law_numbers" = true) (k3 : PySem.W.keepIn K (.ref f3) = true)
    {od4 an4 : Option Addr} {sl4 : Array (Option Value)} {oc4 kV4 dc4 pm4 cd4 ct4 : Value}
    (a4 : PySem.W.nsIn K mainGlobals "shown" = some (some (.ref f4))) (l4 : K.lookup f4 = some ⟨oc4, od4, .func (PySem.W.fnOf "shown" "shown" (defArgs sshown) (defBody sshown) (defScope sshown) .none kV4 dc4 pm4 an4 cd4 ct4), sl4⟩) (c4 : PySem.W.codeIn K cd4 "shown" = true) (k4 : PySem.W.keepIn K (.ref f4) = true)
    {od5 an5 : Option Addr} {sl5 : Array (Option Value)} {oc5 kV5 dc5 pm5 cd5 ct5 : Value}
    (a5 : PySem.W.nsIn K mainGlobals "_law_whole" = some (some (.ref f5))) (l5 : K.lookup f5 = some ⟨oc5, od5, .func (PySem.W.fnOf "_law_whole" "_law_whole" (defArgs slaw_whole) (defBody slaw_whole) (defScope slaw_whole) .none kV5 dc5 pm5 an5 cd5 ct5), sl5⟩) (c5 : PySem.W.codeIn K cd5 "_law_whole" = true) (k5 : PySem.W.keepIn K (.ref f5) = true)
    {od6 an6 : Option Addr} {sl6 : Array (Option Value)} {oc6 kV6 dc6 pm6 cd6 ct6 : Value}
    (a6 : PySem.W.nsIn K mainGlobals "_law_is_told" = some (some (.ref f6))) (l6 : K.lookup f6 = some ⟨oc6, od6, .func (PySem.W.fnOf "_law_is_told" "_law_is_told" (defArgs slaw_is_told) (defBody slaw_is_told) (defScope slaw_is_told) .none kV6 dc6 pm6 an6 cd6 ct6), sl6⟩) (c6 : PySem.W.codeIn K cd6 "_law_is_told" = true) (k6 : PySem.W.keepIn K (.ref f6) = true)
    {od7 an7 : Option Addr} {sl7 : Array (Option Value)} {oc7 kV7 dc7 pm7 cd7 ct7 : Value}
    (a7 : PySem.W.nsIn K mainGlobals "figures_of" = some (some (.ref f7))) (l7 : K.lookup f7 = some ⟨oc7, od7, .func (PySem.W.fnOf "figures_of" "figures_of" (defArgs sfigures_of) (defBody sfigures_of) (defScope sfigures_of) .none kV7 dc7 pm7 an7 cd7 ct7), sl7⟩) (c7 : PySem.W.codeIn K cd7 "figures_of" = true) (k7 : PySem.W.keepIn K (.ref f7) = true)
    {od8 an8 : Option Addr} {sl8 : Array (Option Value)} {oc8 kV8 dc8 pm8 cd8 ct8 : Value}
    (a8 : PySem.W.nsIn K mainGlobals "number_of" = some (some (.ref f8))) (l8 : K.lookup f8 = some ⟨oc8, od8, .func (PySem.W.fnOf "number_of" "number_of" (defArgs snumber_of) (defBody snumber_of) (defScope snumber_of) .none kV8 dc8 pm8 an8 cd8 ct8), sl8⟩) (c8 : PySem.W.codeIn K cd8 "number_of" = true) (k8 : PySem.W.keepIn K (.ref f8) = true)
    {od9 an9 : Option Addr} {sl9 : Array (Option Value)} {oc9 kV9 dc9 pm9 cd9 ct9 : Value}
    (a9 : PySem.W.nsIn K mainGlobals "read" = some (some (.ref f9))) (l9 : K.lookup f9 = some ⟨oc9, od9, .func (PySem.W.fnOf "read" "read" (defArgs sread) (defBody sread) (defScope sread) .none kV9 dc9 pm9 an9 cd9 ct9), sl9⟩) (c9 : PySem.W.codeIn K cd9 "read" = true) (k9 : PySem.W.keepIn K (.ref f9) = true)
    {od10 an10 : Option Addr} {sl10 : Array (Option Value)} {oc10 kV10 dc10 pm10 cd10 ct10 : Value}
    (a10 : PySem.W.nsIn K mainGlobals "_law_text" = some (some (.ref f10))) (l10 : K.lookup f10 = some ⟨oc10, od10, .func (PySem.W.fnOf "_law_text" "_law_text" (defArgs slaw_text) (defBody slaw_text) (defScope slaw_text) .none kV10 dc10 pm10 an10 cd10 ct10), sl10⟩) (c10 : PySem.W.codeIn K cd10 "_law_text" = true) (k10 : PySem.W.keepIn K (.ref f10) = true)
    {od11 an11 : Option Addr} {sl11 : Array (Option Value)} {oc11 kV11 dc11 pm11 cd11 ct11 : Value}
    (a11 : PySem.W.nsIn K mainGlobals "law" = some (some (.ref f11))) (l11 : K.lookup f11 = some ⟨oc11, od11, .func (PySem.W.fnOf "law" "law" (defArgs slaw) (defBody slaw) (defScope slaw) .none kV11 dc11 pm11 an11 cd11 ct11), sl11⟩) (c11 : PySem.W.codeIn K cd11 "law" = true) (k11 : PySem.W.keepIn K (.ref f11) = true)
    (z1 : PySem.W.nsIn K mainGlobals "len" = some none)
    (z2 : PySem.W.nsIn K mainGlobals "range" = some none)
    (z3 : PySem.W.nsIn K mainGlobals "sorted" = some none)
    (z4 : PySem.W.nsIn K mainGlobals "set" = some none)
    (z5 : PySem.W.nsIn K mainGlobals "list" = some none)
    (z6 : PySem.W.nsIn K mainGlobals "dict" = some none)
    (z7 : PySem.W.nsIn K mainGlobals "sum" = some none)
    (z8 : PySem.W.nsIn K mainGlobals "min" = some none)
    (z9 : PySem.W.nsIn K mainGlobals "max" = some none)
    (z10 : PySem.W.nsIn K mainGlobals "abs" = some none)
    (z11 : PySem.W.nsIn K mainGlobals "isinstance" = some none)
    (z12 : PySem.W.nsIn K mainGlobals "str" = some none)
    (z13 : PySem.W.nsIn K mainGlobals "int" = some none)
    (z14 : PySem.W.nsIn K mainGlobals "bool" = some none)
    (z15 : PySem.W.nsIn K mainGlobals "tuple" = some none)
    {tGREATEST : Tok} (gGREATEST : PySem.W.nsIn K mainGlobals "GREATEST" = some (some (Value.int 24 tGREATEST)))
    {tFIGURES : Tok} (gFIGURES : PySem.W.nsIn K mainGlobals "FIGURES" = some (some (Value.str ("0123456789" : Str) tFIGURES)))
    {tMOST : Tok} (gMOST : PySem.W.nsIn K mainGlobals "MOST" = some (some (Value.int 1000000000000 tMOST)))
    {tLENGTH : Tok} (gLENGTH : PySem.W.nsIn K mainGlobals "LENGTH" = some (some (Value.int 60 tLENGTH)))
    : ∃ fd : FuncData, (∀ (s : Shared) (v : Value), BindsTo s fd ⟨[v], []⟩ [("script", v)]) ∧ ∀ base : Heap, K.In base → base.Ns mainGlobals mg → FnOk l.prog w K mg base CX0 4 fa fd ["script"] (spLaw K) := by
  have e := hfa.symm.trans (PySem.W.mg_of X G a11)
  cases e
  have nb : NB mg := ⟨PySem.W.mg_none_of X G z1, PySem.W.mg_none_of X G z2, PySem.W.mg_none_of X G z3, PySem.W.mg_none_of X G z4, PySem.W.mg_none_of X G z5, PySem.W.mg_none_of X G z6, PySem.W.mg_none_of X G z7, PySem.W.mg_none_of X G z8, PySem.W.mg_none_of X G z9, PySem.W.mg_none_of X G z10, PySem.W.mg_none_of X G z11, PySem.W.mg_none_of X G z12, PySem.W.mg_none_of X G z13, PySem.W.mg_none_of X G z14, PySem.W.mg_none_of X G z15⟩
  have cGREATEST : Cst mg "GREATEST" (.int 24) (Value.int 24 tGREATEST) := ⟨PySem.W.mg_of X G gGREATEST, ⟨_, rfl⟩⟩
  have cFIGURES : Cst mg "FIGURES" (.str ("0123456789" : Str)) (Value.str ("0123456789" : Str) tFIGURES) := ⟨PySem.W.mg_of X G gFIGURES, ⟨_, rfl⟩⟩
  have cMOST : Cst mg "MOST" (.int 1000000000000) (Value.int 1000000000000 tMOST) := ⟨PySem.W.mg_of X G gMOST, ⟨_, rfl⟩⟩
  have cLENGTH : Cst mg "LENGTH" (.int 60) (Value.int 60 tLENGTH) := ⟨PySem.W.mg_of X G gLENGTH, ⟨_, rfl⟩⟩
  have F1 := fun_mk (st := slaw_number_by) l1 c1 k1
  have Tlaw_number_by : Top K mg "_law_number_by" slaw_number_by ["cell", "way"] := ⟨_, _, F1, PySem.W.mg_of X G a1, F1.binds fun _ _ _ _ _ _ us hl => match us, hl with | [_, _], _ => rfl⟩
  have F2 := fun_mk (st := slaw_cell_at) l2 c2 k2
  have Tlaw_cell_at : Top K mg "_law_cell_at" slaw_cell_at ["script", "k"] := ⟨_, _, F2, PySem.W.mg_of X G a2, F2.binds fun _ _ _ _ _ _ us hl => match us, hl with | [_, _], _ => rfl⟩
  have F3 := fun_mk (st := slaw_numbers) l3 c3 k3
  have Tlaw_numbers : Top K mg "_law_numbers" slaw_numbers ["script", "first", "count", "way"] := ⟨_, _, F3, PySem.W.mg_of X G a3, F3.binds fun _ _ _ _ _ _ us hl => match us, hl with | [_, _, _, _], _ => rfl⟩
  have F4 := fun_mk (st := sshown) l4 c4 k4
  have Tshown : Top K mg "shown" sshown ["numbers", "n"] := ⟨_, _, F4, PySem.W.mg_of X G a4, F4.binds fun _ _ _ _ _ _ us hl => match us, hl with | [_, _], _ => rfl⟩
  have F5 := fun_mk (st := slaw_whole) l5 c5 k5
  have Tlaw_whole : Top K mg "_law_whole" slaw_whole ["found"] := ⟨_, _, F5, PySem.W.mg_of X G a5, F5.binds fun _ _ _ _ _ _ us hl => match us, hl with | [_], _ => rfl⟩
  have F6 := fun_mk (st := slaw_is_told) l6 c6 k6
  have Tlaw_is_told : Top K mg "_law_is_told" slaw_is_told ["found", "numbers", "n"] := ⟨_, _, F6, PySem.W.mg_of X G a6, F6.binds fun _ _ _ _ _ _ us hl => match us, hl with | [_, _, _], _ => rfl⟩
  have F7 := fun_mk (st := sfigures_of) l7 c7 k7
  have Tfigures_of : Top K mg "figures_of" sfigures_of ["word"] := ⟨_, _, F7, PySem.W.mg_of X G a7, F7.binds fun _ _ _ _ _ _ us hl => match us, hl with | [_], _ => rfl⟩
  have F8 := fun_mk (st := snumber_of) l8 c8 k8
  have Tnumber_of : Top K mg "number_of" snumber_of ["word"] := ⟨_, _, F8, PySem.W.mg_of X G a8, F8.binds fun _ _ _ _ _ _ us hl => match us, hl with | [_], _ => rfl⟩
  have F9 := fun_mk (st := sread) l9 c9 k9
  have Tread : Top K mg "read" sread ["text"] := ⟨_, _, F9, PySem.W.mg_of X G a9, F9.binds fun _ _ _ _ _ _ us hl => match us, hl with | [_], _ => rfl⟩
  have F10 := fun_mk (st := slaw_text) l10 c10 k10
  have Tlaw_text : Top K mg "_law_text" slaw_text ["numbers", "n"] := ⟨_, _, F10, PySem.W.mg_of X G a10, F10.binds fun _ _ _ _ _ _ us hl => match us, hl with | [_, _], _ => rfl⟩
  have F11 := fun_mk (st := slaw) l11 c11 k11
  have Tlaw : Top K mg "law" slaw ["script"] := ⟨_, _, F11, PySem.W.mg_of X G a11, F11.binds fun _ _ _ _ _ _ us hl => match us, hl with | [_], _ => rfl⟩
  refine ⟨PySem.W.fnOf "law" "law" (defArgs slaw) (defBody slaw) (defScope slaw) .none kV11 dc11 pm11 an11 cd11 ct11, fun s v => .of_eq rfl, fun base _ _ => ?_⟩
  have claw_number_by := oklaw_number_by (P := l.prog) (w := w) (base := base) Tlaw_number_by
  have claw_cell_at := oklaw_cell_at (P := l.prog) (w := w) (base := base) Tlaw_cell_at nb
  have claw_numbers := oklaw_numbers (P := l.prog) (w := w) (base := base) Tlaw_numbers nb claw_cell_at claw_number_by
  have cshown := okshown (P := l.prog) (w := w) (base := base) Tshown nb
  have claw_whole := oklaw_whole (P := l.prog) (w := w) (base := base) Tlaw_whole nb
  have claw_is_told := oklaw_is_told (P := l.prog) (w := w) (base := base) Tlaw_is_told nb claw_whole
  have cfigures_of := okfigures_of (P := l.prog) (w := w) (base := base) Tfigures_of nb cFIGURES
  have cnumber_of := oknumber_of (P := l.prog) (w := w) (base := base) Tnumber_of nb cMOST cfigures_of
  have cread := okread (P := l.prog) (w := w) (base := base) Tread nb cGREATEST cLENGTH cfigures_of cnumber_of
  have claw_text := oklaw_text (P := l.prog) (w := w) (base := base) Tlaw_text nb
  exact oklaw F11 nb claw_cell_at claw_numbers cshown cread claw_text claw_is_told
end Sr
open PySem PySem.W PyProof.Rows
set_option maxRecDepth 100000 in
set_option maxHeartbeats 0 in
theorem PySem.Challenge.cw_sumrests_k12_lists_written_holds : PySem.Challenge.rw_sumrests_k12_lists_written.Holds := by
  w_on; o_law; k_head; (case hw => w_witness2)
  k_fill
  refine L2.walk_of (l := PySem.Challenge.rw_sumrests_k12_lists_written) (n := 63) (k := 4) (x := "script") (CX := fun _ => L2.CX0) (sp := fun w => Sr.spLaw _) rfl (by decide) rfl ⟨rfl, by decide, by decide⟩ (fun w h Y => PySem.W.kIn_of Y) ?F (fun _ _ a ns hl _ hS => ⟨a, ns, rfl, hS, hl, fun _ => rfl⟩) (fun _ _ _ _ _ h => h)
  case F =>
    intro w mg fa h KX G hmg
    refine' Sr.all_mk KX G hmg ?a1 ?l1 ?c1 ?k1 ?a2 ?l2 ?c2 ?k2 ?a3 ?l3 ?c3 ?k3 ?a4 ?l4 ?c4 ?k4 ?a5 ?l5 ?c5 ?k5 ?a6 ?l6 ?c6 ?k6 ?a7 ?l7 ?c7 ?k7 ?a8 ?l8 ?c8 ?k8 ?a9 ?l9 ?c9 ?k9 ?a10 ?l10 ?c10 ?k10 ?a11 ?l11 ?c11 ?k11 ?z1 ?z2 ?z3 ?z4 ?z5 ?z6 ?z7 ?z8 ?z9 ?z10 ?z11 ?z12 ?z13 ?z14 ?z15 ?gGREATEST ?gFIGURES ?gMOST ?gLENGTH
    (case a1 => k_is); (case l1 => k_is); (case c1 => k_is); (case k1 => k_is); (case a2 => k_is); (case l2 => k_is)
    (case c2 => k_is); (case k2 => k_is); (case a3 => k_is); (case l3 => k_is); (case c3 => k_is); (case k3 => k_is)
    (case a4 => k_is); (case l4 => k_is); (case c4 => k_is); (case k4 => k_is); (case a5 => k_is); (case l5 => k_is)
    (case c5 => k_is); (case k5 => k_is); (case a6 => k_is); (case l6 => k_is); (case c6 => k_is); (case k6 => k_is)
    (case a7 => k_is); (case l7 => k_is); (case c7 => k_is); (case k7 => k_is); (case a8 => k_is); (case l8 => k_is)
    (case c8 => k_is); (case k8 => k_is); (case a9 => k_is); (case l9 => k_is); (case c9 => k_is); (case k9 => k_is)
    (case a10 => k_is); (case l10 => k_is); (case c10 => k_is); (case k10 => k_is); (case a11 => k_is); (case l11 => k_is)
    (case c11 => k_is); (case k11 => k_is); (case z1 => k_is); (case z2 => k_is); (case z3 => k_is); (case z4 => k_is)
    (case z5 => k_is); (case z6 => k_is); (case z7 => k_is); (case z8 => k_is); (case z9 => k_is); (case z10 => k_is)
    (case z11 => k_is); (case z12 => k_is); (case z13 => k_is); (case z14 => k_is); (case z15 => k_is); (case gGREATEST => k_is)
    (case gFIGURES => k_is); (case gMOST => k_is); (case gLENGTH => k_is)
