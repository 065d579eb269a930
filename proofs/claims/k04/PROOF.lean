import PyProof.Rows.All
import Wide.All
import OpenK.AllK
import Wide.FinOn
import HandS.ForMost
import HandS.ForExc
import HandS.Evl
import HandS.Strs
import HandS.SetFor
import HandS.IsInst
import HandS.Conv
import HandS.Zip
import HandS.Style
import HandS.StrMore
import KE.KEqDeep
import PySem.Challenge.RW_sumrests_k04_whole_sums_are_many
set_option Elab.async false
set_option linter.all false
set_option maxRecDepth 100000
set_option maxHeartbeats 4000000
namespace SrSet
open PySem PySem.Spec PyProof.Rows L2
/-! ### set(xs) of a list of ints, told as SetR tells it -/
/-- the object that a new set is -/
abbrev fresh (w : World) : Obj := { cls := .type "set", dict := none, data := .set #[] 0 (.fresh 0 0 (!w.params.followText "set-order")) }
section
variable {P : Program} {w : World} {A : Around} {E : Value → Shared → Prop} {s : Shared}
/-- what filling leaves of a new set at p -/
def Filled (w : World) (s s2 : Shared) (p : Addr) (ns : List Int) : Prop :=
  ∃ (h' : Heap) (tk c : Nat), s2 = { s with heap := h', toks := tk } ∧ SetR w h' p (fun j => decide (j ∈ ns)) c ∧ ∀ b o, s.heap.get? b = some o → h'.get? b = some o
/-- the items are walked into the new set, which stands at the heap's end ahead of the iterator -/
theorem fill {l : Addr} {items : Array Value} {ns : List Int} (hh : A.handled = none) (hl : s.heap.IsList l items) (hi : IntsAre items.toList ns) (hb : ns.length + 1 < scanBound)
    {R : Result → Shared → Prop} (k : ∀ s2, Filled w s s2 s.heap.objs.size ns → R (.ok (.ret .none)) s2) {h1 : Heap} {tk1 : Nat} {it : Addr} (ei : it = s.heap.objs.size + 1)
    (e1 : h1 = (s.heap.push (fresh w)).push { cls := .type "list_iterator", data := .fields #[.ref l, .int 0 0] }) :
    codeAny (model P w) A (.builtin "set.update.loop" ⟨[.ref s.heap.objs.size, .ref it], []⟩) R { s with heap := h1, toks := tk1 } := by
  subst ei
  have len : items.size = ns.length := by
    have q := IntsAre.length hi
    rwa [Array.length_toList] at q
  have lt : l < s.heap.objs.size := by
    obtain ⟨o, ho, _⟩ := hl
    exact Heap.lt_size ho
  have z1 : (s.heap.push (fresh w)).objs.size = s.heap.objs.size + 1 := Heap.size_push ..
  have at0 : h1.get? s.heap.objs.size = some (fresh w) := by
    rw [e1]
    exact Heap.get?_push_of_some _ (Heap.get?_push_size _ rfl)
  have vals : ∀ (i : Nat) (v : Value), items[i]? = some v → ∃ k t, ns[i]? = some k ∧ v = .int k t := fun i v hv => by
    have hlt : i < ns.length := by
      rw [← len]
      exact (Array.getElem?_eq_some_iff.mp hv).1
    obtain ⟨t, e⟩ := IntsAre.int_at hi i v (by rw [Array.getElem?_toList]; exact hv)
    have g : ns[i]? = some (ns.getD i 0) := by
      rw [List.getD_eq_getElem?_getD, List.getElem?_eq_getElem hlt]
      rfl
    exact ⟨_, t, g, e⟩
  have apart : l ≠ s.heap.objs.size + 1 := Nat.ne_of_lt (Nat.lt_succ_of_lt lt)
  refine set_update_ints ((Walks.list (by simpa using hh) _ l apart items).toS) s.heap.objs.size (fun m => ?_) ns len hb vals (items.size - 0) 0 { s with heap := h1, toks := tk1 } rfl (Nat.zero_le _) ?_ ⟨0, Nat.le_refl 0, setR_new_at at0⟩ fun s' c hm hc hS => ?_
  · rcases List.mem_cons.mp m with z | z
    · exact absurd z (Nat.ne_of_lt (Nat.lt_succ_self _))
    · exact absurd (List.mem_singleton.mp z).symm (Nat.ne_of_lt lt)
  · subst e1
    have g : ((s.heap.push (fresh w)).push { cls := .type "list_iterator", data := .fields #[.ref l, .int 0 0] }).get? (s.heap.objs.size + 1) = some { cls := .type "list_iterator", data := .fields #[.ref l, .int 0 0] } := by
      rw [← z1]
      exact Heap.get?_push_size _ rfl
    exact ⟨⟨_, g, rfl, rfl⟩, (hl.push _).push _⟩
  · refine k s' ⟨s'.heap, s'.toks, c, ?_, hS, fun b o e => ?_⟩
    · obtain ⟨h', g2, d', tk', os'⟩ := s'
      have eg : g2 = s.gens := hm.gens
      have ed : d' = s.drawn := hm.drawn
      have eo : os' = s.os := hm.os
      rw [eg, ed, eo]
    · have hb0 : b < s.heap.objs.size := Heap.lt_size e
      refine hm.heap b o (fun m => ?_) ?_
      · rcases List.mem_cons.mp m with z | z
        · exact absurd z (Nat.ne_of_lt hb0)
        · exact absurd (List.mem_singleton.mp z) (Nat.ne_of_lt (Nat.lt_succ_of_lt hb0))
      · rw [e1]
        exact Heap.get?_push_of_some _ (Heap.get?_push_of_some _ e)
theorem made {l : Addr} {items : Array Value} {ns : List Int} {Q : Value → Shared → Prop} (hh : A.handled = none) (hl : s.heap.IsList l items) (hi : IntsAre items.toList ns) (hb : ns.length + 1 < scanBound)
    (k : ∀ s2, Filled w s s2 s.heap.objs.size ns → Q (.ref s.heap.objs.size) s2) : wpAny (model P w) A (call (.type "set") [.ref l]) Q E s := by
  obtain ⟨c, tl, hmro⟩ := F.called_set.mro
  have m1 := F.called_set.made
  have m2 := F.called_set.sub
  refine wpAny_call (codeAny_of_tree ?_)
  show wpAny _ _ (callAny (.type "set") _) _ _ _
  refine wpAny_pure ⟨Code.quiet_builtin _ (by decide +kernel), codeAny_builtin F.entry_type_call ?_⟩
  rw [Around.under_plain (weight_type_call_type "set" [.ref l] []) rfl]
  have t1 := F.called_set.notType
  have t2 := F.called_set.canCreate
  have t3 := F.typeCall_set_1 (.ref l)
  repeat (any_goals (first | assumption | wp_step))
  refine codeAny_mono (code_set_led1 (.ref l) (E := E) (Q₁ := fun obj s₁ => obj = .ref s.heap.objs.size ∧ s₁ = { s with heap := s.heap.push (fresh w) }) ⟨rfl, rfl⟩) fun r s₁ hr => ?_
  match r, hr with
  | .error e, hr => exact hr
  | .ok (.ret obj), hr =>
    obtain ⟨rfl, rfl⟩ := hr
    have g0 : (s.heap.push (fresh w)).get? s.heap.objs.size = some (fresh w) := Heap.get?_push_size _ rfl
    have hT : Shared.TypeIs { s with heap := s.heap.push (fresh w) } (.ref s.heap.objs.size) "set" := ⟨_, g0, rfl⟩
    have i1 := F.called_set.init.lookup
    have i2 := F.called_set.init.bind (.ref s.heap.objs.size)
    repeat (any_goals (first | assumption | wp_step))
    refine codeAny_mono (codeAny_call_builtin (R := wants (fun r s2 => r = .none ∧ Filled w s s2 s.heap.objs.size ns) E) F.called_set.init.plain F.entry_set_init (check_set_init_1 hT ?_)) fun r₂ s₂ h₂ => ?_
    · have b1 := F.sub_list_set
      have b2 := F.sub_list_frozenset
      have b3 : (Value.type "list" == Value.type "dict") = false := by decide
      obtain ⟨⟨oc, od, dt, sl⟩, ho, hc, n, hd⟩ := id hl
      simp only at hc hd
      subst hc hd
      have g1 : (s.heap.push (fresh w)).get? l = some ⟨.type "list", od, .seq items n, sl⟩ := Heap.get?_push_of_some _ ho
      unfold Builtin.«set.__init__» noKeywords Builtin.Frozenset.updateFrom
      generalize eI : pyIter = It
      wp_walk
      subst eI
      refine wpAny_pyIter_list (hl.push _) ?_
      refine wpAny_bind (wpAny_runValue ?_)
      refine fill (A := A.in1.in1) (tk1 := s.toks) (by simpa using hh) hl hi hb (fun s2 hF => ?_) (Heap.size_push ..) rfl
      show wpAny _ _ _ _ _ _
      refine wpAny_pure ?_
      show wpAny _ _ (ret Value.none) _ _ _
      exact wpAny_pure ⟨rfl, hF⟩
    · match r₂, h₂ with
      | .error e, h₂ => exact h₂
      | .ok (.ret v), h₂ =>
        obtain ⟨rfl, hF⟩ := h₂
        repeat (any_goals (first | assumption | wp_step))
        exact k _ hF
      | .ok .next, h₂ => exact h₂.elim
      | .ok .brk, h₂ => exact h₂.elim
      | .ok .cont, h₂ => exact h₂.elim
  | .ok .next, hr => exact hr.elim
  | .ok .brk, hr => exact hr.elim
  | .ok .cont, hr => exact hr.elim
end
/-! ### over the layer -/
theorem nodup_len : ∀ (xs ys : List Int), xs.Nodup → (∀ x ∈ xs, x ∈ ys) → xs.length ≤ ys.length
  | [], _, _, _ => Nat.zero_le _
  | x :: xs, ys, h, m => by
    obtain ⟨h1, h2⟩ := List.nodup_cons.mp h
    have hx : x ∈ ys := m x List.mem_cons_self
    have e := List.length_erase_of_mem hx
    have hp : 0 < ys.length := List.length_pos_of_mem hx
    have ih := nodup_len xs (ys.erase x) h2 fun y hy => (List.mem_erase_of_ne fun z => h1 (by rw [← z]; exact hy)).mpr (m y (List.mem_cons_of_mem _ hy))
    rw [List.length_cons]
    omega
theorem sortedEq : ∀ (xs ys : List Int), xs.Pairwise (· < ·) → ys.Pairwise (· < ·) → (∀ k, k ∈ xs ↔ k ∈ ys) → xs = ys
  | [], [], _, _, _ => rfl
  | [], y :: ys, _, _, m => absurd ((m y).mpr List.mem_cons_self) (by simp)
  | x :: xs, [], _, _, m => absurd ((m x).mp List.mem_cons_self) (by simp)
  | x :: xs, y :: ys, hx, hy, m => by
    obtain ⟨x1, x2⟩ := List.pairwise_cons.mp hx
    obtain ⟨y1, y2⟩ := List.pairwise_cons.mp hy
    have e : x = y := by
      rcases List.mem_cons.mp ((m x).mp List.mem_cons_self) with e | e
      · exact e
      · rcases List.mem_cons.mp ((m y).mpr List.mem_cons_self) with z | z
        · exact z.symm
        · have a := y1 x e
          have b := x1 y z
          omega
    subst e
    rw [sortedEq xs ys x2 y2 fun k => ?_]
    constructor
    · intro hk
      rcases List.mem_cons.mp ((m k).mp (List.mem_cons_of_mem _ hk)) with z | z
      · exact absurd (x1 k hk) (by omega)
      · exact z
    · intro hk
      rcases List.mem_cons.mp ((m k).mpr (List.mem_cons_of_mem _ hk)) with z | z
      · exact absurd (y1 k hk) (by omega)
      · exact z
section
variable {X : Cx}
/-- set(xs), xs a list of ints; c: how many differ -/
def rSetOfL (K : PySem.W.Frag) (w : World) : List V → Hp → VK → Prop := fun xs H Q => ∃ (l : Addr) (ns : List Int), xs = [.ref l] ∧ SqL K H l (ns.map V.int) ∧ ns.length ≤ 2000 ∧
  ∀ (p : Addr) (ks : List Int), ks.Nodup → (∀ k, k ∈ ks ↔ k ∈ ns) → H p = none → Q (.ref p) (upd H p (SetO w p (fun j => decide (j ∈ ns)) ks.length))
theorem cr_setOfL (hc : X.calm = true) : CallR X (.type "set") (rSetOfL X.K X.w) := by
  intro pins s σ H xs us Q I r h
  obtain ⟨l, ns, rfl, hq, hl, q⟩ := h
  rw [Vals.ref1 r]
  obtain ⟨its, rv, pl, hz⟩ := I.list hq
  have hi : IntsAre its.toArray.toList ns := ints_of_vals (by simpa using rv)
  refine made (I.ok.hd hc) pl.isList hi (by unfold scanBound; omega) fun s2 hF => ?_
  obtain ⟨h', tk, c, rfl, hS, k⟩ := hF
  obtain ⟨o, es, ep, t, ho, hex, hdt, g, nd, hm, hb, hf, hn, hr, hl2⟩ := id hS
  have hlen : (es.toList.map keyOf).length = c := by rw [List.length_map, Array.length_toList]; exact hn
  have hmem : ∀ j, j ∈ es.toList.map keyOf ↔ j ∈ ns := fun j => by
    rw [← hm j, decide_eq_true_eq]
  have q2 := q s.heap.objs.size (es.toList.map keyOf) nd hmem (I.hok.fresh (Nat.le_refl _))
  rw [hlen] at q2
  exact ⟨.ref _, _, I.laid (t' := tk) k (Nat.le_refl _) (setO_new hS), rfl, q2⟩
open Evl in
/-- sorted(set(xs)) of a new list of ints below a bound -/
theorem el_sortedSet {K : PySem.W.Frag} {w : World} {te : TE} {σ : L2.St} {H : Hp} {ns ys : List Int} {b : Nat} (h : EvL te σ H (ns.map V.int)) (hl : ns.length ≤ 2000) (hb : b < 64) (hk : ∀ k ∈ ns, 0 ≤ k ∧ k < (b : Int)) (hy : ys.Pairwise (· < ·)) (hm : ∀ k, k ∈ ys ↔ k ∈ ns) :
    EvL (tCB (rSortedSet w) (tCons (tCB (rSetOfL K w) (tCons te tNil)) tNil)) σ H (ys.map V.int) := fun H1 e Q q =>
  h H1 e _ fun p H2 hp e2 h2 => ⟨p, ns, rfl, sq_of h2, hl, fun s ks nd hks hs => ⟨s, _, ks.length, rfl, upd_same, by
      refine Nat.lt_of_le_of_lt (nodup_len ks ((List.range b).map fun i : Nat => (i : Int)) nd fun x hx => ?_) (by rw [List.length_map, List.length_range]; exact hb)
      obtain ⟨h0, h1⟩ := hk x ((hks x).mp hx)
      exact List.mem_map.mpr ⟨x.toNat, List.mem_range.mpr (by omega), by omega⟩,
    fun zs r hz hzm hzl hr => by
      have e3 : Ex H2 (upd H2 s (SetO w s (fun j => decide (j ∈ ns)) ks.length)) := Ex.new hs
      have ez : zs = ys := sortedEq zs ys hz hy fun k => by rw [hzm, hm, decide_eq_true_eq]
      subst ez
      exact q r _ (fresh_back (e2.trans e3) hr) ((e2.trans e3).trans (Ex.new hr)) upd_same⟩⟩
end
end SrSet
namespace Sr
open PySem PySem.Spec PyProof.Rows L2 Evl
/-! ### what a def of the text is worth to its callers: by its name in the module -/
def CalX (CX : CXT) (P : Program) (w : World) (K : PySem.W.Frag) (mg : Str → Option Value) (base : Heap) (x : Str) (k : Nat) (ps : List Str) (sp : Sp) : Prop :=
  ∃ (f : Addr) (fd : FuncData), FnOk P w K mg base CX k f fd ps sp ∧ mg x = some (.ref f) ∧ PySem.W.keepIn K (.ref f) = true ∧ Binds K fd ps []
/-- no exception leaves it; one may -/
abbrev Cal0 (P : Program) (w : World) := CalX CX0 P w
abbrev CalE (P : Program) (w : World) := CalX (L2.CX P w) P w
/-- a def as the top has left it -/
def Top (K : PySem.W.Frag) (mg : Str → Option Value) (x : Str) (st : Stmt) (ps : List Str) : Prop := ∃ (f : Addr) (fd : FuncData), Fun K x x st f fd ∧ mg x = some (.ref f) ∧ Binds K fd ps []
/-- the built-in names stand for themselves -/
structure NB (mg : Str → Option Value) : Prop where
  len : mg "len" = none
  range : mg "range" = none
  sorted : mg "sorted" = none
  set : mg "set" = none
  list : mg "list" = none
  dict : mg "dict" = none
  sum : mg "sum" = none
  min : mg "min" = none
  max : mg "max" = none
  abs : mg "abs" = none
  isinstance : mg "isinstance" = none
  str : mg "str" = none
  int : mg "int" = none
  bool : mg "bool" = none
  tuple : mg "tuple" = none
/-- a constant of the module -/
structure Cst (mg : Str → Option Value) (x : Str) (v : V) (u : Value) : Prop where
  gm : mg x = some u
  rel : RelV v u
/-- an own exception class over ValueError, without an __init__ -/
structure Exc (K : PySem.W.Frag) (mg : Str → Option Value) (x : Str) (C : Addr) : Prop where
  gC : mg x = some (.ref C)
  x : PySem.W.excIn K C [.type "ValueError", .type "Exception", .type "BaseException", .type "object"] "ValueError.__new__" = true
  k : PySem.W.keepIn K (.ref C) = true
  b : PySem.W.subIn K (.ref C) (.type "BaseException") = some true
  t : PySem.W.typeIn K (.ref C) = some (.type "type")
section
variable {X : Cx}
theorem pe_cal {CX : CXT} {x : Str} {k : Nat} {ps : List Str} {sp : Sp} {E : XK} {e : Expr} {es : List Expr} {t : TA} {p pos : Pos} (C : CalX CX X.prog X.w X.K X.mg X.base x k ps sp) (hr : Room k X.A) (hx : Passes CX X E) (ha : PA X (e :: es) t) (hg : Gl X x := by rfl)
    (hdb : (x == ("__debug__" : Str)) = false := by decide) (he : starEach (e :: es) X.env = (false, eval e X.env) :: starEach es X.env := by rfl) (hpl : (backTo pos (starEach es X.env)).any (·.1) = false := by rfl) :
    PE X (.Call (.Name x p) (e :: es) [] pos) (tCall sp [] E t) := by
  obtain ⟨f, fd, F, hm, hk, hb⟩ := C
  exact pe_call F hr hg hm hk hb .nil hx ha hdb he hpl
/-- // by a positive number below 2 ^ 30 -/
theorem op_fdivP : OpR X (binaryOp .FloorDiv) (rI CDiv fun i j => .int (i / j)) := op_fdiv
/-- a op1 b op2 c op3 d, as a test -/
def tCh3 (r1 r2 r3 : R2) (ta tb tc td : TE) : TT := fun σ H Q => ta σ H fun x H1 => tb σ H1 fun y H2 => r1 x y H2 fun z H3 => ∃ k, z = .bl k ∧
  (if k = true then tc σ H3 fun u H4 => r2 y u H4 fun z2 H5 => ∃ k2, z2 = .bl k2 ∧ (if k2 = true then td σ H5 fun v H6 => r3 u v H6 fun z3 H7 => ∃ k3, z3 = .bl k3 ∧ Q k3 H7 else Q false H5) else Q false H3)
theorem pt_chain3 {o1 o2 o3 : CmpOp} {r1 r2 r3 : R2} {a b c d : Expr} {ta tb tc td : TE} {pos : Pos} (h1 : OpR X (compareOp o1) r1) (h2 : OpR X (compareOp o2) r2) (h3 : OpR X (compareOp o3) r3) (ha : PE X a ta) (hb : PE X b tb) (hc : PE X c tc) (hd : PE X d td)
    (hm : lastMarks [o1, o2, o3] [b, c, d] = false := by with_unfolding_all rfl) : PT X (.Compare a [o1, o2, o3] [b, c, d] pos) (tCh3 r1 r2 r3 ta tb tc td) := by
  refine ⟨fun pins s σ H Q I h => ?_⟩
  refine isTrue_chain (thn (ha.run pins s σ H _ I h) fun v s1 ⟨x, H1, I1, rx, q1⟩ => ?_) hm
  refine test_link (thn (hb.run pins s1 σ H1 _ I1 q1) fun u s2 ⟨y, H2, I2, ry, q2⟩ => thn (h1 pins s2 σ H2 x y v u _ I2 rx ry q2) fun e s3 hh => ?_)
  obtain ⟨z, H3, I3, rz, k, ez, q3⟩ := hh
  subst ez
  cases rz
  refine wpAny_truthy_bool ?_
  cases k with
  | false => exact ite_ff ⟨H3, I3, q3⟩
  | true =>
    refine ite_tt (test_link (thn (hc.run pins s3 σ H3 _ I3 q3) fun u4 s4 ⟨y4, H4, I4, r4, q4⟩ => thn (h2 pins s4 σ H4 y y4 u u4 _ I4 ry r4 q4) fun e5 s5 hh => ?_))
    obtain ⟨z5, H5, I5, r5, k5, e5, q5⟩ := hh
    subst e5
    cases r5
    refine wpAny_truthy_bool ?_
    cases k5 with
    | false => exact ite_ff ⟨H5, I5, q5⟩
    | true =>
      refine ite_tt (test_last (thn (hd.run pins s5 σ H5 _ I5 q5) fun u6 s6 ⟨y6, H6, I6, r6, q6⟩ => thn (h3 pins s6 σ H6 y4 y6 u4 u6 _ I6 r4 r6 q6) fun e7 s7 hh => ?_))
      obtain ⟨z7, H7, I7, r7, k7, e7, q7⟩ := hh
      subst e7
      cases r7
      exact wpAny_truthy_bool ⟨H7, I7, q7⟩
end
/-! the layer's rules that speak of the written part, by its own name (so that they serve within a comprehension's block) -/
section
variable {X : Cx} (K : PySem.W.Frag)
theorem k_len (hK : X.K = K := by rfl) : CallR X (.builtin "len") (fun xs H Q => ∃ p ys, xs = [.ref p] ∧ (SqL K H p ys ∨ SqT K H p ys) ∧ Q (.int ys.length) H) := by
  subst hK
  exact call_len_seq
theorem k_listof (hK : X.K = K := by rfl) : CallR X (.type "list") (fun xs H Q => ∃ p ys, xs = [.ref p] ∧ (SqL K H p ys ∨ SqT K H p ys) ∧ ∀ l, H l = none → Q (.ref l) (upd H l (.lst ys))) := by
  subst hK
  exact call_list_of
theorem k_isi (hK : X.K = K := by rfl) : CallR X (.builtin "isinstance") (rIsi K) := by
  subst hK
  exact call_isi
theorem k_sorted (hK : X.K = K := by rfl) : CallR X (.builtin "sorted") (rSorted K) := by
  subst hK
  exact cr_sorted
theorem k_sum (hc : X.calm = true := by rfl) (hK : X.K = K := by rfl) : CallR X (.builtin "sum") (rSum K) := by
  subst hK
  exact cr_sum hc
theorem k_set (w : World) (hc : X.calm = true := by rfl) (hK : X.K = K := by rfl) (hw : X.w = w := by rfl) : CallR X (.type "set") (SrSet.rSetOfL K w) := by
  subst hK hw
  exact SrSet.cr_setOfL hc
theorem k_sortedSet (w : World) (hc : X.calm = true := by rfl) (hw : X.w = w := by rfl) : CallR X (.builtin "sorted") (rSortedSet w) := by
  subst hw
  exact cr_sortedSet hc
theorem k_ixL (hK : X.K = K := by rfl) : IxR X (rIxL K) := by
  subst hK
  exact ix_list
theorem k_ixT (hK : X.K = K := by rfl) : IxR X (rIxT K) := by
  subst hK
  exact ix_tup
theorem k_in (hK : X.K = K := by rfl) : OpR X (compareOp .In) (rIn K false) := by
  subst hK
  exact op_in_seq
theorem k_notIn (hK : X.K = K := by rfl) : OpR X (compareOp .NotIn) (rIn K true) := by
  subst hK
  exact op_notIn_seq
theorem k_eqD (hu : X.A.units + 64 < cLine) (hK : X.K = K := by rfl) : OpR X (compareOp .Eq) (rEqD K) := by
  subst hK
  exact op_eqD hu
theorem k_neD (hu : X.A.units + 64 < cLine) (hK : X.K = K := by rfl) : OpR X (compareOp .NotEq) (rNeD K) := by
  subst hK
  exact op_neD hu
theorem k_slL (hK : X.K = K := by rfl) : SlR X (rSlL K) := by
  subst hK
  exact sl_list
theorem k_rev {e : Expr} {te : TE} {k : Nat} {p1 p2 p3 pos : Pos} (he : PE X e te) (hK : X.K = K := by rfl) : PE X (.Subscript e (.Slice none none (some (.UnaryOp .USub (.Constant (.int 1) k p1) p2)) p3) pos) (tRevL K te) := by
  subst hK
  exact pe_revL he
theorem k_list {tg l : Expr} {tl : TE} (hl : PE X l tl) (hK : X.K = K := by rfl) : PI X tg l (iList K tl) := by
  subst hK
  exact pi_list hl
end
/-! ### more of Evl: what evaluates to what -/
section
variable {K : PySem.W.Frag} {σ : L2.St} {H H' : Hp} {ta tb te tx : TE} {t u : TT} {x y z v : V} {D : Ends} {tu tw tz : TS}
/-- comparisons as tests -/
theorem et_op {r : R2} {b : Bool} (ha : Ev ta σ H x) (hb : Ev tb σ H y) (hr : RV r x y H (.bl b)) : EvT (tTest (tOp r ta tb)) σ H b := et_test (ev_op ha hb hr)
theorem et_lt {i j : Int} (ha : Ev ta σ H (.int i)) (hb : Ev tb σ H (.int j)) : EvT (tTest (tOp (rI0 fun i j => .bl (decide (i < j))) ta tb)) σ H (decide (i < j)) := et_op ha hb rv_I0
theorem et_gt {i j : Int} (ha : Ev ta σ H (.int i)) (hb : Ev tb σ H (.int j)) : EvT (tTest (tOp (rI0 fun i j => .bl (decide (j < i))) ta tb)) σ H (decide (j < i)) := et_op ha hb rv_I0
theorem et_le {i j : Int} (ha : Ev ta σ H (.int i)) (hb : Ev tb σ H (.int j)) : EvT (tTest (tOp (rI0 fun i j => .bl (decide (i ≤ j))) ta tb)) σ H (decide (i ≤ j)) := et_op ha hb rv_I0
theorem et_ge {i j : Int} (ha : Ev ta σ H (.int i)) (hb : Ev tb σ H (.int j)) : EvT (tTest (tOp (rI0 fun i j => .bl (decide (j ≤ i))) ta tb)) σ H (decide (j ≤ i)) := et_op ha hb rv_I0
theorem decInt {i j : Int} : decide (V.int i = V.int j) = decide (i = j) := by
  rw [Bool.eq_iff_iff]
  simp
theorem et_eq {i j : Int} (ha : Ev ta σ H (.int i)) (hb : Ev tb σ H (.int j)) : EvT (tTest (tOp rEq ta tb)) σ H (decide (i = j)) := by
  have h := et_op ha hb (rv_eq (H := H) (x := .int i) (y := .int j) rfl)
  rw [decInt] at h
  exact h
theorem et_ne {i j : Int} (ha : Ev ta σ H (.int i)) (hb : Ev tb σ H (.int j)) : EvT (tTest (tOp rNe ta tb)) σ H (!decide (i = j)) := by
  have h := et_op ha hb (rv_ne (H := H) (x := .int i) (y := .int j) rfl)
  rw [decInt] at h
  exact h
theorem ev_eqI {i j : Int} (ha : Ev ta σ H (.int i)) (hb : Ev tb σ H (.int j)) : Ev (tOp rEq ta tb) σ H (.bl (decide (i = j))) := by
  have h := ev_op ha hb (rv_eq (H := H) (x := .int i) (y := .int j) rfl)
  rw [decInt] at h
  exact h
/-- arithmetic -/
theorem ev_mod {i j : Int} (ha : Ev ta σ H (.int i)) (hb : Ev tb σ H (.int j)) (hj : 0 < j) : Ev (tOp (rI (fun _ j => 0 < j) fun i j => .int (i % j)) ta tb) σ H (.int (i % j)) := ev_op ha hb (rv_I (C := fun _ j => 0 < j) hj)
theorem ev_add {i j : Int} (ha : Ev ta σ H (.int i)) (hb : Ev tb σ H (.int j)) : Ev (tOp (rI0 fun i j => .int (i + j)) ta tb) σ H (.int (i + j)) := ev_op ha hb rv_I0
theorem ev_sub {i j : Int} (ha : Ev ta σ H (.int i)) (hb : Ev tb σ H (.int j)) : Ev (tOp (rI0 fun i j => .int (i - j)) ta tb) σ H (.int (i - j)) := ev_op ha hb rv_I0
theorem ev_div {i j : Int} (ha : Ev ta σ H (.int i)) (hb : Ev tb σ H (.int j)) (hj : 0 < j) (hj' : j < 1073741824) : Ev (tOp (rI CDiv fun i j => .int (i / j)) ta tb) σ H (.int (i / j)) := ev_op ha hb (rv_I (C := CDiv) ⟨hj, hj'⟩)
theorem ev_mul {i j : Int} (ha : Ev ta σ H (.int i)) (hb : Ev tb σ H (.int j)) (h : CMul i j) : Ev (tOp (rI CMul fun i j => .int (i * j)) ta tb) σ H (.int (i * j)) := ev_op ha hb (rv_I (C := CMul) h)
theorem ev_pow {i j : Int} (ha : Ev ta σ H (.int i)) (hb : Ev tb σ H (.int j)) (h : CPow i j) : Ev (tOp (rI CPow fun i j => .int (i ^ j.toNat)) ta tb) σ H (.int (i ^ j.toNat)) := ev_op ha hb (rv_I (C := CPow) h)
theorem ev_negI {i : Int} (ha : Ev ta σ H (.int i)) : Ev (tUn (rU fun i => .int (-i)) ta) σ H (.int (-i)) := ev_un ha ru_neg
theorem ev_int {i j : Int} (h : Ev te σ H (.int i)) (e : i = j) : Ev te σ H (.int j) := by
  rw [← e]
  exact h
theorem ev_min {i j : Int} (ha : Ev ta σ H (.int i)) (hb : Ev tb σ H (.int j)) : Ev (tCB (fun xs H Q => ∃ i j, xs = [.int i, .int j] ∧ Q (.int (if j < i then j else i)) H) (tCons ta (tCons tb tNil))) σ H (.int (if j < i then j else i)) := fun H1 e Q q =>
  ha H1 e _ fun H2 e2 => hb H2 (e.trans e2) _ fun H3 e3 => ⟨i, j, rfl, q H3 (e2.trans e3)⟩
theorem ev_max {i j : Int} (ha : Ev ta σ H (.int i)) (hb : Ev tb σ H (.int j)) : Ev (tCB (fun xs H Q => ∃ i j, xs = [.int i, .int j] ∧ Q (.int (if j > i then j else i)) H) (tCons ta (tCons tb tNil))) σ H (.int (if j > i then j else i)) := fun H1 e Q q =>
  ha H1 e _ fun H2 e2 => hb H2 (e.trans e2) _ fun H3 e3 => ⟨i, j, rfl, q H3 (e2.trans e3)⟩
theorem ev_abs {i : Int} (ha : Ev ta σ H (.int i)) : Ev (tCB (fun xs H Q => ∃ i, xs = [.int i] ∧ Q (.int (if i < 0 then -i else i)) H) (tCons ta tNil)) σ H (.int (if i < 0 then -i else i)) := fun H1 e Q q =>
  ha H1 e _ fun H2 e2 => ⟨i, rfl, q H2 e2⟩
/-- len, list(..) of a list, an item: as the rules of the layer print them -/
theorem ev_lenL {p : Addr} {xs : List V} (ha : Ev ta σ H (.ref p)) (h : SqL K H p xs) : Ev (tCB (fun xs H Q => ∃ p ys, xs = [.ref p] ∧ (SqL K H p ys ∨ SqT K H p ys) ∧ Q (.int ys.length) H) (tCons ta tNil)) σ H (.int (xs.length : Int)) := ev_len ha h
theorem ev_lenNL {xs : List V} (ha : EvL ta σ H xs) : Ev (tCB (fun xs H Q => ∃ p ys, xs = [.ref p] ∧ (SqL K H p ys ∨ SqT K H p ys) ∧ Q (.int ys.length) H) (tCons ta tNil)) σ H (.int (xs.length : Int)) := ev_lenN ha
theorem el_listL {p : Addr} {xs : List V} (ha : Ev ta σ H (.ref p)) (h : SqL K H p xs) : EvL (tCB (fun xs H Q => ∃ p ys, xs = [.ref p] ∧ (SqL K H p ys ∨ SqT K H p ys) ∧ ∀ l, H l = none → Q (.ref l) (upd H l (.lst ys))) (tCons ta tNil)) σ H xs := el_list ha h
theorem ev_itemL {p : Addr} {xs : List V} {i : Int} (ha : Ev ta σ H (.ref p)) (hb : Ev tb σ H (.int i)) (h : SqL K H p xs) (hi : atI xs i = some v) : Ev (tOp (rIxL K) ta tb) σ H v := ev_op ha hb (rv_ixL h hi)
theorem ev_itemNL {xs : List V} {i : Int} (ha : EvL ta σ H xs) (hb : Ev tb σ H (.int i)) (hi : atI xs i = some v) : Ev (tOp (rIxL K) ta tb) σ H v :=
  ev_opL1 ha (fun _ e => hb.mono e) fun _ _ h _ => rv_ixL (sq_of h) hi
theorem atI_map {xs : List Int} {k : Int} (h0 : 0 ≤ k) (h1 : k < xs.length) : atI (xs.map V.int) k = some (.int (xs.getD k.toNat 0)) := by
  have e : k = ((k.toNat : Nat) : Int) := by omega
  have hlt : k.toNat < xs.length := by omega
  rw [e]
  refine atI_nat ?_
  rw [List.getElem?_map, List.getElem?_eq_getElem hlt]
  show some (V.int xs[k.toNat]) = some (V.int (xs.getD ((k.toNat : Nat) : Int).toNat 0))
  rw [Int.toNat_natCast, List.getD_eq_getElem?_getD, List.getElem?_eq_getElem hlt]
  rfl
/-- a call in an assignment, by its promise as it stands -/
theorem q_call {i : Nat} {sp : Sp} {E : XK} {ta : TA} {vs : List V} (h : EvA ta σ H vs) (k : ∀ H1, Ex H H1 → sp vs H1 (fun x H2 => tz D (σ.set i (some x)) H2) E) : tSeq (tAsg (tCall sp [] E ta) (gName i)) tz D σ H := h H (Ex.refl H) _ fun H1 e1 => by
  show sp (vs ++ []) H1 (fun x H2 => tz D (σ.set i (some x)) H2) E
  rw [List.append_nil]
  exact k H1 e1
theorem inV_int (k : Int) (ns : List Int) : inV (.int k) (ns.map V.int) = decide (k ∈ ns) := by
  unfold inV
  rw [Bool.eq_iff_iff, List.any_eq_true, decide_eq_true_eq]
  constructor
  · rintro ⟨x, hx, e⟩
    obtain ⟨z, hz, rfl⟩ := List.mem_map.mp hx
    have : z = k := by
      have e : (z == k) = true := e
      exact eq_of_beq e
    rw [← this]
    exact hz
  · intro h
    refine ⟨.int k, List.mem_map.mpr ⟨k, h, rfl⟩, ?_⟩
    show (k == k) = true
    exact beq_self_eq_true k
theorem q_callS {i : Nat} {sp : Sp} {E : XK} {ta : TA} {vs : List V} (h : EvA ta σ H vs) (k : ∀ H1, Ex H H1 → sp vs H1 (fun x H2 => D.nx (σ.set i (some x)) H2) E) : tAsg (tCall sp [] E ta) (gName i) D σ H := h H (Ex.refl H) _ fun H1 e1 => by
  show sp (vs ++ []) H1 (fun x H2 => D.nx (σ.set i (some x)) H2) E
  rw [List.append_nil]
  exact k H1 e1
theorem flat_ints (ns : List Int) : (ns.map V.int).all flatV = true := by
  rw [List.all_eq_true]
  intro x hx
  obtain ⟨z, _, rfl⟩ := List.mem_map.mp hx
  rfl
theorem s_rcall {sp : Sp} {E : XK} {ta : TA} {vs : List V} (h : EvA ta σ H vs) (k : ∀ H1, Ex H H1 → sp vs H1 D.rt E) : tRet (tCall sp [] E ta) D σ H := h H (Ex.refl H) _ fun H1 e1 => by
  show sp (vs ++ []) H1 D.rt E
  rw [List.append_nil]
  exact k H1 e1
/-- dicts with whole numbers as keys -/
theorem et_din {p : Addr} {kvs : List (Key × V)} {k : Int} (ha : Ev ta σ H (.int k)) (hb : Ev tb σ H (.ref p)) (hp : H p = some (.dK kvs)) : EvT (tB (tDIn ta tb)) σ H (valV kvs (Sum.inl k : Key)).isSome := fun H1 e _ q =>
  ha H1 e _ fun H2 e2 => hb H2 (e.trans e2) _ fun H3 e3 => ⟨p, _, rfl, DGet.k (k := Sum.inl k) (((e.trans e2).trans e3) _ _ hp), _, rfl, q H3 (e2.trans e3)⟩
theorem et_dnotin {p : Addr} {kvs : List (Key × V)} {k : Int} (ha : Ev ta σ H (.int k)) (hb : Ev tb σ H (.ref p)) (hp : H p = some (.dK kvs)) : EvT (tB (tDNotIn ta tb)) σ H (!(valV kvs (Sum.inl k : Key)).isSome) := fun H1 e _ q =>
  ha H1 e _ fun H2 e2 => hb H2 (e.trans e2) _ fun H3 e3 => ⟨p, _, rfl, DGet.k (k := Sum.inl k) (((e.trans e2).trans e3) _ _ hp), _, rfl, q H3 (e2.trans e3)⟩
theorem ev_dnotin {p : Addr} {kvs : List (Key × V)} {k : Int} (ha : Ev ta σ H (.int k)) (hb : Ev tb σ H (.ref p)) (hp : H p = some (.dK kvs)) : Ev (tDNotIn ta tb) σ H (.bl (!(valV kvs (Sum.inl k : Key)).isSome)) := fun H1 e _ q =>
  ha H1 e _ fun H2 e2 => hb H2 (e.trans e2) _ fun H3 e3 => ⟨p, _, rfl, DGet.k (k := Sum.inl k) (((e.trans e2).trans e3) _ _ hp), q H3 (e2.trans e3)⟩
theorem ev_dget {p : Addr} {kvs : List (Key × V)} {k : Int} (ha : Ev ta σ H (.ref p)) (hb : Ev tb σ H (.int k)) (hp : H p = some (.dK kvs)) (hv : valV kvs (Sum.inl k : Key) = some v) : Ev (tDGet ta tb) σ H v := fun H1 e _ q =>
  ha H1 e _ fun H2 e2 => hb H2 (e.trans e2) _ fun H3 e3 => ⟨p, v, rfl, by
    have g := DGet.k (k := (Sum.inl k : Key)) (((e.trans e2).trans e3) _ _ hp)
    rw [hv] at g
    exact g, q H3 (e2.trans e3)⟩
theorem s_dput {p : Addr} {kvs : List (Key × V)} {k : Int} (hp : H p = some (.dK kvs)) (hl : kvs.length < 100000) (hv : Ev te σ H v) (ha : Ev ta σ H (.ref p)) (hb : Ev tb σ H (.int k)) (q : ∀ H1, Ex H H1 → D.nx σ (upd H1 p (.dK (putK kvs (Sum.inl k : Key) v)))) : sDPut ta tb te D σ H :=
  hv H (Ex.refl H) _ fun H1 e1 => ha H1 e1 _ fun H2 e2 => hb H2 (e1.trans e2) _ fun H3 e3 => ⟨p, _, rfl, DPut.k (k := Sum.inl k) (((e1.trans e2).trans e3) _ _ hp) (sz_lt hl), q H3 ((e1.trans e2).trans e3)⟩
theorem q_dput {p : Addr} {kvs : List (Key × V)} {k : Int} (hp : H p = some (.dK kvs)) (hl : kvs.length < 100000) (hv : Ev te σ H v) (ha : Ev ta σ H (.ref p)) (hb : Ev tb σ H (.int k)) (q : ∀ H1, Ex H H1 → tz D σ (upd H1 p (.dK (putK kvs (Sum.inl k : Key) v)))) : tSeq (sDPut ta tb te) tz D σ H :=
  s_dput (D := { D with nx := tz D }) hp hl hv ha hb q
/-- x = {k: v}, a whole number as the key -/
theorem q_disp1 {i : Nat} {k : Int} (e1 : Ev ta σ H (.int k)) (e2 : Ev tb σ H v) (q : ∀ p H2, H p = none → Ex H H2 → H2 p = some (.dK [((Sum.inl k : Key), v)]) → tz D (σ.set i (some (.ref p))) H2) :
    tSeq (tAsg (tDisp [(ta, tb)]) (gName i)) tz D σ H := fun p hp => by
  have s1 : Ex H (upd H p (.dK [])) := Ex.new hp
  refine e1 _ s1 _ fun H2 h2 => e2 _ (s1.trans h2) _ fun H3 h3 => ⟨(h2.trans h3) p _ upd_same, [((Sum.inl k : Key), v)], rfl, by show 1 ≤ 15; decide, ?_⟩
  refine q p _ hp (Ex.mut ((s1.trans h2).trans h3) hp) ?_
  rw [upd_same]
  rfl
/-- is None, is not None -/
theorem et_isN (ha : Ev ta σ H x) : EvT (tTest (tOp (fun x y H Q => y = .non ∧ Q (.bl (decide (x = .non))) H) ta (tC .non))) σ H (decide (x = .non)) := fun H1 e _ q => ha H1 e _ fun H2 e2 => ⟨rfl, _, rfl, q H2 e2⟩
theorem ev_isNV (ha : Ev ta σ H x) : Ev (tOp (fun x y H Q => y = .non ∧ Q (.bl (decide (x = .non))) H) ta (tC .non)) σ H (.bl (decide (x = .non))) := fun H1 e _ q => ha H1 e _ fun H2 e2 => ⟨rfl, q H2 e2⟩
theorem ev_notNV (ha : Ev ta σ H x) : Ev (tOp (fun x y H Q => y = .non ∧ Q (.bl (!decide (x = .non))) H) ta (tC .non)) σ H (.bl (!decide (x = .non))) := fun H1 e _ q => ha H1 e _ fun H2 e2 => ⟨rfl, q H2 e2⟩
/-- tuples -/
theorem ev_lenT {p : Addr} {xs : List V} (ha : Ev ta σ H (.ref p)) (h : SqT K H p xs) : Ev (tCB (fun xs H Q => ∃ p ys, xs = [.ref p] ∧ (SqL K H p ys ∨ SqT K H p ys) ∧ Q (.int ys.length) H) (tCons ta tNil)) σ H (.int (xs.length : Int)) := fun H1 e Q q =>
  ha H1 e _ fun H2 e2 => ⟨p, xs, rfl, Or.inr (ex_t (e.trans e2) h), q H2 e2⟩
theorem ev_itemT {p : Addr} {xs : List V} {i : Int} (ha : Ev ta σ H (.ref p)) (hb : Ev tb σ H (.int i)) (h : SqT K H p xs) (hi : atI xs i = some v) : Ev (tOp (rIxT K) ta tb) σ H v := ev_op ha hb (rv_ixT h hi)
theorem et_ch3 {p1 p2 p3 : Int → Int → Bool} {i j k l : Int} {tc td : TE} (ha : Ev ta σ H (.int i)) (hb : Ev tb σ H (.int j)) (hc : Ev tc σ H (.int k)) (hd : Ev td σ H (.int l)) (h1 : p1 i j = true) (h2 : p2 j k = true) (h3 : p3 k l = true) :
    EvT (tCh3 (rI0 fun i j => .bl (p1 i j)) (rI0 fun i j => .bl (p2 i j)) (rI0 fun i j => .bl (p3 i j)) ta tb tc td) σ H true := fun H1 e Q q =>
  ha H1 e _ fun H2 e2 => hb H2 (e.trans e2) _ fun H3 e3 => ⟨i, j, rfl, rfl, true, congrArg V.bl h1, by
    show tc σ H3 _
    refine hc H3 ((e.trans e2).trans e3) _ fun H4 e4 => ⟨j, k, rfl, rfl, true, congrArg V.bl h2, ?_⟩
    show td σ H4 _
    exact hd H4 (((e.trans e2).trans e3).trans e4) _ fun H5 e5 => ⟨k, l, rfl, rfl, true, congrArg V.bl h3, q H5 (((e2.trans e3).trans e4).trans e5)⟩⟩
/-- len(set(xs)) of a list in which no number is twice -/
theorem ev_lenSet {a : Addr} {ns : List Int} (ha : Ev ta σ H (.ref a)) (h : SqL K H a (ns.map V.int)) (hd : ns.Nodup) (hl : ns.length ≤ 4000) : Ev (RZ.tLenSetI K ta) σ H (.int (ns.length : Int)) := fun H1 e Q q =>
  ha H1 e _ fun H2 e2 => ⟨a, ns, rfl, ex_l (e.trans e2) h, hd, hl, q H2 e2⟩
/-- sum(xs) of a new list -/
theorem ev_sumN {ns : List Int} (ha : EvL ta σ H (ns.map V.int)) : Ev (tCB (rSum K) (tCons ta tNil)) σ H (.int ns.sum) := fun H1 e Q q => ha H1 e _ fun p H2 _ e2 h2 => ⟨p, ns, rfl, sq_of h2, q H2 e2⟩
/-- isinstance(x, T), T a built-in type -/
theorem ev_isi {m n : String} {b : Bool} (ha : Ev ta σ H x) (hb : Ev tb σ H (.ty n)) (ty : ∀ H1, Ex H H1 → TyX K H1 x (.type m)) (hk : kitB m n = some b) : Ev (tCB (rIsi K) (tCons ta (tCons tb tNil))) σ H (.bl b) := fun H1 e Q q =>
  ha H1 e _ fun H2 e2 => hb H2 (e.trans e2) _ fun H3 e3 => ⟨x, .ty n, .type m, .type n, b, rfl, .ty n, ty H3 ((e.trans e2).trans e3), kit_ty hk, q H3 (e2.trans e3)⟩
theorem ty_int (i : Int) : ∀ H1, Ex H H1 → TyX K H1 (.int i) (.type "int") := fun _ _ => .base (.int i)
theorem ty_lst {a : Addr} {xs : List V} (h : H a = some (.lst xs)) : ∀ H1, Ex H H1 → TyX K H1 (.ref a) (.type "list") := fun _ e => .base (.lst (e a _ h))
theorem ty_tup {a : Addr} {xs : List V} (h : H a = some (.tup xs)) : ∀ H1, Ex H H1 → TyX K H1 (.ref a) (.type "tuple") := fun _ e => .base (.tup (e a _ h))
theorem ty_str (z : Str) : ∀ H1, Ex H H1 → TyX K H1 (.str z) (.type "str") := fun _ _ => .base (.str z)
/-- xs + ys -/
theorem el_cat {p : Addr} {xs ys : List V} (ha : Ev ta σ H (.ref p)) (hp : H p = some (.lst xs)) (hb : EvL tb σ H ys) (hz : xs.length + ys.length ≤ 100000) : EvL (tOp rCat ta tb) σ H (xs ++ ys) := fun H1 e Q q =>
  ha H1 e _ fun H2 e2 => hb H2 (e.trans e2) _ fun b H3 hb3 e3 h3 => ⟨p, b, xs, ys, rfl, rfl, ((e.trans e2).trans e3) _ _ hp, h3, sz_of hz, fun r hr => q r _ (fresh_back (e2.trans e3) hr) ((e2.trans e3).trans (Ex.new hr)) upd_same⟩
theorem el_catLL {xs ys : List V} (ha : EvL ta σ H xs) (hb : EvL tb σ H ys) (hz : xs.length + ys.length ≤ 100000) : EvL (tOp rCat ta tb) σ H (xs ++ ys) := fun H1 e Q q =>
  ha H1 e _ fun p H2 hp2 e2 h2 => hb H2 (e.trans e2) _ fun b H3 hb3 e3 h3 => ⟨p, b, xs, ys, rfl, rfl, e3 _ _ h2, h3, sz_of hz, fun r hr => q r _ (fresh_back (e2.trans e3) hr) ((e2.trans e3).trans (Ex.new hr)) upd_same⟩
theorem el_catVV {p q : Addr} {xs ys : List V} (ha : Ev ta σ H (.ref p)) (hp : H p = some (.lst xs)) (hb : Ev tb σ H (.ref q)) (hq : H q = some (.lst ys)) (hz : xs.length + ys.length ≤ 100000) : EvL (tOp rCat ta tb) σ H (xs ++ ys) := fun H1 e Q k =>
  ha H1 e _ fun H2 e2 => hb H2 (e.trans e2) _ fun H3 e3 => ⟨p, q, xs, ys, rfl, rfl, ((e.trans e2).trans e3) _ _ hp, ((e.trans e2).trans e3) _ _ hq, sz_of hz, fun r hr => k r _ (fresh_back (e2.trans e3) hr) ((e2.trans e3).trans (Ex.new hr)) upd_same⟩
/-- calls some of whose arguments are new lists -/
theorem ev_callL {sp : Sp} {E : XK} {ys : List V} (ha : Ev ta σ H x) (hb : EvL tb σ H ys) (hs : ∀ b H1, Ex H H1 → H1 b = some (.lst ys) → SpV sp [x, .ref b] H1 z) : Ev (tCall sp [] E (tCons ta (tCons tb tNil))) σ H z := fun H1 e Q q =>
  ha H1 e _ fun H2 e2 => hb H2 (e.trans e2) _ fun b H3 _ e3 h3 => hs b H3 ((e.trans e2).trans e3) h3 H3 (Ex.refl H3) Q (fun H4 e4 => q H4 ((e2.trans e3).trans e4)) E
theorem ev_callL1 {sp : Sp} {E : XK} {ys : List V} (ha : EvL ta σ H ys) (hb : Ev tb σ H y) (hs : ∀ a H1, Ex H H1 → H1 a = some (.lst ys) → SpV sp [.ref a, y] H1 z) : Ev (tCall sp [] E (tCons ta (tCons tb tNil))) σ H z := fun H1 e Q q =>
  ha H1 e _ fun a H2 _ e2 h2 => hb H2 (e.trans e2) _ fun H3 e3 => hs a H3 ((e.trans e2).trans e3) (e3 _ _ h2) H3 (Ex.refl H3) Q (fun H4 e4 => q H4 ((e2.trans e3).trans e4)) E
theorem ev_callLL {sp : Sp} {E : XK} {xs ys : List V} (ha : EvL ta σ H xs) (hb : EvL tb σ H ys) (hs : ∀ a b H1, Ex H H1 → H1 a = some (.lst xs) → H1 b = some (.lst ys) → SpV sp [.ref a, .ref b] H1 z) : Ev (tCall sp [] E (tCons ta (tCons tb tNil))) σ H z := fun H1 e Q q =>
  ha H1 e _ fun a H2 _ e2 h2 => hb H2 (e.trans e2) _ fun b H3 _ e3 h3 => hs a b H3 ((e.trans e2).trans e3) (e3 _ _ h2) h3 H3 (Ex.refl H3) Q (fun H4 e4 => q H4 ((e2.trans e3).trans e4)) E
theorem el_callL {sp : Sp} {E : XK} {xs zs : List V} (ha : EvL ta σ H xs) (hb : Ev tb σ H y) (hs : ∀ a H1, Ex H H1 → H1 a = some (.lst xs) → SpL sp [.ref a, y] H1 zs) : EvL (tCall sp [] E (tCons ta (tCons tb tNil))) σ H zs := fun H1 e Q q =>
  ha H1 e _ fun a H2 _ e2 h2 => hb H2 (e.trans e2) _ fun H3 e3 => hs a H3 ((e.trans e2).trans e3) (e3 _ _ h2) H3 (Ex.refl H3) Q (fun p H4 hp e4 h4 => q p H4 (fresh_back (e2.trans e3) hp) ((e2.trans e3).trans e4) h4) E
/-- three arguments, the first two new lists -/
theorem el_call3 {sp : Sp} {E : XK} {tc : TE} {xs ys zs : List V} (ha : EvL ta σ H xs) (hb : EvL tb σ H ys) (hc : Ev tc σ H z) (hs : ∀ a b H1, Ex H H1 → H1 a = some (.lst xs) → H1 b = some (.lst ys) → SpL sp [.ref a, .ref b, z] H1 zs) :
    EvL (tCall sp [] E (tCons ta (tCons tb (tCons tc tNil)))) σ H zs := fun H1 e Q q =>
  ha H1 e _ fun a H2 _ e2 h2 => hb H2 (e.trans e2) _ fun b H3 _ e3 h3 => hc H3 ((e.trans e2).trans e3) _ fun H4 e4 => hs a b H4 (((e.trans e2).trans e3).trans e4) (e4 _ _ (e3 _ _ h2)) (e4 _ _ h3) H4 (Ex.refl H4) Q
    (fun p H5 hp e5 h5 => q p H5 (fresh_back ((e2.trans e3).trans e4) hp) (((e2.trans e3).trans e4).trans e5) h5) E
/-- xs[::-1] of a new list -/
theorem el_rev {xs : List V} (ha : EvL ta σ H xs) : EvL (tRevL K ta) σ H xs.reverse := fun H1 e Q q => ha H1 e _ fun a H2 _ e2 h2 => ⟨a, xs, rfl, sq_of h2, fun p hp => q p _ (fresh_back e2 hp) (e2.trans (Ex.new hp)) upd_same⟩
/-- x = [xs, ys], both new -/
theorem q_lst2 {i : Nat} {xs ys : List V} (ha : EvL ta σ H xs) (hb : EvL tb σ H ys) (q : ∀ p a b H2, H p = none → H a = none → H b = none → Ex H H2 → H2 p = some (.lst [.ref a, .ref b]) → H2 a = some (.lst xs) → H2 b = some (.lst ys) → tz D (σ.set i (some (.ref p))) H2) :
    tSeq (tAsg (tLst (tCons ta (tCons tb tNil))) (gName i)) tz D σ H := ha H (Ex.refl H) _ fun a H2 na e2 h2 => hb H2 e2 _ fun b H3 nb e3 h3 => ⟨by show 2 ≤ sizeLine; decide, fun p hp =>
  q p a b _ (fresh_back (e2.trans e3) hp) na (fresh_back e2 nb) ((e2.trans e3).trans (Ex.new hp)) upd_same (Ex.new hp _ _ (e3 _ _ h2)) (Ex.new hp _ _ h3)⟩
theorem et_yes : EvT tYes σ H true := fun H1 _ _ q => q H1 (Ex.refl H1)
theorem int_at {xs : List Int} {i : Nat} {x : V} (h : (xs.map V.int)[i]? = some x) : ∃ z, xs[i]? = some z ∧ x = .int z := by
  rw [List.getElem?_map] at h
  cases e : xs[i]? with
  | none =>
    rw [e] at h
    cases h
  | some z =>
    rw [e] at h
    exact ⟨z, rfl, (Option.some.inj h).symm⟩
theorem range_getD (xs : List Int) : (List.range xs.length).map (fun i => xs.getD i 0) = xs := by
  refine List.ext_getElem? fun i => ?_
  rw [List.getElem?_map]
  by_cases h : i < xs.length
  · rw [List.getElem?_range h, List.getElem?_eq_getElem h]
    show some (xs.getD i 0) = _
    rw [List.getD_eq_getElem?_getD, List.getElem?_eq_getElem h]
    rfl
  · rw [List.getElem?_eq_none (by rw [List.length_range]; omega), List.getElem?_eq_none (by omega)]
    rfl
/-- a comprehension over range(a, b) -/
theorem el_lcR2 {ta : TA} {j : Nat} {vs : List Nat} {lo n : Int} (f : Nat → Bool) (v : Nat → V) (h : EvA ta σ H [.int lo, .int n]) (hn : 0 ≤ lo ∧ lo ≤ 1000 ∧ -1000 ≤ n ∧ n ≤ 30000) (hw : ∀ x, wipe ((wipe σ vs).set j (some x)) vs = wipe σ vs)
    (ht : ∀ (i : Nat) H1, Ex H H1 → lo + (i : Int) < n → EvT t ((wipe σ vs).set j (some (.int (lo + (i : Int))))) H1 (f i)) (he : ∀ (i : Nat) H1, Ex H H1 → lo + (i : Int) < n → f i = true → Ev te ((wipe σ vs).set j (some (.int (lo + (i : Int))))) H1 (v i)) :
    EvL (tLc (iRng2 ta) (gName j) t te vs) σ H (given (n - lo).toNat f v) := fun H0 e Q q => h H0 e _ fun H1 e1 => ⟨lo, n, rfl, ⟨by omega, by omega, by omega, by omega⟩, fun Dl hD =>
  lc_range (lo := lo) (n := (n - lo).toNat) (Cw H1 f v Dl) ⟨hD, Ex.new hD, upd_same⟩ (fun i H' hi p => ⟨hw _, cw_turn p (by omega) (ht i H1 (e.trans e1) (by omega)) (fun hf => he i H1 (e.trans e1) (by omega) hf)⟩)
    (fun H' p => q Dl H' (fresh_back e1 p.1) (e1.trans p.2.1) p.2.2)⟩
theorem given_mem {n : Nat} {f : Nat → Bool} {v : Nat → V} {j : Nat} {x : V} (h : (given n f v)[j]? = some x) : ∃ i, i < n ∧ f i = true ∧ x = v i := by
  have hx := List.mem_of_getElem? h
  unfold given at hx
  obtain ⟨i, hi, e⟩ := List.mem_map.mp hx
  obtain ⟨h1, h2⟩ := List.mem_filter.mp hi
  exact ⟨i, List.mem_range.mp h1, h2, e.symm⟩
/-- a comprehension without a test -/
theorem given_all (xs : List Int) (g : Int → Int) : given xs.length (fun _ => true) (fun i => V.int (g (xs.getD i 0))) = (xs.map g).map V.int := by
  unfold given
  rw [List.filter_eq_self.mpr fun _ _ => rfl]
  have e := congrArg (List.map fun x => V.int (g x)) (range_getD xs)
  rw [List.map_map] at e
  rw [List.map_map]
  exact e
/-- .. with one -/
theorem given_if (xs : List Int) (p : Int → Bool) (g : Int → Int) : given xs.length (fun i => p (xs.getD i 0)) (fun i => V.int (g (xs.getD i 0))) = ((xs.filter p).map g).map V.int := by
  unfold given
  have e : xs.filter p = ((List.range xs.length).filter fun i => p (xs.getD i 0)).map fun i => xs.getD i 0 := by
    have h := congrArg (List.filter p) (range_getD xs)
    rw [List.filter_map] at h
    exact h.symm
  rw [e, List.map_map, List.map_map]
  rfl
theorem given_pos (xs : List Int) (p : Int → Bool) : decide ((0 : Int) < ((given xs.length (fun i => p (xs.getD i 0)) (fun i => V.int (xs.getD i 0))).length : Int)) = xs.any p := by
  have e0 : given xs.length (fun i => p (xs.getD i 0)) (fun i => V.int (xs.getD i 0)) = ((xs.filter p).map id).map V.int := given_if xs p id
  rw [e0, List.length_map, List.length_map]
  by_cases h : xs.any p = true
  · rw [h]
    obtain ⟨x, hx, px⟩ := List.any_eq_true.mp h
    exact decide_eq_true (Int.ofNat_lt.mpr (List.length_pos_of_mem (List.mem_filter.mpr ⟨hx, px⟩)))
  · rw [Bool.not_eq_true] at h
    rw [h]
    refine decide_eq_false fun z => ?_
    have z2 : 0 < (xs.filter p).length := Int.ofNat_lt.mp z
    obtain ⟨x, hx⟩ := List.exists_mem_of_length_pos z2
    obtain ⟨h1, h2⟩ := List.mem_filter.mp hx
    have : xs.any p = true := List.any_eq_true.mpr ⟨x, h1, h2⟩
    rw [h] at this
    cases this
/-! lists of ints compared -/
theorem dp_ints {a : Addr} {ns : List Int} (h : SqL K H a (ns.map V.int)) : Dp K H (.ref a) (.list (ns.map PyData.int)) := by
  refine Dp.lst h ?_
  clear h
  induction ns with
  | nil => exact DpAll.nil
  | cons n ns ih => exact DpAll.cons (Dp.int n) ih
theorem shaped_ints (ns : List Int) : SeqAt.shaped (.list (ns.map PyData.int)) = true := by
  have h1 : ∀ ns : List Int, PyData.canLayAll0 (ns.map PyData.int) = true := fun ns => by
    induction ns with
    | nil => rfl
    | cons n ns ih => simp only [List.map_cons, PyData.canLayAll0, ih, Bool.and_true]; rfl
  have h2 : ∀ ns : List Int, PyData.depthAll (ns.map PyData.int) ≤ 1 := fun ns => by
    induction ns with
    | nil => exact Nat.zero_le _
    | cons n ns ih =>
      simp only [List.map_cons, PyData.depthAll, PyData.depth]
      omega
  have a := h1 ns
  have b := h2 ns
  have c : PyData.depth (.list (ns.map PyData.int)) ≤ 64 := by
    rw [PyData.depth]
    omega
  unfold SeqAt.shaped
  rw [PyData.canLay0, a, decide_eq_true c]
  rfl
theorem eqv_ints (ns ms : List Int) : PyData.eqv (.list (ns.map PyData.int)) (.list (ms.map PyData.int)) = decide (ns = ms) := by
  rw [PyData.eqv]
  exact PySem.W.ked_eqvAll ns ms
/-- a list of two lists, and a new one of the same two -/
theorem shaped_two (ns ms : List Int) : SeqAt.shaped (.list [.list (ns.map PyData.int), .list (ms.map PyData.int)]) = true := by
  have h := shaped_ints ns
  have g := shaped_ints ms
  unfold SeqAt.shaped at h g ⊢
  rw [Bool.and_eq_true, decide_eq_true_eq] at h g
  have d : ∀ ns : List Int, PyData.depth (.list (ns.map PyData.int)) ≤ 2 := fun ns => by
    have k : ∀ ns : List Int, PyData.depthAll (ns.map PyData.int) ≤ 1 := fun ns => by
      induction ns with
      | nil => exact Nat.zero_le _
      | cons n ns ih =>
        simp only [List.map_cons, PyData.depthAll, PyData.depth]
        omega
    have := k ns
    rw [PyData.depth]
    omega
  have d1 := d ns
  have d2 := d ms
  have c : PyData.depth (.list [.list (ns.map PyData.int), .list (ms.map PyData.int)]) ≤ 64 := by
    rw [PyData.depth, PyData.depthAll, PyData.depthAll, PyData.depthAll]
    omega
  rw [decide_eq_true c, PyData.canLay0, PyData.canLayAll0, PyData.canLayAll0, PyData.canLayAll0, h.1, g.1]
  rfl
theorem et_neTwo {p a b : Addr} {ns ms : List Int} {tc : TE} {c d : Addr} (hp : H p = some (.lst [.ref a, .ref b])) (ha : SqL K H a (ns.map V.int)) (hb : SqL K H b (ms.map V.int)) (e1 : Ev ta σ H (.ref p)) (e2 : Ev tb σ H (.ref c)) (e3 : Ev tc σ H (.ref d))
    (hc : SqL K H c (ns.map V.int)) (hd : SqL K H d (ms.map V.int)) : EvT (tTest (tOp (rNeD K) ta (tLst (tCons tb (tCons tc tNil))))) σ H false := fun H1 e Q q =>
  e1 H1 e _ fun H2 h2 => e2 H2 (e.trans h2) _ fun H3 h3 => e3 H3 ((e.trans h2).trans h3) _ fun H4 h4 => ⟨by show 2 ≤ sizeLine; decide, fun r hr => by
    have E4 := ((e.trans h2).trans h3).trans h4
    have E5 : Ex H4 (upd H4 r (.lst [V.ref c, V.ref d])) := Ex.new hr
    refine ⟨.list [.list (ns.map PyData.int), .list (ms.map PyData.int)], .list [.list (ns.map PyData.int), .list (ms.map PyData.int)], Dp.lst (sq_of (E5 _ _ (E4 _ _ hp))) (.cons (dp_ints (ex_l (E4.trans E5) ha)) (.cons (dp_ints (ex_l (E4.trans E5) hb)) .nil)),
      Dp.lst (sq_of upd_same) (.cons (dp_ints (ex_l (E4.trans E5) hc)) (.cons (dp_ints (ex_l (E4.trans E5) hd)) .nil)), shaped_two ns ms, shaped_two ns ms, false, ?_, q _ (((h2.trans h3).trans h4).trans E5)⟩
    have g : PyData.eqv (.list [.list (ns.map PyData.int), .list (ms.map PyData.int)]) (.list [.list (ns.map PyData.int), .list (ms.map PyData.int)]) = true := by
      rw [PyData.eqv, PyData.eqvAll, PyData.eqvAll, PyData.eqvAll, eqv_ints, eqv_ints, decide_eq_true rfl, decide_eq_true rfl]
      rfl
    rw [g]
    rfl⟩
theorem rv_eqL {a b : Addr} {ns ms : List Int} (ha : SqL K H a (ns.map V.int)) (hb : SqL K H b (ms.map V.int)) : RV (rEqD K) (.ref a) (.ref b) H (.bl (decide (ns = ms))) := fun H1 e Q q =>
  ⟨_, _, dp_ints (ex_l e ha), dp_ints (ex_l e hb), shaped_ints ns, shaped_ints ms, by
    rw [eqv_ints]
    exact q H1 (Ex.refl H1)⟩
theorem rv_neL {a b : Addr} {ns ms : List Int} (ha : SqL K H a (ns.map V.int)) (hb : SqL K H b (ms.map V.int)) : RV (rNeD K) (.ref a) (.ref b) H (.bl (!decide (ns = ms))) := fun H1 e Q q =>
  ⟨_, _, dp_ints (ex_l e ha), dp_ints (ex_l e hb), shaped_ints ns, shaped_ints ms, by
    rw [eqv_ints]
    exact q H1 (Ex.refl H1)⟩
end
end Sr
namespace Sr
open PySem PySem.Spec PyProof.Rows L2 Evl
/-! ### the promises: arguments, what they must be, what comes out -/
section
variable (K : PySem.W.Frag)
/-- the k-th cell of the script, or nought -/
def cell (cs : List Int) (k : Int) : Int := cs.getD k.toNat 0
def spCell : Sp := fun vs H Q _ => ∃ (a : Addr) (cs : List Int) (k : Int), vs = [.ref a, .int k] ∧ SqL K H a (cs.map V.int) ∧ 0 ≤ k ∧ RetV (.int (cell cs k)) H Q
/-- is it a whole number -/
def isInt : V → Bool
  | .int _ => true
  | _ => false
def spWhole : Sp := fun vs H Q _ => ∃ x : V, vs = [x] ∧ (∃ i, x = .int i) ∧ RetV (.bl true) H Q
def numberBy (c way : Int) : Int :=
  if way = 0 then c % 9 - 4 else if way = 1 then c % 2 else if way = 2 then c % 2000000000001 - 1000000000000 else
    if c % 3 = 0 then 1000000000000 else if c % 3 = 1 then -1000000000000 else 1000000000000 - c / 3 % 99
theorem numberBy_le (c way : Int) : -1000000000000 ≤ numberBy c way ∧ numberBy c way ≤ 1000000000000 := by
  unfold numberBy
  split
  · omega
  · split
    · omega
    · split
      · omega
      · split
        · omega
        · split <;> omega
def spNumBy : Sp := fun vs H Q _ => ∃ (c way : Int), vs = [.int c, .int way] ∧ RetV (.int (numberBy c way)) H Q
def kindAt (way : Int) (k : Nat) : Int := if way > 3 then (way + (k : Int) / 2) % 4 else way
/-- the drawn numbers -/
def drawn (cs : List Int) (first : Int) (count : Nat) (way : Int) : List Int := (List.range count).map fun k : Nat => numberBy (cell cs (first + (k : Int))) (kindAt way k)
theorem drawn_len (cs : List Int) (first : Int) (count : Nat) (way : Int) : (drawn cs first count way).length = count := by
  unfold drawn
  rw [List.length_map, List.length_range]
theorem drawn_le {cs : List Int} {first : Int} {count : Nat} {way x : Int} (h : x ∈ drawn cs first count way) : -1000000000000 ≤ x ∧ x ≤ 1000000000000 := by
  unfold drawn at h
  obtain ⟨k, _, e⟩ := List.mem_map.mp h
  rw [← e]
  exact numberBy_le _ _
def spNums : Sp := fun vs H Q _ => ∃ (a : Addr) (cs : List Int) (first : Int) (count : Nat) (way : Int), vs = [.ref a, .int first, .int (count : Int), .int way] ∧ SqL K H a (cs.map V.int) ∧ 0 ≤ first ∧ count ≤ 1000 ∧
  RetL ((drawn cs first count way).map V.int) H Q
/-- the set of a list: its rests, rising -/
def hasRest (n : Int) (xs : List Int) (r : Int) : Bool := xs.any fun x => decide ((x - r) % n = 0)
def rset (n : Nat) (xs : List Int) : List Int := ((List.range n).map fun i : Nat => (i : Int)).filter (hasRest n xs)
def goodN (n : Int) : Prop := 1 ≤ n ∧ n ≤ 24
/-- see_round: nothing, or BadRound (the class at C) -/
def spSee (C : Addr) : Sp := fun vs H Q E => ∃ n : Int, vs = [.int n] ∧ (goodN n → RetV .non H Q) ∧ (¬ goodN n → ∀ H2, Ex H H2 → E (.ref C) none H2)
/-- a list and a round: refused, or a new list -/
def spRests (C : Addr) : Sp := fun vs H Q E => ∃ (a : Addr) (xs : List Int) (n : Int), vs = [.ref a, .int n] ∧ SqL K H a (xs.map V.int) ∧ xs.length ≤ 2000 ∧ (goodN n → RetL ((rset n.toNat xs).map V.int) H Q) ∧ (¬ goodN n → ∀ H2, Ex H H2 → E (.ref C) none H2)
def spLawSet : Sp := fun vs H Q _ => ∃ (a : Addr) (xs : List Int) (n : Int), vs = [.ref a, .int n] ∧ SqL K H a (xs.map V.int) ∧ xs.length ≤ 2000 ∧ goodN n ∧ RetL ((rset n.toNat xs).map V.int) H Q
/-- a list of whole numbers, and the one that is due -/
def spIsSet : Sp := fun vs H Q _ => ∃ (a b : Addr) (xs ys : List Int), vs = [.ref a, .ref b] ∧ H a = some (.lst (xs.map V.int)) ∧ SqL K H b (ys.map V.int) ∧ RetV (.bl (decide (xs = ys))) H Q
/-- law's -/
def spLaw : Sp := fun vs H Q _ => ∃ (a : Addr) (ns : List Int), vs = [.ref a] ∧ SqL K H a (ns.map V.int) ∧ ns.length ≤ 63 ∧ ∀ H', Q (.bl true) H'
end
/-! the promises as values -/
section
variable {K : PySem.W.Frag} {H : Hp}
theorem spv_cell {a : Addr} {cs : List Int} {k : Int} (h : SqL K H a (cs.map V.int)) (hk : 0 ≤ k) : SpV (spCell K) [.ref a, .int k] H (.int (cell cs k)) := fun H1 e Q q E => ⟨a, cs, k, rfl, ex_l e h, hk, fun H2 e2 => q H2 e2⟩
theorem spv_whole {i : Int} : SpV spWhole [.int i] H (.bl true) := fun H1 e Q q E => ⟨_, rfl, ⟨i, rfl⟩, fun H2 e2 => q H2 e2⟩
theorem spv_numBy {c way : Int} : SpV spNumBy [.int c, .int way] H (.int (numberBy c way)) := fun H1 e Q q E => ⟨c, way, rfl, fun H2 e2 => q H2 e2⟩
theorem spl_nums {a : Addr} {cs : List Int} {first way : Int} {count : Nat} (h : SqL K H a (cs.map V.int)) (hf : 0 ≤ first) (hc : count ≤ 1000) : SpL (spNums K) [.ref a, .int first, .int (count : Int), .int way] H ((drawn cs first count way).map V.int) := fun H1 e Q q E =>
  ⟨a, cs, first, count, way, rfl, ex_l e h, hf, hc, fun p H2 hp e2 h2 => q p H2 hp e2 h2⟩
theorem spl_rests {C a : Addr} {xs : List Int} {n : Int} (h : SqL K H a (xs.map V.int)) (hl : xs.length ≤ 2000) (hn : goodN n) : SpL (spRests K C) [.ref a, .int n] H ((rset n.toNat xs).map V.int) := fun H1 e Q q E =>
  ⟨a, xs, n, rfl, ex_l e h, hl, fun _ p H2 hp e2 h2 => q p H2 hp e2 h2, fun z => absurd hn z⟩
theorem spl_lawSet {a : Addr} {xs : List Int} {n : Int} (h : SqL K H a (xs.map V.int)) (hl : xs.length ≤ 2000) (hn : goodN n) : SpL (spLawSet K) [.ref a, .int n] H ((rset n.toNat xs).map V.int) := fun H1 e Q q E =>
  ⟨a, xs, n, rfl, ex_l e h, hl, hn, fun p H2 hp e2 h2 => q p H2 hp e2 h2⟩
theorem spv_isSet {a b : Addr} {xs ys : List Int} (h : H a = some (.lst (xs.map V.int))) (h2 : SqL K H b (ys.map V.int)) : SpV (spIsSet K) [.ref a, .ref b] H (.bl (decide (xs = ys))) := fun H1 e Q q E =>
  ⟨a, b, xs, ys, rfl, e _ _ h, ex_l e h2, fun H2 e2 => q H2 e2⟩
end
/-- see_round(n), and what follows it -/
theorem q_see {K : PySem.W.Frag} {H : Hp} {σ : L2.St} {te : TE} {D : Ends} {tz : TS} {C : Addr} {E : XK} {n : Int} (h : Ev te σ H (.int n)) (k : goodN n → ∀ H1, Ex H H1 → tz D σ H1) (kE : ¬ goodN n → ∀ H1, Ex H H1 → E (.ref C) none H1) :
    tSeq (tDrop (tCall (spSee C) [] E (tCons te tNil))) tz D σ H := h H (Ex.refl H) _ fun H1 e1 => ⟨n, rfl, fun g H2 e2 => k g H2 (e1.trans e2), fun g H2 e2 => kE g H2 (e1.trans e2)⟩
/-! the sets' mathematics -/
theorem mem_rset {n : Nat} {xs : List Int} {k : Int} : k ∈ rset n xs ↔ 0 ≤ k ∧ k < n ∧ ∃ x ∈ xs, (x - k) % (n : Int) = 0 := by
  unfold rset hasRest
  rw [List.mem_filter, List.mem_map]
  simp only [List.mem_range, List.any_eq_true, decide_eq_true_eq]
  constructor
  · rintro ⟨⟨i, hi, e⟩, x⟩
    exact ⟨by omega, by omega, x⟩
  · rintro ⟨h0, h1, x⟩
    exact ⟨⟨k.toNat, by omega, by omega⟩, x⟩
theorem rset_rises (n : Nat) (xs : List Int) : (rset n xs).Pairwise (· < ·) := by
  unfold rset
  refine List.Pairwise.filter _ ?_
  rw [List.pairwise_map]
  refine List.Pairwise.imp ?_ (List.pairwise_lt_range (n := n))
  intro a b h
  exact Int.ofNat_lt.mpr h
theorem rset_len (n : Nat) (xs : List Int) : (rset n xs).length ≤ n := by
  unfold rset
  refine Nat.le_trans (List.length_filter_le _ _) ?_
  rw [List.length_map, List.length_range]
  exact Nat.le_refl _
end Sr
namespace Sr
open PySem PySem.Spec PyProof.Rows L2 Evl
/-- the script's cell, as the laws ask it: _law_cell_at(script, k), the script in slot 0 -/
theorem ev_cell {K : PySem.W.Frag} {σ : L2.St} {H H' : Hp} {a : Addr} {cs : List Int} {k : Int} {ta tb : TE} {E : XK} (hS : SqL K H a (cs.map V.int)) (e : Ex H H') (ha : Ev ta σ H' (.ref a)) (hb : Ev tb σ H' (.int k)) (hk : 0 ≤ k) :
    Ev (tCall (spCell K) [] E (tCons ta (tCons tb tNil))) σ H' (.int (cell cs k)) := ev_call (ea_cons ha (ea_cons hb ea_nil)) (spv_cell (ex_l e hS) hk)
/-- how many numbers a law draws: as the script's cell says, or as the script is long -/
theorem countOf (d L w k off most m : Int) (hd : 0 ≤ d ∧ d ≤ m) (hm : 0 ≤ most ∧ most ≤ m) (hL : L ≤ 63) (ho : 0 ≤ off) : ∃ c : Nat, (c : Int) ≤ m ∧ (c : Int) = if w = k then (if most < (if (L - off) > 0 then L - off else 0) then most else (if (L - off) > 0 then L - off else 0)) else d := by
  have g : 0 ≤ (if w = k then (if most < (if (L - off) > 0 then L - off else 0) then most else (if (L - off) > 0 then L - off else 0)) else d) ∧ (if w = k then (if most < (if (L - off) > 0 then L - off else 0) then most else (if (L - off) > 0 then L - off else 0)) else d) ≤ m := by
    split
    · split
      · omega
      · split at * <;> omega
    · omega
  exact ⟨(if w = k then (if most < (if (L - off) > 0 then L - off else 0) then most else (if (L - off) > 0 then L - off else 0)) else d).toNat, by omega, by omega⟩
theorem goodN_of (c : Int) : goodN (1 + c % 24) := by
  unfold goodN
  omega
end Sr
namespace Sr
open PySem PySem.Spec PyProof.Rows L2 Evl
/-! ### sums, shifts, stays -/
theorem rset_congr {n : Nat} {xs ys : List Int} (h : ∀ r, hasRest n xs r = hasRest n ys r) : rset n xs = rset n ys := by
  unfold rset
  rw [show hasRest (n : Int) xs = hasRest n ys from funext h]
theorem hasRest_true {n : Int} {xs : List Int} {r : Int} : hasRest n xs r = true ↔ ∃ x ∈ xs, (x - r) % n = 0 := by
  unfold hasRest
  rw [List.any_eq_true]
  simp only [decide_eq_true_eq]
theorem rset_same {n : Nat} {xs ys : List Int} (h1 : ∀ x ∈ xs, ∃ y ∈ ys, (x - y) % (n : Int) = 0) (h2 : ∀ y ∈ ys, ∃ x ∈ xs, (y - x) % (n : Int) = 0) : rset n xs = rset n ys := by
  refine rset_congr fun r => ?_
  rw [Bool.eq_iff_iff, hasRest_true, hasRest_true]
  have key : ∀ {a b r : Int}, (a - b) % (n : Int) = 0 → (a - r) % (n : Int) = 0 → (b - r) % (n : Int) = 0 := fun {a b r} h g => by
    have d1 := Int.dvd_of_emod_eq_zero h
    have d2 := Int.dvd_of_emod_eq_zero g
    have e : b - r = (a - r) - (a - b) := by omega
    rw [e]
    exact Int.emod_eq_zero_of_dvd (Int.dvd_sub d2 d1)
  constructor
  · rintro ⟨x, hx, e⟩
    obtain ⟨y, hy, g⟩ := h1 x hx
    exact ⟨y, hy, key g e⟩
  · rintro ⟨y, hy, e⟩
    obtain ⟨x, hx, g⟩ := h2 y hy
    exact ⟨x, hx, key g e⟩
/-- all sums of a number of the one and a number of the other -/
def pairs (A B : List Int) : List Int := A.flatMap fun a => B.map fun b => a + b
theorem mem_pairs {A B : List Int} {x : Int} : x ∈ pairs A B ↔ ∃ a ∈ A, ∃ b ∈ B, x = a + b := by
  unfold pairs
  rw [List.mem_flatMap]
  constructor
  · rintro ⟨a, ha, h⟩
    obtain ⟨b, hb, e⟩ := List.mem_map.mp h
    exact ⟨a, ha, b, hb, e.symm⟩
  · rintro ⟨a, ha, b, hb, e⟩
    exact ⟨a, ha, List.mem_map.mpr ⟨b, hb, e.symm⟩⟩
theorem pairs_len (A B : List Int) : (pairs A B).length = A.length * B.length := by
  unfold pairs
  induction A with
  | nil => simp
  | cons a A ih => rw [List.flatMap_cons, List.length_append, ih, List.length_map, List.length_cons, Nat.add_mul, Nat.one_mul, Nat.add_comm]
def ssum (n : Nat) (xs ys : List Int) : List Int := rset n (pairs (rset n xs) (rset n ys))
theorem ssum_comm (n : Nat) (xs ys : List Int) : ssum n xs ys = ssum n ys xs := by
  unfold ssum
  have z : ∀ x : Int, (x - x) % (n : Int) = 0 := fun x => by rw [Int.sub_self]; exact Int.zero_emod _
  refine rset_same (fun x hx => ?_) (fun x hx => ?_)
  all_goals
    obtain ⟨a, ha, b, hb, e⟩ := mem_pairs.mp hx
    exact ⟨x, mem_pairs.mpr ⟨b, hb, a, ha, by rw [e, Int.add_comm]⟩, z x⟩
theorem pairs_le {n : Nat} (hn : n ≤ 24) (xs ys : List Int) : (pairs (rset n xs) (rset n ys)).length ≤ 576 := by
  rw [pairs_len]
  have h1 := rset_len n xs
  have h2 := rset_len n ys
  exact Nat.mul_le_mul (Nat.le_trans h1 hn) (Nat.le_trans h2 hn)
def spSums (K : PySem.W.Frag) (C : Addr) : Sp := fun vs H Q E => ∃ (a b : Addr) (xs ys : List Int) (n : Int), vs = [.ref a, .ref b, .int n] ∧ SqL K H a (xs.map V.int) ∧ SqL K H b (ys.map V.int) ∧ xs.length ≤ 2000 ∧ ys.length ≤ 2000 ∧
  (goodN n → RetL ((ssum n.toNat xs ys).map V.int) H Q) ∧ (¬ goodN n → ∀ H2, Ex H H2 → E (.ref C) none H2)
def spLawSums (K : PySem.W.Frag) : Sp := fun vs H Q _ => ∃ (a b : Addr) (xs ys : List Int) (n : Int), vs = [.ref a, .ref b, .int n] ∧ SqL K H a (xs.map V.int) ∧ SqL K H b (ys.map V.int) ∧ xs.length ≤ 2000 ∧ ys.length ≤ 2000 ∧ goodN n ∧ RetL ((ssum n.toNat xs ys).map V.int) H Q
/-- a list shifted -/
def sshift (n : Nat) (xs : List Int) (by' : Int) : List Int := rset n (xs.map fun x => x + by')
def spShifted (K : PySem.W.Frag) (C : Addr) : Sp := fun vs H Q E => ∃ (a : Addr) (xs : List Int) (b n : Int), vs = [.ref a, .int b, .int n] ∧ SqL K H a (xs.map V.int) ∧ xs.length ≤ 2000 ∧
  (goodN n → RetL ((sshift n.toNat xs b).map V.int) H Q) ∧ (¬ goodN n → ∀ H2, Ex H H2 → E (.ref C) none H2)
theorem shift_mod (n : Nat) (hn : 0 < n) (xs : List Int) (b : Int) : rset n (xs.map fun x => x % (n : Int) + b) = sshift n xs b := by
  unfold sshift
  have k : ∀ x : Int, (x % (n : Int) + b - (x + b)) % (n : Int) = 0 := fun x => by
    have e : x % (n : Int) + b - (x + b) = -(x / (n : Int) * n) := by
      have := Int.mul_ediv_add_emod x n
      rw [Int.mul_comm] at this
      omega
    rw [e]
    exact Int.emod_eq_zero_of_dvd (Int.dvd_neg.mpr (Int.dvd_mul_left _ _))
  have k2 : ∀ x : Int, (x + b - (x % (n : Int) + b)) % (n : Int) = 0 := fun x => by
    have e : x + b - (x % (n : Int) + b) = -(x % (n : Int) + b - (x + b)) := by omega
    rw [e]
    exact Int.emod_eq_zero_of_dvd (Int.dvd_neg.mpr (Int.dvd_of_emod_eq_zero (k x)))
  refine rset_same (fun y hy => ?_) (fun y hy => ?_)
  · obtain ⟨x, hx, rfl⟩ := List.mem_map.mp hy
    exact ⟨_, List.mem_map.mpr ⟨x, hx, rfl⟩, k x⟩
  · obtain ⟨x, hx, rfl⟩ := List.mem_map.mp hy
    exact ⟨_, List.mem_map.mpr ⟨x, hx, rfl⟩, k2 x⟩
/-- what a number's bits tell -/
def halfN (c : Int) : Nat → Int
  | 0 => c
  | i + 1 => halfN c i / 2
def bits (c : Int) (n : Nat) : List Int := ((List.range n).filter fun i => decide (halfN c i % 2 = 1)).map fun i : Nat => (i : Int)
theorem bits_len (c : Int) (n : Nat) : (bits c n).length ≤ n := by
  unfold bits
  rw [List.length_map]
  refine Nat.le_trans (List.length_filter_le _ _) ?_
  rw [List.length_range]
  exact Nat.le_refl _
theorem bits_succ (c : Int) (n : Nat) : bits c (n + 1) = bits c n ++ (if halfN c n % 2 = 1 then [(n : Int)] else []) := by
  unfold bits
  rw [List.range_succ, List.filter_append, List.map_append, List.filter_cons]
  by_cases h : halfN c n % 2 = 1
  · rw [if_pos (decide_eq_true h), if_pos h]
    rfl
  · rw [if_neg (by rw [decide_eq_false h]; decide), if_neg h]
    rfl
def spBits : Sp := fun vs H Q _ => ∃ (c n : Int), vs = [.int c, .int n] ∧ goodN n ∧ RetL ((bits c n.toNat).map V.int) H Q
/-- the shifts that leave a set as it is -/
def stayL (n : Nat) (xs : List Int) : List Int := ((List.range n).map fun i : Nat => (i : Int)).filter fun b => decide (sshift n (rset n xs) b = rset n xs)
def spStays (K : PySem.W.Frag) (C : Addr) : Sp := fun vs H Q E => ∃ (a : Addr) (xs : List Int) (n : Int), vs = [.ref a, .int n] ∧ SqL K H a (xs.map V.int) ∧ xs.length ≤ 2000 ∧
  (goodN n → RetL ((stayL n.toNat xs).map V.int) H Q) ∧ (¬ goodN n → ∀ H2, Ex H H2 → E (.ref C) none H2)
/-- the least divisor of the round that does -/
def IsStep (n : Int) (xs : List Int) (d : Int) : Prop := 1 ≤ d ∧ d ≤ n ∧ n % d = 0 ∧ sshift n.toNat (rset n.toNat xs) d = rset n.toNat xs ∧ ∀ b : Int, 1 ≤ b → b < d → n % b = 0 → sshift n.toNat (rset n.toNat xs) b ≠ rset n.toNat xs
def spStep (K : PySem.W.Frag) (C : Addr) : Sp := fun vs H Q E => ∃ (a : Addr) (xs : List Int) (n : Int), vs = [.ref a, .int n] ∧ SqL K H a (xs.map V.int) ∧ xs.length ≤ 2000 ∧
  (goodN n → ∀ d, IsStep n xs d → RetV (.int d) H Q) ∧ (¬ goodN n → ∀ H2, Ex H H2 → E (.ref C) none H2)
section
variable {K : PySem.W.Frag} {H : Hp}
theorem spl_sums {C a b : Addr} {xs ys : List Int} {n : Int} (h : SqL K H a (xs.map V.int)) (h2 : SqL K H b (ys.map V.int)) (hl : xs.length ≤ 2000) (hl2 : ys.length ≤ 2000) (hn : goodN n) : SpL (spSums K C) [.ref a, .ref b, .int n] H ((ssum n.toNat xs ys).map V.int) := fun H1 e Q q E =>
  ⟨a, b, xs, ys, n, rfl, ex_l e h, ex_l e h2, hl, hl2, fun _ p H2 hp e2 h2 => q p H2 hp e2 h2, fun z => absurd hn z⟩
theorem spl_lawSums {a b : Addr} {xs ys : List Int} {n : Int} (h : SqL K H a (xs.map V.int)) (h2 : SqL K H b (ys.map V.int)) (hl : xs.length ≤ 2000) (hl2 : ys.length ≤ 2000) (hn : goodN n) : SpL (spLawSums K) [.ref a, .ref b, .int n] H ((ssum n.toNat xs ys).map V.int) := fun H1 e Q q E =>
  ⟨a, b, xs, ys, n, rfl, ex_l e h, ex_l e h2, hl, hl2, hn, fun p H2 hp e2 h2 => q p H2 hp e2 h2⟩
theorem spl_shifted {C a : Addr} {xs : List Int} {b n : Int} (h : SqL K H a (xs.map V.int)) (hl : xs.length ≤ 2000) (hn : goodN n) : SpL (spShifted K C) [.ref a, .int b, .int n] H ((sshift n.toNat xs b).map V.int) := fun H1 e Q q E =>
  ⟨a, xs, b, n, rfl, ex_l e h, hl, fun _ p H2 hp e2 h2 => q p H2 hp e2 h2, fun z => absurd hn z⟩
theorem spl_stays {C a : Addr} {xs : List Int} {n : Int} (h : SqL K H a (xs.map V.int)) (hl : xs.length ≤ 2000) (hn : goodN n) : SpL (spStays K C) [.ref a, .int n] H ((stayL n.toNat xs).map V.int) := fun H1 e Q q E =>
  ⟨a, xs, n, rfl, ex_l e h, hl, fun _ p H2 hp e2 h2 => q p H2 hp e2 h2, fun z => absurd hn z⟩
theorem spl_bits {c n : Int} (hn : goodN n) : SpL spBits [.int c, .int n] H ((bits c n.toNat).map V.int) := fun H1 e Q q E => ⟨c, n, rfl, hn, fun p H2 hp e2 h2 => q p H2 hp e2 h2⟩
end
/-- a round's rests, refused or told, in an assignment that may raise -/
theorem q_rests {K : PySem.W.Frag} {H : Hp} {σ : L2.St} {ta tb : TE} {D : Ends} {tz : TS} {C : Addr} {E : XK} {i : Nat} {a : Addr} {xs : List Int} {n : Int} (h1 : Ev ta σ H (.ref a)) (h2 : Ev tb σ H (.int n)) (h : SqL K H a (xs.map V.int)) (hl : xs.length ≤ 2000)
    (k : goodN n → ∀ p H1, H p = none → Ex H H1 → H1 p = some (.lst ((rset n.toNat xs).map V.int)) → tz D (σ.set i (some (.ref p))) H1) (kE : ¬ goodN n → ∀ H1, Ex H H1 → E (.ref C) none H1) :
    tSeq (tAsg (tCall (spRests K C) [] E (tCons ta (tCons tb tNil))) (gName i)) tz D σ H := q_call (ea_cons h1 (ea_cons h2 ea_nil)) fun H1 e1 =>
  ⟨a, xs, n, rfl, ex_l e1 h, hl, fun g p H2 hp e2 h2 => k g p H2 (fresh_back e1 hp) (e1.trans e2) h2, fun g H2 e2 => kE g H2 (e1.trans e2)⟩
end Sr
namespace Sr
/-! ### subgroups of the whole numbers; the shifts that leave a set as it is -/
structure Subg (P : Int → Prop) : Prop where
  zero : P 0
  add : ∀ {a b}, P a → P b → P (a + b)
  neg : ∀ {a}, P a → P (-a)
theorem Subg.mulN {P : Int → Prop} (S : Subg P) {a : Int} (h : P a) : ∀ k : Nat, P ((k : Int) * a)
  | 0 => by
    have e : ((0 : Nat) : Int) * a = 0 := by simp
    rw [e]
    exact S.zero
  | k + 1 => by
    have ih := S.mulN h k
    have e : ((k + 1 : Nat) : Int) * a = (k : Int) * a + a := by
      rw [Int.natCast_add, Int.add_mul]
      simp
    rw [e]
    exact S.add ih h
theorem Subg.mul {P : Int → Prop} (S : Subg P) {a : Int} (h : P a) (k : Int) : P (k * a) := by
  rcases Int.le_total 0 k with g | g
  · have e : k = ((k.toNat : Nat) : Int) := by omega
    rw [e]
    exact S.mulN h _
  · have e : k * a = -((((-k).toNat : Nat) : Int) * a) := by
      have e2 : (((-k).toNat : Nat) : Int) = -k := by omega
      rw [e2, Int.neg_mul, Int.neg_neg]
    rw [e]
    exact S.neg (S.mulN h _)
theorem Subg.sub {P : Int → Prop} (S : Subg P) {a b : Int} (h : P a) (g : P b) : P (a - b) := by
  rw [Int.sub_eq_add_neg]
  exact S.add h (S.neg g)
/-- the least positive member divides all -/
theorem Subg.gen {P : Int → Prop} (S : Subg P) : ∀ (m : Nat) (n : Int), n.toNat = m → 0 < n → P n → ∃ d : Int, 0 < d ∧ d ≤ n ∧ ∀ b, P b ↔ d ∣ b := by
  intro m
  induction m using Nat.strongRecOn with
  | ind m ih =>
    intro n hm hn hP
    by_cases h : ∃ b, P b ∧ b % n ≠ 0
    · obtain ⟨b, hb, hne⟩ := h
      have h0 := Int.emod_nonneg b (show n ≠ 0 by omega)
      have h1 := Int.emod_lt_of_pos b hn
      have hr : P (b % n) := by
        have e : b % n = b - b / n * n := by
          have := Int.mul_ediv_add_emod b n
          rw [Int.mul_comm] at this
          omega
        rw [e]
        exact S.sub hb (S.mul hP _)
      obtain ⟨d, hd, hle, H⟩ := ih (b % n).toNat (by omega) (b % n) rfl (by omega) hr
      exact ⟨d, hd, by omega, H⟩
    · refine ⟨n, hn, Int.le_refl _, fun b => ⟨fun hb => ?_, fun hb => ?_⟩⟩
      · refine Int.dvd_of_emod_eq_zero ?_
        exact Classical.byContradiction fun z => h ⟨b, hb, z⟩
      · obtain ⟨k, rfl⟩ := hb
        rw [Int.mul_comm]
        exact S.mul hP k
/-- a set of whole numbers that a shift leaves as it is -/
def Per (f : Int → Prop) (t : Int) : Prop := ∀ x, f (x + t) ↔ f x
theorem per_subg (f : Int → Prop) : Subg (Per f) where
  zero := fun x => by rw [Int.add_zero]
  add := fun {a b} ha hb x => by
    rw [← Int.add_assoc]
    exact (hb _).trans (ha _)
  neg := fun {a} ha x => by
    have h := ha (x + -a)
    rw [show x + -a + a = x by omega] at h
    exact h.symm
/-! the lists -/
/-- the set that a list tells by a round -/
def In (n : Int) (xs : List Int) (r : Int) : Prop := ∃ x ∈ xs, (x - r) % n = 0
theorem In_per (n : Int) (xs : List Int) : Per (In n xs) n := fun r => by
  unfold In
  constructor
  · rintro ⟨x, hx, e⟩
    refine ⟨x, hx, ?_⟩
    have e2 : x - r = x - (r + n) + n := by omega
    rw [e2, Int.add_emod_right]
    exact e
  · rintro ⟨x, hx, e⟩
    refine ⟨x, hx, ?_⟩
    have e2 : x - (r + n) = x - r - n := by omega
    rw [e2, Int.sub_emod_right]
    exact e
theorem In_iff {n : Int} {xs : List Int} {r : Int} : hasRest n xs r = true ↔ In n xs r := hasRest_true
theorem In_mod {n : Int} (hn : 0 < n) {xs : List Int} {r : Int} : In n xs (r % n) ↔ In n xs r := by
  have h := (per_subg (In n xs)).mul (In_per n xs) (r / n)
  have e : r % n + r / n * n = r := by
    have := Int.mul_ediv_add_emod r n
    rw [Int.mul_comm] at this
    omega
  have g := h (r % n)
  rw [e] at g
  exact g.symm
theorem mem_rset_In {n : Nat} {xs : List Int} {k : Int} : k ∈ rset n xs ↔ 0 ≤ k ∧ k < n ∧ In n xs k := mem_rset
theorem In_rset {n : Nat} (hn : 0 < n) {xs : List Int} {r : Int} : In n (rset n xs) r ↔ In n xs r := by
  have hn' : (0 : Int) < n := by omega
  constructor
  · rintro ⟨x, hx, e⟩
    obtain ⟨h0, h1, y, hy, e2⟩ := mem_rset_In.mp hx
    refine ⟨y, hy, ?_⟩
    have d := Int.dvd_add (Int.dvd_of_emod_eq_zero e) (Int.dvd_of_emod_eq_zero e2)
    rw [show x - r + (y - x) = y - r by omega] at d
    exact Int.emod_eq_zero_of_dvd d
  · intro h
    refine ⟨r % n, mem_rset_In.mpr ⟨Int.emod_nonneg _ (by omega), Int.emod_lt_of_pos _ hn', (In_mod hn').mpr h⟩, ?_⟩
    have e : r % (n : Int) - r = -(r / n * n) := by
      have := Int.mul_ediv_add_emod r n
      rw [Int.mul_comm] at this
      omega
    rw [e]
    exact Int.emod_eq_zero_of_dvd (Int.dvd_neg.mpr (Int.dvd_mul_left _ _))
theorem rset_eq_iff {n : Nat} (hn : 0 < n) {xs ys : List Int} : rset n xs = rset n ys ↔ ∀ r, In n xs r ↔ In n ys r := by
  constructor
  · intro h r
    rw [← In_rset hn, h, In_rset hn]
  · intro h
    refine SrSet.sortedEq _ _ (rset_rises _ _) (rset_rises _ _) fun k => ?_
    rw [mem_rset_In, mem_rset_In, h k]
theorem rset_idem {n : Nat} (hn : 0 < n) (xs : List Int) : rset n (rset n xs) = rset n xs := (rset_eq_iff hn).mpr fun _ => In_rset hn
theorem In_shift {n : Int} {xs : List Int} {b r : Int} : In n (xs.map fun x => x + b) r ↔ In n xs (r - b) := by
  unfold In
  constructor
  · rintro ⟨x, hx, e⟩
    obtain ⟨y, hy, rfl⟩ := List.mem_map.mp hx
    exact ⟨y, hy, by rw [show y - (r - b) = y + b - r by omega]; exact e⟩
  · rintro ⟨y, hy, e⟩
    exact ⟨_, List.mem_map.mpr ⟨y, hy, rfl⟩, by rw [show y + b - r = y - (r - b) by omega]; exact e⟩
/-- a shift stays just where the set is periodic by it -/
theorem stay_iff {n : Nat} (hn : 0 < n) {xs : List Int} {b : Int} : sshift n (rset n xs) b = rset n xs ↔ Per (In n xs) b := by
  rw [← rset_idem hn xs]
  unfold sshift
  rw [rset_idem hn, rset_eq_iff hn]
  constructor
  · intro h r
    have g := h (r + b)
    rw [In_shift, show r + b - b = r by omega, In_rset hn] at g
    exact g.symm
  · intro h r
    rw [In_shift, In_rset hn]
    have g := h (r - b)
    rw [show r - b + b = r by omega] at g
    exact g.symm
theorem step_dvd {n : Int} {xs : List Int} {d : Int} (hn : 0 < n) (h : IsStep n xs d) (b : Int) : Per (In n xs) b ↔ d ∣ b := by
  have en : ((n.toNat : Nat) : Int) = n := by omega
  have hst : ∀ b, sshift n.toNat (rset n.toNat xs) b = rset n.toNat xs ↔ Per (In n xs) b := fun b => by
    rw [stay_iff (by omega), en]
  obtain ⟨h1, h2, h3, h4, h5⟩ := h
  obtain ⟨g, g1, g2, g3⟩ := (per_subg (In n xs)).gen n.toNat n rfl hn (In_per n xs)
  have gn : g ∣ n := (g3 n).mp (In_per n xs)
  have gd : g ∣ d := (g3 d).mp ((hst d).mp h4)
  have e : g = d := by
    have a := Int.le_of_dvd (by omega) gd
    rcases Int.lt_or_le g d with z | z
    · exact absurd ((hst g).mpr ((g3 g).mpr (Int.dvd_refl g))) (h5 g (by omega) z (Int.emod_eq_zero_of_dvd gn))
    · omega
  rw [← e]
  exact g3 b
theorem stays_mult {n : Int} {xs : List Int} {d : Int} (hn : 0 < n) (h : IsStep n xs d) : stayL n.toNat xs = (List.range (n / d).toNat).map fun k : Nat => (k : Int) * d := by
  have en : ((n.toNat : Nat) : Int) = n := by omega
  have hd0 : 0 < d := by have := h.1; omega
  have hq : n / d * d = n := Int.ediv_mul_cancel (Int.dvd_of_emod_eq_zero h.2.2.1)
  have hq0 : 0 ≤ n / d := Int.ediv_nonneg (by omega) (by omega)
  refine SrSet.sortedEq _ _ ?_ ?_ fun k => ?_
  · unfold stayL
    refine List.Pairwise.filter _ ?_
    rw [List.pairwise_map]
    refine List.Pairwise.imp ?_ (List.pairwise_lt_range (n := n.toNat))
    intro a b hab
    exact Int.ofNat_lt.mpr hab
  · rw [List.pairwise_map]
    refine List.Pairwise.imp ?_ (List.pairwise_lt_range (n := (n / d).toNat))
    intro a b hab
    exact Int.mul_lt_mul_of_pos_right (Int.ofNat_lt.mpr hab) hd0
  · unfold stayL
    rw [List.mem_filter, List.mem_map, List.mem_map]
    simp only [List.mem_range, decide_eq_true_eq]
    rw [stay_iff (by omega), en, step_dvd hn h]
    constructor
    · rintro ⟨⟨i, hi, rfl⟩, q, hq2⟩
      have hq3 : 0 ≤ q := by
        rcases Int.lt_or_le q 0 with z | z
        · have : d * q < 0 := Int.mul_neg_of_pos_of_neg hd0 z
          omega
        · exact z
      refine ⟨q.toNat, ?_, ?_⟩
      · have : q < n / d := by
          refine Int.lt_of_mul_lt_mul_right (a := d) ?_ (by omega)
          rw [Int.mul_comm q d, ← hq2, hq]
          omega
        omega
      · rw [show ((q.toNat : Nat) : Int) = q by omega, Int.mul_comm]
        exact hq2.symm
    · rintro ⟨i, hi, rfl⟩
      have h0 : 0 ≤ (i : Int) * d := Int.mul_nonneg (by omega) (by omega)
      have h1 : (i : Int) * d < n := by
        have := Int.mul_lt_mul_of_pos_right (show (i : Int) < n / d by omega) hd0
        omega
      exact ⟨⟨((i : Int) * d).toNat, by omega, by omega⟩, Int.dvd_mul_left _ _⟩
end Sr
namespace Kn
open Sr (Per per_subg Subg)
/-! ### sets of whole numbers with a period; how many there are within a round -/
open Classical in
noncomputable def one (p : Prop) : Nat := if p then 1 else 0
theorem one_pos {p : Prop} (h : p) : one p = 1 := by
  unfold one
  rw [if_pos h]
theorem one_neg {p : Prop} (h : ¬ p) : one p = 0 := by
  unfold one
  rw [if_neg h]
theorem one_le (p : Prop) : one p ≤ 1 := by
  by_cases h : p
  · rw [one_pos h]
    exact Nat.le_refl _
  · rw [one_neg h]
    exact Nat.zero_le _
theorem one_congr {p q : Prop} (h : p ↔ q) : one p = one q := by rw [propext h]
noncomputable def card : Nat → (Int → Prop) → Nat
  | 0, _ => 0
  | n + 1, f => card n f + one (f (n : Int))
theorem card_congr {n : Nat} {f g : Int → Prop} (h : ∀ x, f x ↔ g x) : card n f = card n g := by
  rw [show f = g from funext fun x => propext (h x)]
theorem card_mono {f g : Int → Prop} (h : ∀ x, f x → g x) : ∀ n, card n f ≤ card n g
  | 0 => Nat.le_refl _
  | n + 1 => by
    have ih := card_mono h n
    show card n f + one (f n) ≤ card n g + one (g n)
    by_cases c : f (n : Int)
    · rw [one_pos c, one_pos (h _ c)]
      omega
    · rw [one_neg c]
      omega
theorem card_le (f : Int → Prop) : ∀ n, card n f ≤ n
  | 0 => Nat.le_refl _
  | n + 1 => by
    have ih := card_le f n
    have := one_le (f (n : Int))
    show card n f + one (f n) ≤ n + 1
    omega
/-- both and either -/
theorem card_or_and (f g : Int → Prop) : ∀ n, card n (fun x => f x ∨ g x) + card n (fun x => f x ∧ g x) = card n f + card n g
  | 0 => rfl
  | n + 1 => by
    have ih := card_or_and f g n
    show card n (fun x => f x ∨ g x) + one (f n ∨ g n) + (card n (fun x => f x ∧ g x) + one (f n ∧ g n)) = card n f + one (f n) + (card n g + one (g n))
    by_cases c : f (n : Int) <;> by_cases d : g (n : Int)
    · rw [one_pos c, one_pos d, one_pos (Or.inl c), one_pos ⟨c, d⟩]
      omega
    · rw [one_pos c, one_neg d, one_pos (Or.inl c), one_neg fun z => d z.2]
      omega
    · rw [one_neg c, one_pos d, one_pos (Or.inr d), one_neg fun z => c z.1]
      omega
    · rw [one_neg c, one_neg d, one_neg (fun z => z.elim c d), one_neg fun z => c z.1]
      omega
/-- a part and the rest -/
theorem card_split (f g : Int → Prop) : ∀ n, card n f = card n (fun x => f x ∧ g x) + card n (fun x => f x ∧ ¬ g x)
  | 0 => rfl
  | n + 1 => by
    have ih := card_split f g n
    show card n f + one (f n) = card n (fun x => f x ∧ g x) + one (f n ∧ g n) + (card n (fun x => f x ∧ ¬ g x) + one (f n ∧ ¬ g n))
    by_cases c : f (n : Int) <;> by_cases d : g (n : Int)
    · rw [one_pos c, one_pos ⟨c, d⟩, one_neg fun z => z.2 d]
      omega
    · rw [one_pos c, one_neg fun z => d z.2, one_pos ⟨c, d⟩]
      omega
    · rw [one_neg c, one_neg fun z => c z.1, one_neg fun z => c z.1]
      omega
    · rw [one_neg c, one_neg fun z => c z.1, one_neg fun z => c z.1]
      omega
theorem card_add (f : Int → Prop) (a : Nat) : ∀ b, card (a + b) f = card a f + card b (fun x => f (x + (a : Int)))
  | 0 => rfl
  | b + 1 => by
    have ih := card_add f a b
    show card (a + b) f + one (f ((a + b : Nat) : Int)) = card a f + (card b (fun x => f (x + (a : Int))) + one (f ((b : Int) + (a : Int))))
    rw [ih, show (((a + b : Nat) : Int)) = (b : Int) + (a : Int) by omega]
    omega
theorem card_one (f : Int → Prop) : card 1 f = one (f 0) := by
  show 0 + one (f ((0 : Nat) : Int)) = _
  rw [Nat.zero_add]
  rfl
theorem card_shift1 {n : Nat} {f : Int → Prop} (h : Per f n) : card n (fun x => f (x + 1)) = card n f := by
  have e1 := card_add f 1 n
  have e2 : card (n + 1) f = card n f + one (f (n : Int)) := rfl
  rw [Nat.add_comm 1 n, e2, card_one] at e1
  have e3 : one (f (n : Int)) = one (f 0) := one_congr (by
    have g := h 0
    rw [Int.zero_add] at g
    exact g)
  have e4 : card n (fun x => f (x + ((1 : Nat) : Int))) = card n (fun x => f (x + 1)) := rfl
  omega
theorem per_shift {f : Int → Prop} {n t : Int} (h : Per f n) : Per (fun x => f (x + t)) n := fun x => by
  show f (x + n + t) ↔ f (x + t)
  rw [show x + n + t = x + t + n by omega]
  exact h _
theorem card_shiftN {n : Nat} {f : Int → Prop} (h : Per f n) : ∀ k : Nat, card n (fun x => f (x + (k : Int))) = card n f
  | 0 => card_congr fun x => by
    show f (x + ((0 : Nat) : Int)) ↔ f x
    rw [show x + ((0 : Nat) : Int) = x by omega]
  | k + 1 => by
    have ih := card_shiftN h k
    have g := card_shift1 (n := n) (f := fun x => f (x + (k : Int))) (per_shift h)
    rw [ih] at g
    rw [← g]
    exact card_congr fun x => by
      show f (x + ((k + 1 : Nat) : Int)) ↔ f (x + 1 + (k : Int))
      rw [show x + ((k + 1 : Nat) : Int) = x + 1 + (k : Int) by omega]
theorem card_shift {n : Nat} {f : Int → Prop} (h : Per f n) (t : Int) : card n (fun x => f (x + t)) = card n f := by
  rcases Int.le_total 0 t with c | c
  · have g := card_shiftN h t.toNat
    rw [show ((t.toNat : Nat) : Int) = t by omega] at g
    exact g
  · have g := card_shiftN (n := n) (f := fun x => f (x + t)) (per_shift h) (-t).toNat
    rw [← g]
    exact card_congr fun x => by
      show f (x + (((-t).toNat : Nat) : Int) + t) ↔ f x
      rw [show x + (((-t).toNat : Nat) : Int) + t = x by omega]
theorem card_mul {d : Nat} {f : Int → Prop} (h : Per f d) : ∀ k : Nat, card (k * d) f = k * card d f
  | 0 => by
    rw [Nat.zero_mul, Nat.zero_mul]
    rfl
  | k + 1 => by
    have ih := card_mul h k
    rw [Nat.add_mul, Nat.one_mul, card_add, ih, card_shift h, Nat.add_mul, Nat.one_mul]
/-- a member, wherever it stands, is met within the round -/
theorem per_mod {f : Int → Prop} {n : Int} (h : Per f n) (x : Int) : f (x % n) ↔ f x := by
  have g := (per_subg f).mul h (x / n) (x % n)
  have e : x % n + x / n * n = x := by
    have := Int.mul_ediv_add_emod x n
    rw [Int.mul_comm] at this
    omega
  rw [e] at g
  exact g.symm
theorem card_at {f : Int → Prop} : ∀ {n : Nat} {i : Nat}, i < n → f (i : Int) → 0 < card n f
  | n + 1, i, hi, hf => by
    show 0 < card n f + one (f n)
    by_cases c : i = n
    · subst c
      rw [one_pos hf]
      omega
    · have := card_at (n := n) (show i < n by omega) hf
      omega
theorem card_pos {n : Nat} (hn : 0 < n) {f : Int → Prop} (h : Per f n) {x : Int} (hx : f x) : 0 < card n f := by
  have h0 := Int.emod_nonneg x (show (n : Int) ≠ 0 by omega)
  have h1 := Int.emod_lt_of_pos x (show (0 : Int) < n by omega)
  refine card_at (i := (x % n).toNat) (by omega) ?_
  rw [show (((x % (n : Int)).toNat : Nat) : Int) = x % n by omega]
  exact (per_mod h x).mpr hx
theorem card_lt {n : Nat} (hn : 0 < n) {f g : Int → Prop} (hf : Per f n) (hg : Per g n) (h : ∀ x, f x → g x) {x : Int} (hx : g x) (hx' : ¬ f x) : card n f < card n g := by
  have e := card_split g f n
  have p : 0 < card n (fun x => g x ∧ ¬ f x) := card_pos hn (fun y => by
    show g (y + n) ∧ ¬ f (y + n) ↔ g y ∧ ¬ f y
    rw [hf y, hg y]) ⟨hx, hx'⟩
  have m : card n f ≤ card n (fun x => g x ∧ f x) := card_mono (fun y hy => ⟨h y hy, hy⟩) n
  omega
theorem card_full {n : Nat} (hn : 0 < n) {f : Int → Prop} (hf : Per f n) (h : card n f = n) (x : Int) : f x := by
  refine Classical.byContradiction fun z => ?_
  have g := card_lt hn hf (g := fun _ => True) (fun _ => Iff.rfl) (fun _ _ => True.intro) (x := x) True.intro z
  have := card_le (fun _ => True) n
  omega
/-! the members within the round, as a list -/
open Classical in
noncomputable def pick (p : Prop) (x : Int) : List Int := if p then [x] else []
theorem pick_pos {p : Prop} (h : p) (x : Int) : pick p x = [x] := by
  unfold pick
  rw [if_pos h]
theorem pick_neg {p : Prop} (h : ¬ p) (x : Int) : pick p x = [] := by
  unfold pick
  rw [if_neg h]
noncomputable def els : Nat → (Int → Prop) → List Int
  | 0, _ => []
  | n + 1, f => els n f ++ pick (f (n : Int)) n
theorem els_len (f : Int → Prop) : ∀ n, (els n f).length = card n f
  | 0 => rfl
  | n + 1 => by
    have ih := els_len f n
    show (els n f ++ pick (f (n : Int)) n).length = card n f + one (f n)
    rw [List.length_append, ih]
    by_cases c : f (n : Int)
    · rw [one_pos c, pick_pos c]
      rfl
    · rw [one_neg c, pick_neg c]
      rfl
theorem mem_els {f : Int → Prop} {x : Int} : ∀ {n : Nat}, x ∈ els n f ↔ 0 ≤ x ∧ x < n ∧ f x
  | 0 => ⟨fun h => absurd (show x ∈ ([] : List Int) from h) (by simp), fun h => absurd h.1 (by have := h.2.1; omega)⟩
  | n + 1 => by
    have ih := @mem_els f x n
    show x ∈ els n f ++ pick (f (n : Int)) n ↔ _
    rw [List.mem_append, ih]
    constructor
    · rintro (⟨a, b, c⟩ | h)
      · exact ⟨a, by omega, c⟩
      · by_cases c : f (n : Int)
        · rw [pick_pos c, List.mem_singleton] at h
          subst h
          exact ⟨by omega, by omega, c⟩
        · rw [pick_neg c] at h
          exact absurd h (by simp)
    · rintro ⟨a, b, c⟩
      by_cases e : x = (n : Int)
      · subst e
        rw [pick_pos c]
        exact Or.inr (List.mem_singleton.mpr rfl)
      · exact Or.inl ⟨a, by omega, c⟩
theorem els_rises (f : Int → Prop) : ∀ n, (els n f).Pairwise (· < ·)
  | 0 => List.Pairwise.nil
  | n + 1 => by
    have ih := els_rises f n
    show (els n f ++ pick (f (n : Int)) n).Pairwise (· < ·)
    rw [List.pairwise_append]
    refine ⟨ih, ?_, fun a ha b hb => ?_⟩
    · by_cases c : f (n : Int)
      · rw [pick_pos c]
        exact List.pairwise_singleton _ _
      · rw [pick_neg c]
        exact List.Pairwise.nil
    · have h1 := (mem_els.mp ha).2.1
      by_cases c : f (n : Int)
      · rw [pick_pos c, List.mem_singleton] at hb
        omega
      · rw [pick_neg c] at hb
        exact absurd hb (by simp)
theorem els_nodup (n : Nat) (f : Int → Prop) : (els n f).Nodup := by
  refine List.Pairwise.imp ?_ (els_rises f n)
  intro a b h
  exact Int.ne_of_lt h
theorem card_none : ∀ n, card n (fun _ => False) = 0
  | 0 => rfl
  | n + 1 => by
    have ih := card_none n
    show card n (fun _ => False) + one False = 0
    rw [ih, one_neg fun z => z]
/-! ### translates that lie apart -/
def Tr (A : Int → Prop) (bs : List Int) (x : Int) : Prop := ∃ b ∈ bs, A (x - b)
theorem tr_card {n : Nat} {A : Int → Prop} (hA : Per A n) : ∀ (bs : List Int), bs.Nodup → (∀ b ∈ bs, ∀ c ∈ bs, ∀ x, A (x - b) → A (x - c) → b = c) → card n (Tr A bs) = bs.length * card n A
  | [], _, _ => by
    have e : card n (Tr A []) = card n (fun _ => False) := card_congr fun x => ⟨fun ⟨_, h, _⟩ => absurd h (by simp), fun z => z.elim⟩
    rw [e, card_none]
    show 0 = 0 * _
    rw [Nat.zero_mul]
  | b :: bs, hn, h => by
    obtain ⟨h1, h2⟩ := List.nodup_cons.mp hn
    have ih := tr_card hA bs h2 fun c hc d hd => h c (List.mem_cons_of_mem _ hc) d (List.mem_cons_of_mem _ hd)
    have e := card_or_and (fun x => A (x - b)) (Tr A bs) n
    have e1 : card n (fun x => A (x - b) ∨ Tr A bs x) = card n (Tr A (b :: bs)) := card_congr fun x => by
      constructor
      · rintro (z | ⟨c, hc, z⟩)
        · exact ⟨b, List.mem_cons_self, z⟩
        · exact ⟨c, List.mem_cons_of_mem _ hc, z⟩
      · rintro ⟨c, hc, z⟩
        rcases List.mem_cons.mp hc with q | q
        · exact Or.inl (q ▸ z)
        · exact Or.inr ⟨c, q, z⟩
    have e2 : card n (fun x => A (x - b) ∧ Tr A bs x) = 0 := by
      refine Nat.eq_zero_of_le_zero (Nat.le_trans (card_mono (g := fun _ => False) (fun x hx => ?_) n) ?_)
      · obtain ⟨hx1, c, hc, hx2⟩ := hx
        have q := h b List.mem_cons_self c (List.mem_cons_of_mem _ hc) x hx1 hx2
        exact h1 (q ▸ hc)
      · rw [card_none]
        exact Nat.le_refl _
    have e3 : card n (fun x => A (x - b)) = card n A := by
      have g := card_shift hA (-b)
      exact g
    rw [e1, e2, e3, ih] at e
    rw [List.length_cons, Nat.add_mul, Nat.one_mul]
    omega
/-- where two subgroups meet in nought alone, sums of their members are told apart -/
theorem grid {n : Nat} {H1 H2 U W D : Int → Prop} (S1 : Subg H1) (S2 : Subg H2) (triv : ∀ t, H1 t → H2 t → (n : Int) ∣ t) (z : Int) (hU : Per U n) (hH1 : H1 n) (hD : Per D n)
    (sub : ∀ h k, H1 h → U (z + h) → H2 k → W (z + k) → D (z + h + k)) : card n (fun h => H1 h ∧ U (z + h)) * card n (fun k => H2 k ∧ W (z + k)) ≤ card n D := by
  have pA : Per (fun h => H1 h ∧ U (z + h)) n := fun x => by
    show H1 (x + n) ∧ U (z + (x + n)) ↔ H1 x ∧ U (z + x)
    have e : H1 (x + n) ↔ H1 x := ⟨fun q => by
      have := S1.sub q hH1
      rw [show x + (n : Int) - n = x by omega] at this
      exact this, fun q => S1.add q hH1⟩
    rw [e, show z + (x + (n : Int)) = z + x + n by omega, hU]
  have g := tr_card pA (els n fun k => H2 k ∧ W (z + k)) (els_nodup _ _) fun b hb c hc x h1 h2 => by
    obtain ⟨b0, b1, b2, _⟩ := mem_els.mp hb
    obtain ⟨c0, c1, c2, _⟩ := mem_els.mp hc
    have q : H1 (b - c) := by
      have := S1.sub h2.1 h1.1
      rw [show x - c - (x - b) = b - c by omega] at this
      exact this
    obtain ⟨m, hm⟩ := triv _ q (S2.sub b2 c2)
    have : m = 0 := by
      rcases Int.lt_or_le m 0 with k | k
      · have : (n : Int) * m ≤ n * (-1) := Int.mul_le_mul_of_nonneg_left (by omega) (by omega)
        omega
      · rcases Int.lt_or_le 0 m with k2 | k2
        · have : (n : Int) * 1 ≤ n * m := Int.mul_le_mul_of_nonneg_left (by omega) (by omega)
          omega
        · omega
    rw [this, Int.mul_zero] at hm
    omega
  rw [els_len, Nat.mul_comm] at g
  rw [← g, ← card_shift hD z]
  refine card_mono (fun x hx => ?_) n
  obtain ⟨k, hk, h1, h2⟩ := hx
  obtain ⟨_, _, k1, k2⟩ := mem_els.mp hk
  have q := sub (x - k) k h1 h2 k1 k2
  rw [show z + (x - k) + k = x + z by omega] at q
  exact q
/-! ### Kneser's lemma of two sets -/
theorem arith {m1 m2 D1 D2 a a' b b' c c' d d' : Nat} (h1 : a + a' = m1) (h2 : b + b' = m2) (ha : 1 ≤ a) (hb : 1 ≤ b) (g1 : a * b ≤ D1) (g2 : a' * b' ≤ D2) (h3 : c + c' = m2) (h4 : d + d' = m1) (hc : 1 ≤ c) (hd : 1 ≤ d) (g3 : c * d ≤ D2) (g4 : c' * d' ≤ D1) :
    m1 ≤ D1 + 1 ∨ m2 ≤ D2 + 1 := by
  have low : ∀ {x y : Nat}, 1 ≤ x → 1 ≤ y → x + y ≤ x * y + 1 := fun {x y} hx hy => by
    obtain ⟨u, rfl⟩ : ∃ u, x = u + 1 := ⟨x - 1, by omega⟩
    obtain ⟨v, rfl⟩ : ∃ v, y = v + 1 := ⟨y - 1, by omega⟩
    rw [Nat.add_mul, Nat.mul_add]
    omega
  have l1 := low ha hb
  have l3 := low hc hd
  have up : ∀ {x y : Nat}, 1 ≤ y → x ≤ x * y := fun {x y} hy => Nat.le_mul_of_pos_right x hy
  have up2 : ∀ {x y : Nat}, 1 ≤ x → y ≤ x * y := fun {x y} hx => Nat.le_mul_of_pos_left y hx
  by_cases ca : a' = 0
  · have := up (x := a) hb
    omega
  · by_cases cb : b' = 0
    · by_cases cc : c' = 0
      · have := up (x := c) hd
        omega
      · by_cases cd : d' = 0
        · have u1 := up2 (y := b) ha
          have u2 := up2 (y := d) hc
          omega
        · have l4 := low (x := c') (y := d') (by omega) (by omega)
          omega
    · have l2 := low (x := a') (y := b') (by omega) (by omega)
      omega
theorem per_or {f g : Int → Prop} {t : Int} (h1 : Per f t) (h2 : Per g t) : Per (fun x => f x ∨ g x) t := fun x => by
  show f (x + t) ∨ g (x + t) ↔ f x ∨ g x
  rw [h1 x, h2 x]
theorem per_per {f : Int → Prop} {n : Int} (h : Per f n) : Per (Per f) n := fun t =>
  ⟨fun q => by
    have := (per_subg f).sub q h
    rw [show t + n - n = t by omega] at this
    exact this, fun q => (per_subg f).add q h⟩
theorem two : ∀ (N n : Nat), n = N → 0 < n → ∀ (f g : Int → Prop), Per f n → Per g n →
    min (card n f + card n (Per f)) (card n g + card n (Per g)) ≤ card n (fun x => f x ∨ g x) + card n (Per fun x => f x ∨ g x) := by
  intro N
  induction N using Nat.strongRecOn with
  | ind N ih =>
    intro n hN hn f g hf hg
    subst hN
    by_cases c1 : ∀ x, f x → g x
    · have e : (fun x => f x ∨ g x) = g := funext fun x => propext ⟨fun z => z.elim (c1 x) id, Or.inr⟩
      rw [e]
      exact Nat.min_le_right _ _
    by_cases c2 : ∀ x, g x → f x
    · have e : (fun x => f x ∨ g x) = f := funext fun x => propext ⟨fun z => z.elim id (c2 x), Or.inl⟩
      rw [e]
      exact Nat.min_le_left _ _
    obtain ⟨z, hz⟩ : ∃ z, g z ∧ ¬ f z := Classical.byContradiction fun q => c2 fun x hx => Classical.byContradiction fun r => q ⟨x, hx, r⟩
    obtain ⟨v, hv⟩ : ∃ v, f v ∧ ¬ g v := Classical.byContradiction fun q => c1 fun x hx => Classical.byContradiction fun r => q ⟨x, hx, r⟩
    have hor := per_or hf hg
    have S : Subg fun t => Per f t ∧ Per g t := ⟨⟨(per_subg f).zero, (per_subg g).zero⟩, fun a b => ⟨(per_subg f).add a.1 b.1, (per_subg g).add a.2 b.2⟩, fun a => ⟨(per_subg f).neg a.1, (per_subg g).neg a.2⟩⟩
    obtain ⟨d, d0, d1, d2⟩ := S.gen n n (Int.toNat_natCast n) (by omega) ⟨hf, hg⟩
    obtain ⟨df, dg⟩ := (d2 d).mpr (Int.dvd_refl d)
    have dn : d ∣ (n : Int) := (d2 n).mp ⟨hf, hg⟩
    obtain ⟨k, hk⟩ := dn
    by_cases cd : d < n
    · -- a common period: the round d
      have hk0 : 0 < k := by
        rcases Int.lt_or_le 0 k with q | q
        · exact q
        · have : d * k ≤ d * 0 := Int.mul_le_mul_of_nonneg_left q (by omega)
          omega
      have ed : ((d.toNat : Nat) : Int) = d := by omega
      have en : n = k.toNat * d.toNat := by
        have : ((k.toNat * d.toNat : Nat) : Int) = (n : Int) := by
          rw [Int.natCast_mul, ed, show ((k.toNat : Nat) : Int) = k by omega, Int.mul_comm]
          exact hk.symm
        omega
      have h := ih d.toNat (by omega) d.toNat rfl (by omega) f g (by rw [ed]; exact df) (by rw [ed]; exact dg)
      have m := fun {p : Int → Prop} (hp : Per p d) => card_mul (d := d.toNat) (f := p) (by rw [ed]; exact hp) k.toNat
      have m1 := m df
      have m2 := m dg
      have m3 := m (per_per df)
      have m4 := m (per_per dg)
      have m5 := m (per_or df dg)
      have m6 := m (per_per (per_or df dg))
      rw [← en] at m1 m2 m3 m4 m5 m6
      rw [m1, m2, m3, m4, m5, m6, ← Nat.mul_add, ← Nat.mul_add, ← Nat.mul_add]
      rcases Nat.le_total (card d.toNat f + card d.toNat (Per f)) (card d.toNat g + card d.toNat (Per g)) with q | q
      · rw [Nat.min_eq_left q] at h
        exact Nat.le_trans (Nat.min_le_left _ _) (Nat.mul_le_mul_left _ h)
      · rw [Nat.min_eq_right q] at h
        exact Nat.le_trans (Nat.min_le_right _ _) (Nat.mul_le_mul_left _ h)
    · -- none
      have e : d = n := by omega
      have triv : ∀ t, Per f t → Per g t → (n : Int) ∣ t := fun t a b => by
        have q := (d2 t).mp ⟨a, b⟩
        rw [e] at q
        exact q
      have triv' : ∀ t, Per g t → Per f t → (n : Int) ∣ t := fun t a b => triv t b a
      have pn : ∀ {p : Int → Prop}, Per p n → Per (fun x => ¬ p x) n := fun {p} hp x => by
        show ¬ p (x + n) ↔ ¬ p x
        rw [hp x]
      have pand : ∀ {p q : Int → Prop}, Per p n → Per q n → Per (fun x => p x ∧ q x) n := fun {p q} hp hq x => by
        show p (x + n) ∧ q (x + n) ↔ p x ∧ q x
        rw [hp x, hq x]
      have hD1 := pand hg (pn hf)
      have hD2 := pand hf (pn hg)
      -- m1 = |Per f|, m2 = |Per g|; D1 = g without f, D2 = f without g
      have s1 := card_split (Per f) (fun h => g (z + h)) n
      have s2 := card_split (Per g) (fun h => ¬ f (z + h)) n
      have s3 := card_split (Per g) (fun h => f (v + h)) n
      have s4 := card_split (Per f) (fun h => ¬ g (v + h)) n
      have shf : ∀ {h k : Int} {u : Int}, Per f h → (f (u + h + k) ↔ f (u + k)) := fun {h k u} q => by
        rw [show u + h + k = u + k + h by omega]
        exact q _
      have shg : ∀ {h k : Int} {u : Int}, Per g h → (g (u + h + k) ↔ g (u + k)) := fun {h k u} q => by
        rw [show u + h + k = u + k + h by omega]
        exact q _
      have q1 := grid (n := n) (U := g) (W := fun x => ¬ f x) (D := fun x => g x ∧ ¬ f x) (per_subg f) (per_subg g) triv z hg hf hD1 fun h k a b c d' => ⟨(c _).mpr b, fun r => d' ((shf a).mp r)⟩
      have q2 := grid (n := n) (U := fun x => ¬ g x) (W := fun x => ¬ ¬ f x) (D := fun x => f x ∧ ¬ g x) (per_subg f) (per_subg g) triv z (pn hg) hf hD2 fun h k a b c d' => ⟨(shf a).mpr (Classical.not_not.mp d'), fun r => b ((c _).mp r)⟩
      have q3 := grid (n := n) (U := f) (W := fun x => ¬ g x) (D := fun x => f x ∧ ¬ g x) (per_subg g) (per_subg f) triv' v hf hg hD2 fun h k a b c d' => ⟨(c _).mpr b, fun r => d' ((shg a).mp r)⟩
      have q4 := grid (n := n) (U := fun x => ¬ f x) (W := fun x => ¬ ¬ g x) (D := fun x => g x ∧ ¬ f x) (per_subg g) (per_subg f) triv' v (pn hf) hg hD1 fun h k a b c d' => ⟨(shg a).mpr (Classical.not_not.mp d'), fun r => b ((c _).mp r)⟩
      have z0 : z + 0 = z := Int.add_zero z
      have v0 : v + 0 = v := Int.add_zero v
      have pz : ∀ {u : Int} {p : Int → Prop}, Per p n → Per (fun h => p (u + h)) n := fun {u p} hp x => by
        show p (u + (x + n)) ↔ p (u + x)
        rw [← Int.add_assoc]
        exact hp _
      have a1 := card_pos hn (pand (per_per hf) (pz (u := z) hg)) (x := 0) ⟨(per_subg f).zero, by rw [z0]; exact hz.1⟩
      have a2 := card_pos hn (pand (per_per hg) (pz (u := z) (pn hf))) (x := 0) ⟨(per_subg g).zero, by rw [z0]; exact hz.2⟩
      have a3 := card_pos hn (pand (per_per hg) (pz (u := v) hf)) (x := 0) ⟨(per_subg g).zero, by rw [v0]; exact hv.1⟩
      have a4 := card_pos hn (pand (per_per hf) (pz (u := v) (pn hg))) (x := 0) ⟨(per_subg f).zero, by rw [v0]; exact hv.2⟩
      have hU1 := card_split (fun x => f x ∨ g x) f n
      have hU2 := card_split (fun x => f x ∨ g x) g n
      have w1 : card n (fun x => (f x ∨ g x) ∧ f x) = card n f := card_congr fun x => ⟨fun r => r.2, fun r => ⟨Or.inl r, r⟩⟩
      have w2 : card n (fun x => (f x ∨ g x) ∧ ¬ f x) = card n (fun x => g x ∧ ¬ f x) := card_congr fun x => ⟨fun r => ⟨r.1.resolve_left r.2, r.2⟩, fun r => ⟨Or.inr r.1, r.2⟩⟩
      have w3 : card n (fun x => (f x ∨ g x) ∧ g x) = card n g := card_congr fun x => ⟨fun r => r.2, fun r => ⟨Or.inr r, r⟩⟩
      have w4 : card n (fun x => (f x ∨ g x) ∧ ¬ g x) = card n (fun x => f x ∧ ¬ g x) := card_congr fun x => ⟨fun r => ⟨r.1.resolve_right r.2, r.2⟩, fun r => ⟨Or.inl r.1, r.2⟩⟩
      have hst := card_pos hn (per_per hor) (x := 0) (per_subg _).zero
      rcases arith s1.symm s2.symm a1 a2 q1 q2 s3.symm s4.symm a3 a4 q3 q4 with r | r
      · refine Nat.le_trans (Nat.min_le_left _ _) ?_
        omega
      · refine Nat.le_trans (Nat.min_le_right _ _) ?_
        omega
end Kn
namespace Kn
open Sr (Per per_subg Subg)
/-! ### many sets; the sums of two -/
def Un (l : List (Int → Prop)) (x : Int) : Prop := ∃ f ∈ l, f x
theorem un_per {n : Int} : ∀ {l : List (Int → Prop)}, (∀ f ∈ l, Per f n) → Per (Un l) n := fun {l} h x => by
  constructor
  · rintro ⟨f, hf, q⟩
    exact ⟨f, hf, (h f hf x).mp q⟩
  · rintro ⟨f, hf, q⟩
    exact ⟨f, hf, (h f hf x).mpr q⟩
theorem many {n t : Nat} (hn : 0 < n) : ∀ (l : List (Int → Prop)), l ≠ [] → (∀ f ∈ l, Per f n ∧ t ≤ card n f + card n (Per f)) → t ≤ card n (Un l) + card n (Per (Un l))
  | [], h, _ => absurd rfl h
  | [f], _, h => by
    have e : Un [f] = f := funext fun x => propext ⟨fun ⟨g, hg, q⟩ => by
      rw [List.mem_singleton] at hg
      rw [← hg]
      exact q, fun q => ⟨f, List.mem_singleton.mpr rfl, q⟩⟩
    rw [e]
    exact (h f (List.mem_singleton.mpr rfl)).2
  | f :: g :: l, _, h => by
    have ih := many hn (g :: l) (by simp) fun k hk => h k (List.mem_cons_of_mem _ hk)
    obtain ⟨pf, hf⟩ := h f List.mem_cons_self
    have pl : Per (Un (g :: l)) n := un_per fun k hk => (h k (List.mem_cons_of_mem _ hk)).1
    have q := two n n rfl hn f (Un (g :: l)) pf pl
    have e : (fun x => f x ∨ Un (g :: l) x) = Un (f :: g :: l) := funext fun x => propext ⟨fun z => by
      rcases z with z | ⟨k, hk, z⟩
      · exact ⟨f, List.mem_cons_self, z⟩
      · exact ⟨k, List.mem_cons_of_mem _ hk, z⟩, fun ⟨k, hk, z⟩ => by
      rcases List.mem_cons.mp hk with r | r
      · exact Or.inl (r ▸ z)
      · exact Or.inr ⟨k, r, z⟩⟩
    rw [e] at q
    exact Nat.le_trans (Nat.le_min.mpr ⟨hf, ih⟩) q
/-- the sums of a member of the one and a member of the other -/
def Plus (A B : Int → Prop) (x : Int) : Prop := ∃ a, A a ∧ B (x - a)
theorem plus_per {A B : Int → Prop} {n : Int} (hB : Per B n) : Per (Plus A B) n := fun x => by
  constructor
  · rintro ⟨a, ha, hb⟩
    refine ⟨a, ha, ?_⟩
    rw [show x + n - a = x - a + n by omega] at hb
    exact (hB _).mp hb
  · rintro ⟨a, ha, hb⟩
    refine ⟨a, ha, ?_⟩
    rw [show x + n - a = x - a + n by omega]
    exact (hB _).mpr hb
/-- a set that a shift sends into itself is left as it is by it -/
theorem into_per {n : Nat} (hn : 0 < n) {B : Int → Prop} (hB : Per B n) {t : Int} (h : ∀ x, B x → B (x + t)) : Per B t := by
  have it : ∀ (k : Nat) x, B x → B (x + (k : Int) * t) := fun k => by
    induction k with
    | zero =>
      intro x hx
      rw [show x + ((0 : Nat) : Int) * t = x by simp]
      exact hx
    | succ k ih =>
      intro x hx
      have := h _ (ih x hx)
      rw [show x + (k : Int) * t + t = x + ((k + 1 : Nat) : Int) * t by rw [Int.natCast_add, Int.add_mul]; simp; omega] at this
      exact this
  refine fun x => ⟨fun q => ?_, h x⟩
  have g := it (n - 1) _ q
  have e : x + t + ((n - 1 : Nat) : Int) * t = x + t * n := by
    have e1 : ((n - 1 : Nat) : Int) = (n : Int) - 1 := by omega
    rw [e1, Int.sub_mul, Int.one_mul, Int.mul_comm t]
    omega
  rw [e] at g
  exact ((per_subg B).mul hB t x).mp g
/-- around each sum there is a part of the sums that is large enough -/
theorem around {n : Nat} (hn : 0 < n) : ∀ (m : Nat) (A B : Int → Prop) (a b : Int), card n A = m → Per A n → Per B n → A a → B b → ∃ C : Int → Prop, Per C n ∧ C (a + b) ∧ (∀ x, C x → Plus A B x) ∧ card n A + card n B ≤ card n C + card n (Per C) := by
  intro m
  induction m using Nat.strongRecOn with
  | ind m ih =>
    intro A B a b hm hA hB ha hb
    by_cases st : ∀ b', B b' → ∀ a', A a' → B (a' - a + b')
    · refine ⟨fun x => B (x - a), ?_, ?_, fun x hx => ⟨a, ha, hx⟩, ?_⟩
      · exact per_shift (t := -a) hB
      · show B (a + b - a)
        rw [show a + b - a = b by omega]
        exact hb
      · have e1 : card n (fun x => B (x - a)) = card n B := card_shift hB (-a)
        have e2 : Per (fun x => B (x - a)) = Per B := funext fun t => propext ⟨fun h x => by
          have g : B (x + a + t - a) ↔ B (x + a - a) := h (x + a)
          rw [show x + a + t - a = x + t by omega, show x + a - a = x by omega] at g
          exact g, fun h x => by
          have g := h (x - a)
          rw [show x - a + t = x + t - a by omega] at g
          exact g⟩
        have e3 : card n A ≤ card n (Per B) := by
          rw [← card_shift hA a]
          refine card_mono (fun t ht => into_per hn hB fun x hx => ?_) n
          have g := st x hx (t + a) ht
          rw [show t + a - a + x = x + t by omega] at g
          exact g
        rw [e1, e2]
        omega
    · obtain ⟨b', hb', a', ha', no⟩ : ∃ b', B b' ∧ ∃ a', A a' ∧ ¬ B (a' - a + b') := Classical.byContradiction fun q => st fun b' hb' a' ha' => Classical.byContradiction fun r => q ⟨b', hb', a', ha', r⟩
      have hBs : Per (fun x => B (x - a + b')) n := fun x => by
        show B (x + n - a + b') ↔ B (x - a + b')
        rw [show x + (n : Int) - a + b' = x - a + b' + n by omega]
        exact hB _
      have hAs : Per (fun x => A (x + a - b')) n := fun x => by
        show A (x + n + a - b') ↔ A (x + a - b')
        rw [show x + (n : Int) + a - b' = x + a - b' + n by omega]
        exact hA _
      have pA : Per (fun x => A x ∧ B (x - a + b')) n := fun x => by
        show A (x + n) ∧ B (x + n - a + b') ↔ A x ∧ B (x - a + b')
        rw [hA x, show B (x + n - a + b') ↔ B (x - a + b') from hBs x]
      have pB : Per (fun x => B x ∨ A (x + a - b')) n := per_or hB hAs
      have lt : card n (fun x => A x ∧ B (x - a + b')) < card n A := card_lt hn pA hA (fun x h => h.1) ha' fun q => no q.2
      have eq : card n (fun x => A x ∧ B (x - a + b')) + card n (fun x => B x ∨ A (x + a - b')) = card n A + card n B := by
        have e1 := card_or_and A (fun x => B (x - a + b')) n
        have e2 : card n (fun x => B (x - a + b')) = card n B := by
          rw [← card_shift hB (-a + b')]
          exact card_congr fun x => by
            show B (x - a + b') ↔ B (x + (-a + b'))
            rw [show x - a + b' = x + (-a + b') by omega]
        have e3 : card n (fun x => A x ∨ B (x - a + b')) = card n (fun x => B x ∨ A (x + a - b')) := by
          rw [← card_shift pB (-a + b')]
          exact card_congr fun x => by
            show A x ∨ B (x - a + b') ↔ B (x + (-a + b')) ∨ A (x + (-a + b') + a - b')
            rw [show x + (-a + b') + a - b' = x by omega, show x + (-a + b') = x - a + b' by omega]
            exact Or.comm
        omega
      obtain ⟨C, c1, c2, c3, c4⟩ := ih _ (hm ▸ lt) (fun x => A x ∧ B (x - a + b')) (fun x => B x ∨ A (x + a - b')) a b rfl pA pB ⟨ha, by rw [show a - a + b' = b' by omega]; exact hb'⟩ (Or.inl hb)
      refine ⟨C, c1, c2, fun x hx => ?_, by omega⟩
      obtain ⟨u, ⟨u1, u2⟩, w⟩ := c3 x hx
      rcases w with w | w
      · exact ⟨u, u1, w⟩
      · refine ⟨x - u + a - b', w, ?_⟩
        rw [show x - (x - u + a - b') = u - a + b' by omega]
        exact u2
/-- Kneser's theorem: the sums, and how many shifts leave them as they are -/
theorem kneser {n : Nat} (hn : 0 < n) {A B : Int → Prop} (hA : Per A n) (hB : Per B n) {a0 b0 : Int} (ha : A a0) (hb : B b0) : card n A + card n B ≤ card n (Plus A B) + card n (Per (Plus A B)) := by
  have pS := plus_per (A := A) hB
  -- the part around each
  have ch : ∀ x, Plus A B x → ∃ C : Int → Prop, Per C n ∧ C x ∧ (∀ y, C y → Plus A B y) ∧ card n A + card n B ≤ card n C + card n (Per C) := fun x ⟨a, h1, h2⟩ => by
    obtain ⟨C, c1, c2, c3, c4⟩ := around hn _ A B a (x - a) rfl hA hB h1 h2
    rw [show a + (x - a) = x by omega] at c2
    exact ⟨C, c1, c2, c3, c4⟩
  have all : ∀ l : List Int, (∀ x ∈ l, Plus A B x) → ∃ Cs : List (Int → Prop), Cs.length = l.length ∧ (∀ f ∈ Cs, Per f n ∧ card n A + card n B ≤ card n f + card n (Per f)) ∧ (∀ f ∈ Cs, ∀ y, f y → Plus A B y) ∧ ∀ x ∈ l, Un Cs x := fun l => by
    induction l with
    | nil => exact fun _ => ⟨[], rfl, fun f h => absurd h (by simp), fun f h => absurd h (by simp), fun x h => absurd h (by simp)⟩
    | cons x l ih =>
      intro h
      obtain ⟨Cs, l0, l1, l2, l3⟩ := ih fun y hy => h y (List.mem_cons_of_mem _ hy)
      obtain ⟨C, c1, c2, c3, c4⟩ := ch x (h x List.mem_cons_self)
      refine ⟨C :: Cs, by rw [List.length_cons, List.length_cons, l0], fun f hf => ?_, fun f hf => ?_, fun y hy => ?_⟩
      · rcases List.mem_cons.mp hf with r | r
        · rw [r]
          exact ⟨c1, c4⟩
        · exact l1 f r
      · rcases List.mem_cons.mp hf with r | r
        · rw [r]
          exact c3
        · exact l2 f r
      · rcases List.mem_cons.mp hy with r | r
        · rw [r]
          exact ⟨C, List.mem_cons_self, c2⟩
        · obtain ⟨f, hf, q⟩ := l3 y r
          exact ⟨f, List.mem_cons_of_mem _ hf, q⟩
  obtain ⟨Cs, l0, l1, l2, l3⟩ := all (els n (Plus A B)) fun x hx => (mem_els.mp hx).2.2
  have s0 : Plus A B (a0 + b0) := ⟨a0, ha, by rw [show a0 + b0 - a0 = b0 by omega]; exact hb⟩
  have ne : Cs ≠ [] := fun z => by
    rw [z, els_len] at l0
    have := card_pos hn pS s0
    have l0 : 0 = card n (Plus A B) := l0
    omega
  have e : Un Cs = Plus A B := funext fun x => propext ⟨fun ⟨f, hf, q⟩ => l2 f hf x q, fun h => by
    have h0 := Int.emod_nonneg x (show (n : Int) ≠ 0 by omega)
    have h1 := Int.emod_lt_of_pos x (show (0 : Int) < n by omega)
    have g := l3 (x % n) (mem_els.mpr ⟨h0, h1, (per_mod pS x).mpr h⟩)
    exact (per_mod (un_per fun f hf => (l1 f hf).1) x).mp g⟩
  have g := many hn Cs ne l1
  rw [e] at g
  exact g
/-- .. with the sets made as periodic as their sums -/
theorem kneser2 {n : Nat} (hn : 0 < n) {A B : Int → Prop} (hA : Per A n) (hB : Per B n) {a0 b0 : Int} (ha : A a0) (hb : B b0) :
    card n (Plus A (Per (Plus A B))) + card n (Plus B (Per (Plus A B))) ≤ card n (Plus A B) + card n (Per (Plus A B)) := by
  have pS := plus_per (A := A) hB
  have pH : Per (Per (Plus A B)) n := per_per pS
  have z := (per_subg (Plus A B)).zero
  have e : Plus (Plus A (Per (Plus A B))) (Plus B (Per (Plus A B))) = Plus A B := funext fun x => propext ⟨fun h => by
    obtain ⟨u, ⟨a, h1, h2⟩, b, h3, h4⟩ := h
    have q : Plus A B (a + b) := ⟨a, h1, by rw [show a + b - a = b by omega]; exact h3⟩
    have r := (per_subg (Plus A B)).add h2 h4
    have g := (r (a + b)).mpr q
    rw [show a + b + (u - a + (x - u - b)) = x by omega] at g
    exact g, fun ⟨a, h1, h2⟩ => by
    refine ⟨a, ⟨a, h1, ?_⟩, x - a, h2, ?_⟩
    · rw [Int.sub_self]
      exact z
    · rw [show x - a - (x - a) = 0 by omega]
      exact z⟩
  have g := kneser hn (A := Plus A (Per (Plus A B))) (B := Plus B (Per (Plus A B))) (plus_per pH) (plus_per pH) (a0 := a0) (b0 := b0) ⟨a0, ha, by rw [Int.sub_self]; exact z⟩ ⟨b0, hb, by rw [Int.sub_self]; exact z⟩
  rw [e] at g
  exact g
/-- a round that is a prime -/
theorem kneser_prime {n : Nat} (hn : 0 < n) (hp : ∀ d : Int, 0 < d → d ∣ (n : Int) → d = 1 ∨ d = n) {A B : Int → Prop} (hA : Per A n) (hB : Per B n) {a0 b0 : Int} (ha : A a0) (hb : B b0) : n ≤ card n (Plus A B) ∨ card n A + card n B ≤ card n (Plus A B) + 1 := by
  have pS := plus_per (A := A) hB
  obtain ⟨d, d0, d1, d2⟩ := (per_subg (Plus A B)).gen n n (Int.toNat_natCast n) (by omega) pS
  rcases hp d d0 ((d2 n).mp pS) with e | e
  · -- all
    left
    have s0 : Plus A B (a0 + b0) := ⟨a0, ha, by rw [show a0 + b0 - a0 = b0 by omega]; exact hb⟩
    have every : ∀ x, Plus A B x := fun x => by
      have q := (d2 (x - (a0 + b0))).mpr (by rw [e]; exact Int.one_dvd _)
      have g := (q (a0 + b0)).mpr s0
      rw [show a0 + b0 + (x - (a0 + b0)) = x by omega] at g
      exact g
    have c : ∀ m, card m (Plus A B) = m := fun m => by
      induction m with
      | zero => rfl
      | succ m ih =>
        show card m (Plus A B) + one (Plus A B m) = m + 1
        rw [ih, one_pos (every _)]
    rw [c]
    exact Nat.le_refl _
  · right
    have g := kneser hn hA hB ha hb
    have c : card n (Per (Plus A B)) ≤ 1 := by
      have h : ∀ m : Nat, m ≤ n → card m (Per (Plus A B)) ≤ 1 ∧ (m = 0 → card m (Per (Plus A B)) = 0) := fun m => by
        induction m with
        | zero => exact fun _ => ⟨Nat.zero_le _, fun _ => rfl⟩
        | succ m ih =>
          intro hm
          obtain ⟨i1, i2⟩ := ih (by omega)
          refine ⟨?_, fun z => by omega⟩
          show card m (Per (Plus A B)) + one (Per (Plus A B) m) ≤ 1
          by_cases c0 : m = 0
          · have := one_le (Per (Plus A B) (m : Int))
            have := i2 c0
            omega
          · rw [one_neg fun q => ?_]
            · exact i1
            · have := Int.le_of_dvd (by omega) ((d2 _).mp q)
              omega
      exact (h n (Nat.le_refl _)).1
    omega
end Kn
namespace Kn
open Sr
/-! ### Kneser's theorem of the lists -/
theorem rset_els {n : Nat} (xs : List Int) : rset n xs = els n (In n xs) := SrSet.sortedEq _ _ (rset_rises _ _) (els_rises _ _) fun k => by rw [mem_rset_In, mem_els]
theorem rset_card {n : Nat} (xs : List Int) : (rset n xs).length = card n (In n xs) := by rw [rset_els, els_len]
theorem In_ssum {n : Nat} (hn : 0 < n) (xs ys : List Int) : In n (ssum n xs ys) = Plus (In n xs) (In n ys) := funext fun r => propext (by
  unfold ssum
  rw [In_rset hn]
  constructor
  · rintro ⟨x, hx, e⟩
    obtain ⟨a, ha, b, hb, rfl⟩ := mem_pairs.mp hx
    refine ⟨a, (mem_rset_In.mp ha).2.2, ?_⟩
    obtain ⟨y, hy, e2⟩ := (mem_rset_In.mp hb).2.2
    refine ⟨y, hy, ?_⟩
    have d := Int.dvd_add (Int.dvd_of_emod_eq_zero e) (Int.dvd_of_emod_eq_zero e2)
    rw [show a + b - r + (y - b) = y - (r - a) by omega] at d
    exact Int.emod_eq_zero_of_dvd d
  · rintro ⟨u, h1, h2⟩
    obtain ⟨a, ha, e1⟩ := (In_rset hn).mpr h1
    obtain ⟨b, hb, e2⟩ := (In_rset hn).mpr h2
    refine ⟨a + b, mem_pairs.mpr ⟨a, ha, b, hb, rfl⟩, ?_⟩
    have d := Int.dvd_add (Int.dvd_of_emod_eq_zero e1) (Int.dvd_of_emod_eq_zero e2)
    rw [show a - u + (b - (r - u)) = a + b - r by omega] at d
    exact Int.emod_eq_zero_of_dvd d)
theorem mem_stayL {n : Nat} (hn : 0 < n) {S : List Int} {t : Int} : t ∈ stayL n S ↔ 0 ≤ t ∧ t < n ∧ Per (In n S) t := by
  unfold stayL
  rw [List.mem_filter, List.mem_map, decide_eq_true_eq, stay_iff hn]
  constructor
  · rintro ⟨⟨i, hi, rfl⟩, h⟩
    have := List.mem_range.mp hi
    exact ⟨by omega, by omega, h⟩
  · rintro ⟨h0, h1, h2⟩
    exact ⟨⟨t.toNat, List.mem_range.mpr (by omega), by omega⟩, h2⟩
theorem stayL_rises (n : Nat) (S : List Int) : (stayL n S).Pairwise (· < ·) := by
  unfold stayL
  refine List.Pairwise.filter _ ?_
  rw [List.pairwise_map]
  refine List.Pairwise.imp ?_ (List.pairwise_lt_range (n := n))
  intro a b hab
  exact Int.ofNat_lt.mpr hab
theorem stayL_els {n : Nat} (hn : 0 < n) (S : List Int) : stayL n S = els n (Per (In n S)) := SrSet.sortedEq _ _ (stayL_rises _ _) (els_rises _ _) fun k => by rw [mem_stayL hn, mem_els]
theorem In_stayL {n : Nat} (hn : 0 < n) (S : List Int) : In n (stayL n S) = Per (In n S) := funext fun t => propext (by
  have pp : Per (Per (In n S)) n := per_per (In_per n S)
  constructor
  · rintro ⟨x, hx, e⟩
    obtain ⟨m, hm⟩ := Int.dvd_of_emod_eq_zero e
    have g := (per_subg _).mul pp m t
    rw [show t + m * (n : Int) = x by rw [Int.mul_comm]; omega] at g
    exact g.mp ((mem_stayL hn).mp hx).2.2
  · intro h
    have h0 := Int.emod_nonneg t (show (n : Int) ≠ 0 by omega)
    have h1 := Int.emod_lt_of_pos t (show (0 : Int) < n by omega)
    refine ⟨t % n, (mem_stayL hn).mpr ⟨h0, h1, (per_mod pp t).mpr h⟩, ?_⟩
    have e : t % (n : Int) - t = -(t / n * n) := by
      have := Int.mul_ediv_add_emod t n
      rw [Int.mul_comm] at this
      omega
    rw [e]
    exact Int.emod_eq_zero_of_dvd (Int.dvd_neg.mpr (Int.dvd_mul_left _ _)))
theorem ssum_card {n : Nat} (hn : 0 < n) (xs ys : List Int) : (ssum n xs ys).length = card n (Plus (In n xs) (In n ys)) := by
  rw [← In_ssum hn]
  unfold ssum
  rw [rset_card, show In (n : Int) (rset n (pairs (rset n xs) (rset n ys))) = In n (pairs (rset n xs) (rset n ys)) from funext fun r => propext (In_rset hn)]
theorem ex_In {n : Int} {xs : List Int} (h : xs ≠ []) : ∃ x, In n xs x := by
  obtain ⟨x, hx⟩ := List.exists_mem_of_ne_nil xs h
  exact ⟨x, x, hx, by rw [Int.sub_self]; exact Int.zero_emod _⟩
theorem kneser_lists {n : Nat} (hn : 0 < n) {xs ys : List Int} (hx : xs ≠ []) (hy : ys ≠ []) : (ssum n xs (stayL n (ssum n xs ys))).length + (ssum n ys (stayL n (ssum n xs ys))).length ≤ (ssum n xs ys).length + (stayL n (ssum n xs ys)).length := by
  obtain ⟨a, ha⟩ := ex_In (n := n) hx
  obtain ⟨b, hb⟩ := ex_In (n := n) hy
  have g := kneser2 hn (In_per n xs) (In_per n ys) ha hb
  rw [ssum_card hn, ssum_card hn, ssum_card hn, In_stayL hn, stayL_els hn, els_len, In_ssum hn]
  exact g
theorem sum_stays {n : Nat} (hn : 0 < n) (S : List Int) (hS : rset n S = S) : ssum n S (stayL n S) = S := by
  have e : ssum n S (stayL n S) = rset n S := by
    have h : rset n (ssum n S (stayL n S)) = rset n S := (rset_eq_iff hn).mpr fun r => by
      rw [In_ssum hn, In_stayL hn]
      constructor
      · rintro ⟨u, h1, h2⟩
        have g := (h2 u).mpr h1
        rw [show u + (r - u) = r by omega] at g
        exact g
      · intro h
        exact ⟨r, h, by rw [Int.sub_self]; exact (per_subg _).zero⟩
    rw [← h]
    unfold ssum
    rw [rset_idem hn]
  rw [e, hS]
theorem zero_stays {n : Nat} (hn : 0 < n) (S : List Int) : (0 : Int) ∈ stayL n S := (mem_stayL hn).mpr ⟨by omega, by omega, (per_subg _).zero⟩
theorem prime_lists {n : Nat} (hn : 1 < n) (hp : ∀ k : Int, 2 ≤ k → k < n → (n : Int) % k ≠ 0) {xs ys : List Int} (hx : xs ≠ []) (hy : ys ≠ []) (sx : rset n xs = xs) (sy : rset n ys = ys) : n ≤ (ssum n xs ys).length ∨ xs.length + ys.length ≤ (ssum n xs ys).length + 1 := by
  obtain ⟨a, ha⟩ := ex_In (n := n) hx
  obtain ⟨b, hb⟩ := ex_In (n := n) hy
  have g := kneser_prime (n := n) (by omega) (fun d d0 d1 => by
    have := Int.le_of_dvd (by omega) d1
    by_cases c : d = 1
    · exact Or.inl c
    · by_cases c2 : d < n
      · exact absurd (Int.emod_eq_zero_of_dvd d1) (hp d (by omega) c2)
      · exact Or.inr (by omega)) (In_per n xs) (In_per n ys) ha hb
  rw [← ssum_card (by omega), ← rset_card, ← rset_card, sx, sy] at g
  exact g
/-- rising rests are the set that they tell -/
theorem set_self {n : Nat} {xs : List Int} (h : xs.Pairwise (· < ·)) (hb : ∀ x ∈ xs, 0 ≤ x ∧ x < n) : rset n xs = xs := SrSet.sortedEq _ _ (rset_rises _ _) h fun k => by
  rw [mem_rset_In]
  constructor
  · rintro ⟨h0, h1, x, hx, e⟩
    obtain ⟨x0, x1⟩ := hb x hx
    have e2 := Int.emod_eq_emod_iff_emod_sub_eq_zero.mpr e
    rw [Int.emod_eq_of_lt x0 x1, Int.emod_eq_of_lt h0 h1] at e2
    rw [← e2]
    exact hx
  · intro hk
    obtain ⟨h0, h1⟩ := hb k hk
    exact ⟨h0, h1, k, hk, by rw [Int.sub_self]; exact Int.zero_emod _⟩
theorem bits_set (c : Int) (n : Nat) : rset n (bits c n) = bits c n := by
  refine set_self ?_ fun x hx => ?_
  · unfold bits
    rw [List.pairwise_map]
    refine List.Pairwise.filter _ (List.Pairwise.imp ?_ (List.pairwise_lt_range (n := n)))
    intro a b hab
    exact Int.ofNat_lt.mpr hab
  · unfold bits at hx
    obtain ⟨i, hi, rfl⟩ := List.mem_map.mp hx
    have := List.mem_range.mp (List.mem_filter.mp hi).1
    exact ⟨by omega, by omega⟩
theorem ssum_set {n : Nat} (hn : 0 < n) (xs ys : List Int) : rset n (ssum n xs ys) = ssum n xs ys := rset_idem hn _
theorem rset_nodup (n : Nat) (xs : List Int) : (rset n xs).Nodup := by
  refine List.Pairwise.imp ?_ (rset_rises n xs)
  intro a b h
  exact Int.ne_of_lt h
theorem rset_ne {n : Nat} (hn : 0 < n) {xs : List Int} (h : xs ≠ []) : rset n xs ≠ [] := fun z => by
  obtain ⟨x, hx⟩ := ex_In (n := n) h
  have g := (In_rset hn).mpr hx
  rw [z] at g
  obtain ⟨y, hy, _⟩ := g
  exact absurd hy (by simp)
end Kn
namespace Sr
open PySem PySem.Spec PyProof.Rows L2 Evl
/-! ### the defs of the text -/
def topS (i : Nat) : Stmt := PySem.Challenge.pw_sumrests_k04_whole_sums_are_many.main.body.getD i (.Pass ⟨0, 0, 0, 0⟩)
abbrev slaw_bits : Stmt := topS 17
theorem sclaw_bits : FnScope ["cell", "n", "found", "rest"] ["cell", "n"] (defScope slaw_bits) := ⟨rfl, rfl, rfl, by decide +kernel, rfl, by decide +kernel, by decide +kernel⟩
abbrev slaw_cell_at : Stmt := topS 11
theorem sclaw_cell_at : FnScope ["script", "k"] ["script", "k"] (defScope slaw_cell_at) := ⟨rfl, rfl, rfl, by decide +kernel, rfl, by decide +kernel, by decide +kernel⟩
abbrev slaw_set : Stmt := topS 13
theorem sclaw_set : FnScope ["numbers", "n", "rest", "one"] ["numbers", "n"] (defScope slaw_set) := ⟨rfl, rfl, rfl, by decide +kernel, rfl, by decide +kernel, by decide +kernel⟩
abbrev slaw_again : Stmt := topS 18
theorem sclaw_again : FnScope ["numbers", "n", "by", "found", "k", "number"] ["numbers", "n", "by"] (defScope slaw_again) := ⟨rfl, rfl, rfl, by decide +kernel, rfl, by decide +kernel, by decide +kernel⟩
abbrev slaw_drawn : Stmt := topS 19
theorem sclaw_drawn : FnScope ["script", "k", "n", "numbers", "way", "by", "one"] ["script", "k", "n"] (defScope slaw_drawn) := ⟨rfl, rfl, rfl, by decide +kernel, rfl, by decide +kernel, by decide +kernel⟩
abbrev ssee_round : Stmt := topS 5
theorem scsee_round : FnScope ["n"] ["n"] (defScope ssee_round) := ⟨rfl, rfl, rfl, by decide +kernel, rfl, by decide +kernel, by decide +kernel⟩
abbrev srests : Stmt := topS 6
theorem scrests : FnScope ["numbers", "n", "number"] ["numbers", "n"] (defScope srests) := ⟨rfl, rfl, rfl, by decide +kernel, rfl, by decide +kernel, by decide +kernel⟩
abbrev ssums : Stmt := topS 7
theorem scsums : FnScope ["one", "other", "n", "left", "right", "found", "a", "b"] ["one", "other", "n"] (defScope ssums) := ⟨rfl, rfl, rfl, by decide +kernel, rfl, by decide +kernel, by decide +kernel⟩
abbrev sshifted : Stmt := topS 8
theorem scshifted : FnScope ["numbers", "by", "n", "number"] ["numbers", "by", "n"] (defScope sshifted) := ⟨rfl, rfl, rfl, by decide +kernel, rfl, by decide +kernel, by decide +kernel⟩
abbrev sstays : Stmt := topS 9
theorem scstays : FnScope ["numbers", "n", "here", "by"] ["numbers", "n"] (defScope sstays) := ⟨rfl, rfl, rfl, by decide +kernel, rfl, by decide +kernel, by decide +kernel⟩
abbrev slaw_whole : Stmt := topS 12
theorem sclaw_whole : FnScope ["found"] ["found"] (defScope slaw_whole) := ⟨rfl, rfl, rfl, by decide +kernel, rfl, by decide +kernel, by decide +kernel⟩
abbrev slaw_is_rests : Stmt := topS 20
theorem sclaw_is_rests : FnScope ["found", "n", "rest"] ["found", "n"] (defScope slaw_is_rests) := ⟨rfl, rfl, rfl, by decide +kernel, rfl, by decide +kernel, by decide +kernel⟩
abbrev slaw_is_set : Stmt := topS 16
theorem sclaw_is_set : FnScope ["found", "due", "rest"] ["found", "due"] (defScope slaw_is_set) := ⟨rfl, rfl, rfl, by decide +kernel, rfl, by decide +kernel, by decide +kernel⟩
abbrev slaw : Stmt := topS 21
theorem sclaw : FnScope ["script", "n", "one", "other", "s", "h", "left", "right", "prime", "k"] ["script"] (defScope slaw) := ⟨rfl, rfl, rfl, by decide +kernel, rfl, by decide +kernel, by decide +kernel⟩
section
variable {P : Program} {w : World} {K : PySem.W.Frag} {mg : Str → Option Value} {base : Heap}
theorem oklaw_bits (T : Top K mg "_law_bits" slaw_bits ["cell", "n"]) (nb : NB mg) : Cal0 P w K mg base "_law_bits" 1 ["cell", "n"] spBits := by
  obtain ⟨f, fd, F, hm, hb⟩ := T
  refine ⟨f, fd, F.ok sclaw_bits (fun vs H Q E h => ?_) (fun cdv A outer s H vs Q E hr h => ?_), hm, F.kp, hb⟩
  · obtain ⟨c, n, rfl, _⟩ := h
    rfl
  · obtain ⟨c, n, rfl, hn, q⟩ := h
    refine ⟨_, (pss_cons (ps_set (i := 2) sclaw_bits.nd rfl (Or.inl rfl) (pe_lst pa_nil))
      (pss_cons (ps_for PassesOwn.never rfl (pi_range1 (by rfl) nb.range (pa_cons (pv 1) pa_nil)) (pg_name (i := 3) sclaw_bits.nd rfl (Or.inl rfl)) (pss_cut (ps_if (pt_cmpR op_eq (pe_op op_mod (pv 0) pe_int) pe_int (nomark _)) (pss_one (ps_expr (pe_bm PySem.F.plainAttrs_list PySem.F.slot_list_append PySem.F.type_list_append mt_append (pv 2) (pa_cons (pv 3) pa_nil)))) pss_nil)
      (pss_one (ps_set (i := 0) sclaw_bits.nd rfl (Or.inl rfl) (pe_op op_fdivP (pv 0) pe_int)))))
      (pss_one (ps_ret (pv 2))))), ?_⟩
    refine q_asgL (el_lst ea_nil (by decide)) fun p H1 hp e1 h1 => ?_
    refine q_forR1 (ea_cons (ev_var rfl) ea_nil) ⟨by have := hn.1; omega, by have := hn.2; omega⟩ (fun i σ' H' => ∃ y3, σ' = [some (.int (halfN c i)), some (.int n), some (.ref p), y3] ∧ Ex H H' ∧ H' p = some (.lst ((bits c i).map V.int)))
      (fun H2 e2 => ⟨none, rfl, e1.trans e2, e2 _ _ h1⟩) ?_ ?_
    · rintro i σ' H' hi ⟨y3, rfl, e, h2⟩
      have hbl := bits_len c i
      have hlast : ∀ {H2 : Hp} {D : Ends}, (∀ H3, Ex H2 H3 → D.nx [some (.int (halfN c (i + 1))), some (.int n), some (.ref p), some (.int (i : Int))] H3) → tAsg (tOp (rI CDiv fun i j => .int (i / j)) (tVar 0) (tC (.int 2))) (gName 0) D [some (.int (halfN c i)), some (.int n), some (.ref p), some (.int (i : Int))] H2 :=
        fun {H2 D} k => s_asg (ev_div (ev_var rfl) ev_c (by decide) (by decide)) fun H3 e3 => k H3 e3
      refine q_cut (M := fun σ2 H2 => σ2 = [some (.int (halfN c i)), some (.int n), some (.ref p), some (.int (i : Int))] ∧ Ex H H2 ∧ H2 p = some (.lst ((bits c (i + 1)).map V.int))) ?_ ?_
      · refine s_when (et_eq (ev_mod (ev_var rfl) ev_c (by decide)) ev_c) (fun hb H2 e2 => ?_) (fun hb H2 e2 => ?_)
        · refine s_app (e2 _ _ h2) (ev_var rfl) (ev_var rfl) (by rw [List.length_map]; have := hn.2; omega) fun H3 e3 => ⟨rfl, Ex.mut ((e.trans e2).trans e3) hp, ?_⟩
          rw [upd_same, bits_succ, if_pos (of_decide_eq_true hb), List.map_append]
          rfl
        · refine ⟨rfl, e.trans e2, ?_⟩
          rw [bits_succ, if_neg (of_decide_eq_false hb), List.append_nil]
          exact e2 _ _ h2
      · rintro σ2 H2 ⟨rfl, e2, h2⟩
        exact hlast fun H3 e3 => ⟨_, rfl, e2.trans e3, e3 _ _ h2⟩
    · rintro σ' H' ⟨y3, rfl, e, h2⟩
      exact s_ret (ev_var rfl) fun H2 e2 => q p H2 hp (e.trans e2) (e2 _ _ h2)
theorem oklaw_cell_at (T : Top K mg "_law_cell_at" slaw_cell_at ["script", "k"]) (nb : NB mg) : Cal0 P w K mg base "_law_cell_at" 1 ["script", "k"] (spCell K) := by
  obtain ⟨f, fd, F, hm, hb⟩ := T
  refine ⟨f, fd, F.ok sclaw_cell_at (fun vs H Q E h => ?_) (fun cdv A outer s H vs Q E hr h => ?_), hm, F.kp, hb⟩
  · obtain ⟨a, cs, k, rfl, _⟩ := h
    rfl
  · obtain ⟨a, cs, k, rfl, hS, h0, q⟩ := h
    refine ⟨_, (pss_cons (ps_if (pt_cmpR op_lt (pv 1) (pe_callB (k_len K) (by rfl) nb.len (by decide +kernel) (pa_cons (pv 0) pa_nil)) (nomark _)) (pss_one (ps_ret (pe_ix (k_ixL K) (pv 0) (pv 1) (fun _ _ => rfl)))) pss_nil)
      (pss_one (ps_ret pe_int))), ?_⟩
    refine q_when (et_lt (ev_var rfl) (ev_lenL (ev_var rfl) hS)) (fun hb H1 e1 => ?_) (fun hb H1 e1 => ?_)
    · have hlt := of_decide_eq_true hb
      rw [List.length_map] at hlt
      exact s_ret (ev_itemL (ev_var rfl) (ev_var rfl) (ex_l e1 hS) (atI_map h0 hlt)) fun H2 e2 => q.go (e1.trans e2)
    · have hge := of_decide_eq_false hb
      rw [List.length_map] at hge
      have e : cell cs k = 0 := by
        unfold cell
        rw [List.getD_eq_getElem?_getD, List.getElem?_eq_none (by omega)]
        rfl
      rw [e] at q
      exact s_ret ev_c fun H2 e2 => q.go (e1.trans e2)
theorem oklaw_set (T : Top K mg "_law_set" slaw_set ["numbers", "n"]) (nb : NB mg) : Cal0 P w K mg base "_law_set" 1 ["numbers", "n"] (spLawSet K) := by
  obtain ⟨f, fd, F, hm, hb⟩ := T
  refine ⟨f, fd, F.ok sclaw_set (fun vs H Q E h => ?_) (fun cdv A outer s H vs Q E hr h => ?_), hm, F.kp, hb⟩
  · obtain ⟨a, xs, n, rfl, _⟩ := h
    rfl
  · obtain ⟨a, xs, n, rfl, hS, hl, hn, q⟩ := h
    refine ⟨_, (pss_one (ps_ret (pe_lc (own := [("rest", 2)]) (g := gName 2) rfl sclaw_set.nd (pi_range1 (by rfl) nb.range (pa_cons (pv 1) pa_nil)) (blkOk_by (by kernel_rfl)) (fun _ _ _ _ _ => pg_name (i := 2) sclaw_set.nd rfl (Or.inr rfl)) (fun _ _ _ _ _ => (pts_one (pt_cmpR op_gt (pe_callB (k_len K) (by rfl) nb.len (by decide +kernel) (pa_cons (pe_lc (own := [("one", 3)]) (g := gName 3) rfl sclaw_set.nd (k_list K (pv 0)) (blkOk_by (by kernel_rfl)) (fun _ _ _ _ _ => pg_name (i := 3) sclaw_set.nd rfl (Or.inl rfl)) (fun _ _ _ _ _ => (pts_one (pt_cmpR op_eq (pe_op op_mod (pe_op op_sub (pv 3) (pv 2)) (pv 1)) pe_int (nomark _)))) (fun _ _ _ _ _ => (pv 3))) pa_nil)) pe_int (nomark _)))) (fun _ _ _ _ _ => (pv 2))))), ?_⟩
    have hn0 : 0 < n := by have := hn.1; omega
    have en : ((n.toNat : Nat) : Int) = n := by omega
    have hgiv : given n.toNat (fun i => hasRest n xs (i : Int)) (fun i => V.int (i : Int)) = (rset n.toNat xs).map V.int := by
      unfold given rset
      rw [List.filter_map, List.map_map, en]
      rfl
    rw [← hgiv] at q
    refine s_retL (el_lcR1 _ _ (ea_cons (ev_var rfl) ea_nil) ⟨by omega, by have := hn.2; omega⟩ (fun x => rfl) (fun i H1 e1 hi => ?_) (fun i H1 e1 hi _ => ev_var rfl)) q
    have hc : ∀ b, b = hasRest n xs (i : Int) → decide ((0 : Int) < ((given (xs.map V.int).length (fun j => decide ((xs.getD j 0 - (i : Int)) % n = 0)) (fun j => V.int (xs.getD j 0))).length : Int)) = b := fun b hb => by
      rw [hb, List.length_map]
      exact given_pos xs (fun x => decide ((x - (i : Int)) % n = 0))
    refine et_is (et_gt (ev_lenNL (el_lcL (fun j => decide ((xs.getD j 0 - (i : Int)) % n = 0)) (fun j => V.int (xs.getD j 0)) (ev_var rfl) (ex_l e1 hS) (by rw [List.length_map]; omega) (fun x => rfl) (fun j x H2 e2 hx => ?_) (fun j x H2 e2 hx _ => ?_))) ev_c) (hc _ rfl)
    · obtain ⟨z, hz, rfl⟩ := int_at hx
      have ez : xs.getD j 0 = z := by
        rw [List.getD_eq_getElem?_getD, hz]
        rfl
      rw [ez]
      exact et_eq (ev_mod (ev_sub (ev_var rfl) (ev_var rfl)) (ev_var rfl) hn0) ev_c
    · obtain ⟨z, hz, rfl⟩ := int_at hx
      have ez : xs.getD j 0 = z := by
        rw [List.getD_eq_getElem?_getD, hz]
        rfl
      rw [ez]
      exact ev_var rfl
def spAgain (K : PySem.W.Frag) : Sp := fun vs H Q _ => ∃ (a : Addr) (xs : List Int) (n b : Int), vs = [.ref a, .int n, .int b] ∧ SqL K H a (xs.map V.int) ∧ xs.length ≤ 50 ∧ goodN n ∧ 1 ≤ b ∧ b ≤ n ∧ ∀ ys : List Int, (∀ x ∈ xs, x ∈ ys) → RetL ((rset n.toNat ys).map V.int) H Q
theorem oklaw_again (T : Top K mg "_law_again" slaw_again ["numbers", "n", "by"]) (nb : NB mg) (claw_set : Cal0 P w K mg base "_law_set" 1 ["numbers", "n"] (spLawSet K)) : Cal0 P w K mg base "_law_again" 2 ["numbers", "n", "by"] (spAgain K) := by
  obtain ⟨f, fd, F, hm, hb⟩ := T
  refine ⟨f, fd, F.ok sclaw_again (fun vs H Q E h => ?_) (fun cdv A outer s H vs Q E hr h => ?_), hm, F.kp, hb⟩
  · obtain ⟨a, xs, n, b, rfl, _⟩ := h
    rfl
  · obtain ⟨a, xs, n, b, rfl, hS, hl, hn, hb1, hb2, q⟩ := h
    refine ⟨_, (pss_cons (ps_set (i := 3) sclaw_again.nd rfl (Or.inl rfl) (pe_callTy (k_listof K) (by rfl) nb.list (by decide +kernel) (pa_cons (pv 0) pa_nil)))
      (pss_cons (ps_for PassesOwn.never rfl (pi_range2 (by rfl) nb.range (pa_cons pe_int (pa_cons (pe_op op_fdivP (pv 1) (pv 2)) pa_nil))) (pg_name (i := 4) sclaw_again.nd rfl (Or.inr rfl)) (pss_one (ps_set (i := 3) sclaw_again.nd rfl (Or.inl rfl) (pe_op op_cat (pv 3) (pe_lc (own := [("number", 5)]) (g := gName 5) (tt := tYes) rfl sclaw_again.nd (k_list K (pv 0)) (blkOk_by (by kernel_rfl)) (fun _ _ _ _ _ => pg_name (i := 5) sclaw_again.nd rfl (Or.inl rfl)) (fun _ _ _ _ _ => pts_nil) (fun _ _ _ _ _ => (pe_op op_mod (pe_op op_add (pv 5) (pe_op op_mul (pv 4) (pv 2))) (pv 1))))))))
      (pss_one (ps_ret (pe_cal claw_set (hr.mono (by decide)) pass0 (pa_cons (pv 3) (pa_cons (pv 1) pa_nil))))))), ?_⟩
    have hq0 : 0 ≤ n / b := Int.ediv_nonneg (by omega) (by omega)
    have hq1 : n / b ≤ 24 := Int.le_trans (Int.ediv_le_self _ (by omega)) hn.2
    have hn0 : 0 < n := by omega
    refine q_asgL (el_listL (ev_var rfl) hS) fun p H1 hp e1 h1 => ?_
    refine q_forR2 (ea_cons ev_c (ea_cons (ev_div (ev_var rfl) (ev_var rfl) (by omega) (by have := hn.2; omega)) ea_nil)) ⟨by decide, by decide, by omega, by omega⟩ (fun i σ' H' => ∃ (r : Addr) (ys : List Int) (y4 y5 : Option V), σ' = [some (.ref a), some (.int n), some (.int b), some (.ref r), y4, y5] ∧ Ex H H' ∧ H' r = some (.lst (ys.map V.int)) ∧ ys.length ≤ 50 * (i + 1) ∧ ∀ x ∈ xs, x ∈ ys)
      (fun H2 e2 => ⟨p, xs, none, none, rfl, e1.trans e2, e2 _ _ h1, by omega, fun _ h => h⟩) ?_ ?_
    · rintro i σ' H' hi ⟨r, ys, y4, y5, rfl, e, hr', hyl, hin⟩
      have hgiv : given (xs.map V.int).length (fun _ => true) (fun j => V.int ((xs.getD j 0 + (1 + (i : Int)) * b) % n)) = (xs.map fun x => (x + (1 + (i : Int)) * b) % n).map V.int := by
        rw [List.length_map]
        exact given_all xs fun x => (x + (1 + (i : Int)) * b) % n
      refine s_asgL (el_cat (xs := ys.map V.int) (ys := (xs.map fun x => (x + (1 + (i : Int)) * b) % n).map V.int) (ev_var rfl) hr' ?_ ?_) fun t H2 ht e2 h2 => ?_
      · rw [← hgiv]
        refine el_lcL _ _ (ev_var rfl) (ex_l e hS) (by rw [List.length_map]; omega) (fun x => rfl) (fun j x H3 e3 hx => et_yes) (fun j x H3 e3 hx _ => ?_)
        obtain ⟨z2, hz2, rfl⟩ := int_at hx
        have ez : xs.getD j 0 = z2 := by
          rw [List.getD_eq_getElem?_getD, hz2]
          rfl
        rw [ez]
        exact ev_mod (ev_add (ev_var rfl) (ev_mul (ev_var rfl) (ev_var rfl) (.inl ⟨by omega, by omega⟩))) (ev_var rfl) hn0
      · rw [List.length_map, List.length_map, List.length_map]
        omega
      · refine ⟨t, ys ++ xs.map fun x => (x + (1 + (i : Int)) * b) % n, _, _, rfl, e.trans e2, ?_, ?_, fun x hx => List.mem_append_left _ (hin x hx)⟩
        · rw [h2, List.map_append]
        · rw [List.length_append, List.length_map]
          omega
    · rintro σ' H' ⟨r, ys, y4, y5, rfl, e, hr', hyl, hin⟩
      have : ys.length ≤ 2000 := by
        have : (n / b - 1).toNat ≤ 24 := by omega
        omega
      exact s_retL (el_call (ea_cons (ev_var rfl) (ea_cons (ev_var rfl) ea_nil)) (spl_lawSet (sq_of hr') this hn)) fun t H2 ht e2 h2 => q ys hin t H2 (fresh_back e ht) (e.trans e2) h2
def spDrawn (K : PySem.W.Frag) : Sp := fun vs H Q _ => ∃ (a : Addr) (cs : List Int) (k n : Int), vs = [.ref a, .int k, .int n] ∧ SqL K H a (cs.map V.int) ∧ 0 ≤ k ∧ goodN n ∧ ∀ xs : List Int, xs ≠ [] → rset n.toNat xs = xs → RetL (xs.map V.int) H Q
theorem oklaw_drawn (T : Top K mg "_law_drawn" slaw_drawn ["script", "k", "n"]) (nb : NB mg) (claw_cell_at : Cal0 P w K mg base "_law_cell_at" 1 ["script", "k"] (spCell K)) (claw_bits : Cal0 P w K mg base "_law_bits" 1 ["cell", "n"] spBits)
    (claw_again : Cal0 P w K mg base "_law_again" 2 ["numbers", "n", "by"] (spAgain K)) : Cal0 P w K mg base "_law_drawn" 3 ["script", "k", "n"] (spDrawn K) := by
  obtain ⟨f, fd, F, hm, hb⟩ := T
  refine ⟨f, fd, F.ok sclaw_drawn (fun vs H Q E h => ?_) (fun cdv A outer s H vs Q E hr h => ?_), hm, F.kp, hb⟩
  · obtain ⟨a, cs, k, n, rfl, _⟩ := h
    rfl
  · obtain ⟨a, cs, k, n, rfl, hS, hk, hn, q⟩ := h
    refine ⟨_, (pss_cons (ps_set (i := 3) sclaw_drawn.nd rfl (Or.inl rfl) (pe_cal claw_bits (hr.mono (by decide)) pass0 (pa_cons (pe_cal claw_cell_at (hr.mono (by decide)) pass0 (pa_cons (pv 0) (pa_cons (pe_op op_add pe_int (pv 1)) pa_nil))) (pa_cons (pv 2) pa_nil))))
      (pss_cut (ps_if (pt_cmpR (k_eqD K hr.units) (pv 3) (pe_lst pa_nil) (nomark _)) (pss_one (ps_set (i := 3) sclaw_drawn.nd rfl (Or.inl rfl) (pe_lst (pa_cons (pe_op op_mod (pe_op op_fdivP (pe_cal claw_cell_at (hr.mono (by decide)) pass0 (pa_cons (pv 0) (pa_cons (pe_op op_add pe_int (pv 1)) pa_nil))) pe_int) (pv 2)) pa_nil)))) pss_nil)
      (pss_cons (ps_set (i := 4) sclaw_drawn.nd rfl (Or.inl rfl) (pe_cal claw_cell_at (hr.mono (by decide)) pass0 (pa_cons (pv 0) (pa_cons (pe_op op_add pe_int (pv 1)) pa_nil))))
      (pss_cut (ps_if (pt_cmpR op_eq (pe_op op_mod (pv 4) pe_int) pe_int (nomark _)) (pss_cons (ps_setLc (i := 5) (own := [("one", 6)]) (g := gName 6) rfl sclaw_drawn.nd rfl rfl (sw_true rfl rfl rfl (by decide +kernel)) (pi_range2 (by rfl) nb.range (pa_cons pe_int (pa_cons (pe_op op_add (pv 2) pe_int) pa_nil))) (blkOk_by (by kernel_rfl)) (fun _ _ _ _ _ => pg_name (i := 6) sclaw_drawn.nd rfl (Or.inl rfl)) (fun _ _ _ _ _ => (pts_one (pt_cmpR op_eq (pe_op op_mod (pv 2) (pv 6)) pe_int (nomark _)))) (fun _ _ _ _ _ => (pv 6)))
      (pss_one (ps_set (i := 3) sclaw_drawn.nd rfl (Or.inl rfl) (pe_cal claw_again (hr.mono (by decide)) pass0 (pa_cons (pv 3) (pa_cons (pv 2) (pa_cons (pe_ix (k_ixL K) (pv 5) (pe_op op_mod (pe_op op_fdivP (pv 4) pe_int) (pe_callB (k_len K) (by rfl) nb.len (by decide +kernel) (pa_cons (pv 5) pa_nil))) (fun _ _ => rfl)) pa_nil))))))) pss_nil)
      (pss_one (ps_ret (pv 3))))))), ?_⟩
    have hn0 : 0 < n := by have := hn.1; omega
    have hn24 : n.toNat ≤ 24 := by have := hn.2; omega
    have en : ((n.toNat : Nat) : Int) = n := by omega
    refine q_asgL (el_call (ea_cons (ev_cell hS (Ex.refl H) (ev_var rfl) (ev_add ev_c (ev_var rfl)) (by omega)) (ea_cons (ev_var rfl) ea_nil)) (spl_bits hn)) fun p H1 hp e1 h1 => ?_
    have hb2 := bits_len (cell cs (1 + k)) n.toNat
    have hbs := Kn.bits_set (cell cs (1 + k)) n.toNat
    generalize bits (cell cs (1 + k)) n.toNat = xs0 at h1 hb2 hbs
    refine q_cut (M := fun σ' H' => ∃ (p : Addr) (xs : List Int), σ' = [some (.ref a), some (.int k), some (.int n), some (.ref p), none, none, none] ∧ Ex H H' ∧ H' p = some (.lst (xs.map V.int)) ∧ H p = none ∧ xs ≠ [] ∧ rset n.toNat xs = xs) ?_ ?_
    · refine s_when (b := decide (xs0 = [])) (et_test (ev_opL (ev_var rfl) (el_lst ea_nil (by decide)) fun r H2 h2 e2 => rv_eqL (ms := []) (sq_of (e2 _ _ h1)) (sq_of h2))) (fun hb H2 e2 => ?_) (fun hb H2 e2 => ⟨p, xs0, rfl, e1.trans e2, e2 _ _ h1, hp, of_decide_eq_false hb, hbs⟩)
      refine s_asgL (xs := [V.int (cell cs (1 + k) / 16777216 % n)]) (el_lst (ea_cons (ev_mod (ev_div (ev_cell hS (e1.trans e2) (ev_var rfl) (ev_add ev_c (ev_var rfl)) (by omega)) ev_c (by decide) (by decide)) (ev_var rfl) hn0) ea_nil) (by show (1 : Nat) ≤ 100000; decide)) fun r H3 hr' e3 h3 => ⟨r, [cell cs (1 + k) / 16777216 % n], rfl, (e1.trans e2).trans e3, h3, fresh_back (e1.trans e2) hr', by simp, ?_⟩
      refine Kn.set_self (List.pairwise_singleton _ _) fun x hx => ?_
      rw [List.mem_singleton] at hx
      rw [hx, en]
      exact ⟨Int.emod_nonneg _ (by omega), Int.emod_lt_of_pos _ hn0⟩
    rintro σ' H2 ⟨p, xs, rfl, e2, h2, hpn, hne, hset⟩
    have hxl : xs.length ≤ 24 := by
      rw [← hset]
      exact Nat.le_trans (rset_len _ _) hn24
    refine q_asg (ev_cell hS e2 (ev_var rfl) (ev_add ev_c (ev_var rfl)) (by omega)) fun H3 e3 => ?_
    have h3 := e3 _ _ h2
    have e3 := e2.trans e3
    generalize cell cs (3 + k) = way
    refine q_cut (M := fun σ' H' => ∃ (p : Addr) (xs : List Int) (y5 : Option V), σ' = [some (.ref a), some (.int k), some (.int n), some (.ref p), some (.int way), y5, none] ∧ Ex H H' ∧ H' p = some (.lst (xs.map V.int)) ∧ H p = none ∧ xs ≠ [] ∧ rset n.toNat xs = xs) ?_ ?_
    · refine s_when (et_eq (ev_mod (ev_var rfl) ev_c (by decide)) ev_c) (fun _ H4 e4 => ?_) (fun _ H4 e4 => ⟨p, xs, none, rfl, e3.trans e4, e4 _ _ h3, hpn, hne, hset⟩)
      · refine q_asgL (el_lcR2 (fun i => decide (n % (1 + (i : Int)) = 0)) (fun i => V.int (1 + (i : Int))) (ea_cons ev_c (ea_cons (ev_add (ev_var rfl) ev_c) ea_nil)) ⟨by decide, by decide, by omega, by have := hn.2; omega⟩ (fun x => rfl)
          (fun i H5 e5 hi => et_eq (ev_mod (ev_var rfl) (ev_var rfl) (by omega)) ev_c) (fun i H5 e5 hi _ => ev_var rfl)) fun p4 H5 n4 e5 h5 => ?_
        have hpos : 0 < (given (n + 1 - 1).toNat (fun i => decide (n % (1 + (i : Int)) = 0)) (fun i => V.int (1 + (i : Int)))).length := by
          refine List.length_pos_of_mem (a := V.int 1) ?_
          unfold given
          exact List.mem_map.mpr ⟨0, List.mem_filter.mpr ⟨List.mem_range.mpr (by omega), decide_eq_true (Int.emod_one n)⟩, rfl⟩
        have hup := given_len (n + 1 - 1).toNat (fun i => decide (n % (1 + (i : Int)) = 0)) (fun i => V.int (1 + (i : Int)))
        have hmem := fun (j : Nat) (x : V) => @given_mem (n + 1 - 1).toNat (fun i => decide (n % (1 + (i : Int)) = 0)) (fun i => V.int (1 + (i : Int))) j x
        generalize given (n + 1 - 1).toNat (fun i => decide (n % (1 + (i : Int)) = 0)) (fun i => V.int (1 + (i : Int))) = ds at h5 hpos hup hmem
        have hj0 := Int.emod_nonneg (way / 2) (show (ds.length : Int) ≠ 0 by omega)
        have hj1 := Int.emod_lt_of_pos (way / 2) (show (0 : Int) < ds.length by omega)
        obtain ⟨j, hj, ej⟩ : ∃ j : Nat, j < ds.length ∧ way / 2 % (ds.length : Int) = (j : Int) := ⟨(way / 2 % (ds.length : Int)).toNat, by omega, by omega⟩
        obtain ⟨i, hi, hf, hx⟩ := hmem j ds[j] (List.getElem?_eq_getElem hj)
        have hat : atI ds (j : Int) = some (.int (1 + (i : Int))) := by
          rw [← hx]
          exact atI_nat (List.getElem?_eq_getElem hj)
        refine q_callS (ea_cons (ev_var rfl) (ea_cons (ev_var rfl) (ea_cons (ev_itemL (ev_var rfl) (ev_int (ev_mod (ev_div (ev_var rfl) ev_c (by decide) (by decide)) (ev_lenL (ev_var rfl) (sq_of h5)) (by omega)) ej) (sq_of h5) hat) ea_nil))) fun H6 e6 => ?_
        refine ⟨p, xs, n, 1 + (i : Int), rfl, sq_of (e6 _ _ (e5 _ _ (e4 _ _ h3))), by omega, hn, by omega, by omega, fun ys hys t H7 ht e7 h7 => ?_⟩
        have hyne : ys ≠ [] := fun z => by
          obtain ⟨x, hx⟩ := List.exists_mem_of_ne_nil xs hne
          have := hys x hx
          rw [z] at this
          exact absurd this (by simp)
        exact ⟨t, _, _, rfl, (((e3.trans e4).trans e5).trans e6).trans e7, h7, fresh_back (((e3.trans e4).trans e5).trans e6) ht, Kn.rset_ne (by omega) hyne, rset_idem (by omega) _⟩
    rintro σ' H4 ⟨p, xs, y5, rfl, e4, h4, hpn, hne, hset⟩
    exact s_ret (ev_var rfl) fun H5 e5 => q xs hne hset p H5 hpn (e4.trans e5) (e5 _ _ h4)
theorem oksee_round {C : Addr} {u : Value} (T : Top K mg "see_round" ssee_round ["n"]) (cGREATEST : Cst mg "GREATEST" (.int 24) u) (xBadRound : Exc K mg "BadRound" C) : CalE P w K mg base "see_round" 1 ["n"] (spSee C) := by
  obtain ⟨f, fd, F, hm, hb⟩ := T
  refine ⟨f, fd, F.okX scsee_round (fun vs H Q E h => ?_) (fun cdv A outer s H vs Q E hr h => ?_), hm, F.kp, hb⟩
  · obtain ⟨n, rfl, _⟩ := h
    rfl
  · obtain ⟨n, rfl, q, qE⟩ := h
    refine ⟨_, (pss_one (ps_if (PW.pt (pw_or (pt_cmpR op_lt (pv 0) pe_int (nomark _)) (pw_or1 (pt_cmpR op_gt (pv 0) (pe_glob (by rfl) cGREATEST.gm cGREATEST.rel) (nomark _))))) (pss_one (ps_raise rfl (takes_of rfl rfl rfl rfl) (pmk_own PySem.F.excBase_ValueError xBadRound.x xBadRound.gC xBadRound.k (raises_own xBadRound.b xBadRound.t) rfl))) pss_nil)), ?_⟩
    refine s_when (et_or (et_lt (ev_var rfl) ev_c) fun _ => et_gt (ev_var rfl) ev_c) (fun hb H1 e1 => ?_) (fun hb H1 e1 => ?_)
    · refine qE (fun g => ?_) H1 e1
      unfold goodN at g
      rw [Bool.or_eq_true, decide_eq_true_eq, decide_eq_true_eq] at hb
      omega
    · refine q ?_ H1 e1
      rw [Bool.or_eq_false_iff, decide_eq_false_iff_not, decide_eq_false_iff_not] at hb
      unfold goodN
      omega
theorem okrests {C : Addr} (T : Top K mg "rests" srests ["numbers", "n"]) (nb : NB mg) (csee_round : CalE P w K mg base "see_round" 1 ["n"] (spSee C)) : CalE P w K mg base "rests" 2 ["numbers", "n"] (spRests K C) := by
  obtain ⟨f, fd, F, hm, hb⟩ := T
  refine ⟨f, fd, F.okX scrests (fun vs H Q E h => ?_) (fun cdv A outer s H vs Q E hr h => ?_), hm, F.kp, hb⟩
  · obtain ⟨a, xs, n, rfl, _⟩ := h
    rfl
  · obtain ⟨a, xs, n, rfl, hS, hl, q, qE⟩ := h
    refine ⟨_, (pss_cons (ps_expr (pe_cal csee_round (hr.mono (by decide)) (passes_call (takes_of rfl rfl rfl rfl) (fun _ _ _ _ h => h)) (pa_cons (pv 1) pa_nil)))
      (PSs.nox (pss_one (ps_ret (pe_callB (k_sortedSet w) (by rfl) nb.sorted (by decide +kernel) (pa_cons (pe_callTy (k_set K w) (by rfl) nb.set (by decide +kernel) (pa_cons (pe_lc (own := [("number", 2)]) (g := gName 2) (tt := tYes) rfl scrests.nd (k_list K (pv 0)) (blkOk_by (by kernel_rfl)) (fun _ _ _ _ _ => pg_name (i := 2) scrests.nd rfl (Or.inl rfl)) (fun _ _ _ _ _ => pts_nil) (fun _ _ _ _ _ => (pe_op op_mod (pv 2) (pv 1)))) pa_nil)) pa_nil)))))), ?_⟩
    refine q_see (K := K) (ev_var rfl) (fun hn H1 e1 => ?_) (fun hn => qE hn)
    have hn0 : 0 < n := by have := hn.1; omega
    have hmod : ∀ k, k ∈ rset n.toNat xs ↔ k ∈ xs.map (· % n) := fun k => by
      have en : ((n.toNat : Nat) : Int) = n := by omega
      rw [mem_rset, List.mem_map, en]
      constructor
      · rintro ⟨h0, h1, x, hx, e⟩
        refine ⟨x, hx, ?_⟩
        have := Int.emod_emod_of_dvd x (Int.dvd_refl n)
        rw [← Int.emod_eq_of_lt h0 h1]
        exact Int.emod_eq_emod_iff_emod_sub_eq_zero.mpr e
      · rintro ⟨x, hx, rfl⟩
        refine ⟨Int.emod_nonneg _ (by omega), Int.emod_lt_of_pos _ hn0, x, hx, ?_⟩
        exact Int.emod_eq_emod_iff_emod_sub_eq_zero.mp (Int.emod_emod_of_dvd x (Int.dvd_refl n)).symm
    have hgiv : given (xs.map V.int).length (fun _ => true) (fun i => V.int (xs.getD i 0 % n)) = (xs.map (· % n)).map V.int := by
      rw [List.length_map]
      exact given_all xs (· % n)
    refine s_retL (SrSet.el_sortedSet (ns := xs.map (· % n)) (b := 24) ?_ (by rw [List.length_map]; exact hl) (by decide) (fun k hk => ?_) (rset_rises n.toNat xs) hmod) ?_
    · rw [← hgiv]
      refine el_lcL _ _ (ev_var rfl) (ex_l e1 hS) (by rw [List.length_map]; omega) (fun x => rfl) (fun i x H3 e3 hx => et_yes) (fun i x H3 e3 hx _ => ?_)
      obtain ⟨z, hz, rfl⟩ := int_at hx
      have ez : xs.getD i 0 = z := by
        rw [List.getD_eq_getElem?_getD, hz]
        rfl
      rw [ez]
      exact ev_mod (ev_var rfl) (ev_var rfl) hn0
    · obtain ⟨x, hx, rfl⟩ := List.mem_map.mp hk
      exact ⟨Int.emod_nonneg _ (by omega), Int.lt_of_lt_of_le (Int.emod_lt_of_pos _ hn0) hn.2⟩
    · exact fun p H2 hp e2 h2 => q hn p H2 (fresh_back e1 hp) (e1.trans e2) h2
theorem oksums {C : Addr} (T : Top K mg "sums" ssums ["one", "other", "n"]) (crests : CalE P w K mg base "rests" 2 ["numbers", "n"] (spRests K C)) : CalE P w K mg base "sums" 3 ["one", "other", "n"] (spSums K C) := by
  obtain ⟨f, fd, F, hm, hb⟩ := T
  refine ⟨f, fd, F.okX scsums (fun vs H Q E h => ?_) (fun cdv A outer s H vs Q E hr h => ?_), hm, F.kp, hb⟩
  · obtain ⟨a, b, xs, ys, n, rfl, _⟩ := h
    rfl
  · obtain ⟨a, b, xs, ys, n, rfl, hS, hT, hl, hl2, q, qE⟩ := h
    refine ⟨_, (pss_cons (ps_set (i := 3) scsums.nd rfl (Or.inl rfl) (pe_cal crests (hr.mono (by decide)) (passes_call (takes_of rfl rfl rfl rfl) (fun _ _ _ _ h => h)) (pa_cons (pv 0) (pa_cons (pv 2) pa_nil))))
      (PSs.nox (pss_cons (ps_set (i := 4) scsums.nd rfl (Or.inl rfl) (pe_cal crests (hr.mono (by decide)) passL (pa_cons (pv 1) (pa_cons (pv 2) pa_nil))))
      (pss_cons (ps_set (i := 5) scsums.nd rfl (Or.inl rfl) (pe_lst pa_nil))
      (pss_cons (ps_for PassesOwn.never rfl (k_list K (pv 3)) (pg_name (i := 6) scsums.nd rfl (Or.inl rfl)) (pss_one (ps_for PassesOwn.never rfl (k_list K (pv 4)) (pg_name (i := 7) scsums.nd rfl (Or.inl rfl)) (pss_one (ps_expr (pe_bm PySem.F.plainAttrs_list PySem.F.slot_list_append PySem.F.type_list_append mt_append (pv 5) (pa_cons (pe_op op_add (pv 6) (pv 7)) pa_nil)))))))
      (pss_one (ps_ret (pe_cal crests (hr.mono (by decide)) passL (pa_cons (pv 5) (pa_cons (pv 2) pa_nil)))))))))), ?_⟩
    refine q_rests (K := K) (ev_var rfl) (ev_var rfl) hS hl (fun hn p3 H1 n3 e1 h3 => ?_) (fun hn => qE hn)
    have hA := rset_len n.toNat xs
    have hB := rset_len n.toNat ys
    have hP := pairs_le (n := n.toNat) (by have := hn.2; omega) xs ys
    have h24 : n.toNat ≤ 24 := by have := hn.2; omega
    refine q_asgL (el_call (ea_cons (ev_var rfl) (ea_cons (ev_var rfl) ea_nil)) (spl_rests (ex_l e1 hT) hl2 hn)) fun p4 H2 n4 e2 h4 => ?_
    refine q_asgL (el_lst ea_nil (by decide)) fun p5 H3 n5 e3 h5 => ?_
    have E3 := (e1.trans e2).trans e3
    have hfin : ∀ (i : Nat) (A B : List Int) (x : Int), A[i]? = some x → ((A.take (i + 1)).flatMap fun a => B.map fun b => a + b) = ((A.take i).flatMap fun a => B.map fun b => a + b) ++ B.map fun b => x + b := fun i A B x hx => by
      rw [List.take_add_one, hx, List.flatMap_append]
      show _ ++ (List.flatMap _ [x]) = _
      rw [List.flatMap_cons, List.flatMap_nil, List.append_nil]
    generalize hAA : rset n.toNat xs = AA at h3 hA hP
    generalize hBB : rset n.toNat ys = BB at h4 hB hP
    refine q_forLn (ev_var rfl) (sq_of (e3 _ _ (e2 _ _ h3))) (fun i σ' H' => ∃ y6 y7, σ' = [some (.ref a), some (.ref b), some (.int n), some (.ref p3), some (.ref p4), some (.ref p5), y6, y7] ∧ Ex H2 H' ∧ H' p5 = some (.lst ((pairs (AA.take i) BB).map V.int)))
      (fun H4 e4 => ⟨none, none, rfl, e3.trans e4, e4 _ _ h5⟩) (fun i σ' H' _ h => by
        obtain ⟨_, _, _, e, _⟩ := h
        exact sq_of (e _ _ (e2 _ _ h3))) ?_ ?_
    · rintro i x σ' H' hx ⟨y6, y7, rfl, e, h5'⟩
      obtain ⟨z, hz, rfl⟩ := int_at hx
      have hil := (List.getElem?_eq_some_iff.mp hz).1
      refine s_forLn (ev_var rfl) (sq_of (e _ _ h4)) (fun j σ' H' => ∃ y7, σ' = [some (.ref a), some (.ref b), some (.int n), some (.ref p3), some (.ref p4), some (.ref p5), some (.int z), y7] ∧ Ex H2 H' ∧ H' p5 = some (.lst ((pairs (AA.take i) BB ++ (BB.take j).map fun b => z + b).map V.int)))
        (fun H4 e4 => ⟨y7, rfl, e.trans e4, by rw [List.take_zero, List.map_nil, List.append_nil]; exact e4 _ _ h5'⟩) (fun i σ' H' _ h => by
          obtain ⟨_, _, e, _⟩ := h
          exact sq_of (e _ _ h4)) ?_ ?_
      · rintro j x σ' H' hx ⟨y7, rfl, e, h5'⟩
        obtain ⟨z2, hz2, rfl⟩ := int_at hx
        refine s_app h5' (ev_var rfl) (ev_add (ev_var rfl) (ev_var rfl)) ?_ fun H4 e4 => ?_
        · rw [List.length_map, List.length_append, pairs_len, List.length_map, List.length_take, List.length_take]
          have : min i AA.length * BB.length ≤ 24 * 24 := Nat.mul_le_mul (by omega) (by omega)
          omega
        · refine ⟨_, rfl, Ex.mut (e.trans e4) n5, ?_⟩
          rw [upd_same, List.take_add_one, hz2, List.map_append (l₁ := BB.take j), ← List.append_assoc, List.map_append (f := V.int) (l₁ := pairs (AA.take i) BB ++ _)]
          rfl
      · rintro σ' H' ⟨y7, rfl, e, h5'⟩
        refine ⟨_, _, rfl, e, ?_⟩
        rw [List.length_map, List.take_length] at h5'
        unfold pairs
        rw [hfin i AA BB z hz]
        exact h5'
    · rintro σ' H' ⟨y6, y7, rfl, e, h5'⟩
      rw [List.length_map, List.take_length] at h5'
      refine s_retL (el_call (ea_cons (ev_var rfl) (ea_cons (ev_var rfl) ea_nil)) (spl_rests (sq_of h5') (by omega) hn)) fun p H4 hp e4 h4' => ?_
      have EE := (e1.trans e2).trans e
      refine q hn p H4 (fresh_back EE hp) (EE.trans e4) ?_
      unfold ssum
      rw [hAA, hBB]
      exact h4'
theorem okshifted {C : Addr} (T : Top K mg "shifted" sshifted ["numbers", "by", "n"]) (csee_round : CalE P w K mg base "see_round" 1 ["n"] (spSee C)) (crests : CalE P w K mg base "rests" 2 ["numbers", "n"] (spRests K C)) : CalE P w K mg base "shifted" 3 ["numbers", "by", "n"] (spShifted K C) := by
  obtain ⟨f, fd, F, hm, hb⟩ := T
  refine ⟨f, fd, F.okX scshifted (fun vs H Q E h => ?_) (fun cdv A outer s H vs Q E hr h => ?_), hm, F.kp, hb⟩
  · obtain ⟨a, xs, b, n, rfl, _⟩ := h
    rfl
  · obtain ⟨a, xs, b, n, rfl, hS, hl, q, qE⟩ := h
    refine ⟨_, (pss_cons (ps_expr (pe_cal csee_round (hr.mono (by decide)) (passes_call (takes_of rfl rfl rfl rfl) (fun _ _ _ _ h => h)) (pa_cons (pv 2) pa_nil)))
      (PSs.nox (pss_one (ps_ret (pe_cal crests (hr.mono (by decide)) passL (pa_cons (pe_lc (own := [("number", 3)]) (g := gName 3) (tt := tYes) rfl scshifted.nd (k_list K (pv 0)) (blkOk_by (by kernel_rfl)) (fun _ _ _ _ _ => pg_name (i := 3) scshifted.nd rfl (Or.inl rfl)) (fun _ _ _ _ _ => pts_nil) (fun _ _ _ _ _ => (pe_op op_add (pe_op op_mod (pv 3) (pv 2)) (pv 1)))) (pa_cons (pv 2) pa_nil))))))), ?_⟩
    refine q_see (K := K) (ev_var rfl) (fun hn H1 e1 => ?_) (fun hn => qE hn)
    have hn0 : 0 < n := by have := hn.1; omega
    have en : ((n.toNat : Nat) : Int) = n := by omega
    have hgiv : given (xs.map V.int).length (fun _ => true) (fun i => V.int (xs.getD i 0 % n + b)) = (xs.map fun x => x % n + b).map V.int := by
      rw [List.length_map]
      exact given_all xs fun x => x % n + b
    refine s_retL (el_callL (xs := (xs.map fun x => x % n + b).map V.int) ?_ (ev_var rfl) fun p H2 e2 h2 => spl_rests (sq_of h2) (by rw [List.length_map]; exact hl) hn) fun p H2 hp e2 h2 => ?_
    · rw [← hgiv]
      refine el_lcL _ _ (ev_var rfl) (ex_l e1 hS) (by rw [List.length_map]; omega) (fun x => rfl) (fun i x H3 e3 hx => et_yes) (fun i x H3 e3 hx _ => ?_)
      obtain ⟨z, hz, rfl⟩ := int_at hx
      have ez : xs.getD i 0 = z := by
        rw [List.getD_eq_getElem?_getD, hz]
        rfl
      rw [ez]
      exact ev_add (ev_mod (ev_var rfl) (ev_var rfl) hn0) (ev_var rfl)
    · refine q hn p H2 (fresh_back e1 hp) (e1.trans e2) ?_
      have g := shift_mod n.toNat (by omega) xs b
      rw [en] at g
      rw [← g]
      exact h2
theorem okstays {C : Addr} (T : Top K mg "stays" sstays ["numbers", "n"]) (nb : NB mg) (crests : CalE P w K mg base "rests" 2 ["numbers", "n"] (spRests K C)) (cshifted : CalE P w K mg base "shifted" 3 ["numbers", "by", "n"] (spShifted K C)) : CalE P w K mg base "stays" 4 ["numbers", "n"] (spStays K C) := by
  obtain ⟨f, fd, F, hm, hb⟩ := T
  refine ⟨f, fd, F.okX scstays (fun vs H Q E h => ?_) (fun cdv A outer s H vs Q E hr h => ?_), hm, F.kp, hb⟩
  · obtain ⟨a, xs, n, rfl, _⟩ := h
    rfl
  · obtain ⟨a, xs, n, rfl, hS, hl, q, qE⟩ := h
    refine ⟨_, (pss_cons (ps_set (i := 2) scstays.nd rfl (Or.inr rfl) (pe_cal crests (hr.mono (by decide)) (passes_call (takes_of rfl rfl rfl rfl) (fun _ _ _ _ h => h)) (pa_cons (pv 0) (pa_cons (pv 1) pa_nil))))
      (PSs.nox (pss_one (ps_ret (pe_lc (own := [("by", 3)]) (g := gName 3) rfl scstays.nd (pi_range1 (by rfl) nb.range (pa_cons (pv 1) pa_nil)) (blkOk_by (by kernel_rfl)) (fun _ _ _ _ _ => pg_name (i := 3) scstays.nd rfl (Or.inl rfl)) (fun _ _ _ _ _ => (pts_one (pt_cmpR (k_eqD K hr.units) (pe_cal cshifted (hr.mono (by decide)) passL (pa_cons (pv 2) (pa_cons (pv 3) (pa_cons (pv 1) pa_nil)))) (pv 2) (nomark _)))) (fun _ _ _ _ _ => (pv 3))))))), ?_⟩
    refine q_rests (K := K) (ev_var rfl) (ev_var rfl) hS hl (fun hn p H1 hp e1 h1 => ?_) (fun hn => qE hn)
    have hA := rset_len n.toNat xs
    have h24 : n.toNat ≤ 24 := by have := hn.2; omega
    have en : ((n.toNat : Nat) : Int) = n := by have := hn.1; omega
    have hgiv : given n.toNat (fun i => decide (sshift n.toNat (rset n.toNat xs) (i : Int) = rset n.toNat xs)) (fun i => V.int (i : Int)) = (stayL n.toNat xs).map V.int := by
      unfold given stayL
      rw [List.filter_map, List.map_map]
      rfl
    have q' := q hn
    rw [← hgiv] at q'
    refine s_retL (el_lcR1 _ _ (ea_cons (ev_var rfl) ea_nil) ⟨by have := hn.1; omega, by omega⟩ (fun x => rfl) (fun i H2 e2 hi => ?_) (fun i H2 e2 hi _ => ev_var rfl)) fun r H2 hr' e2 h2 => q' r H2 (fresh_back e1 hr') (e1.trans e2) h2
    have hp2 := e2 _ _ h1
    exact et_test (ev_opL1 (el_call (ea_cons (ev_var rfl) (ea_cons (ev_var rfl) (ea_cons (ev_var rfl) ea_nil))) (spl_shifted (sq_of hp2) (by omega) hn)) (fun _ _ => ev_var rfl) fun r H3 h3 e3 => rv_eqL (sq_of h3) (sq_of (e3 _ _ hp2)))
theorem oklaw_whole (T : Top K mg "_law_whole" slaw_whole ["found"]) (nb : NB mg) : Cal0 P w K mg base "_law_whole" 1 ["found"] spWhole := by
  obtain ⟨f, fd, F, hm, hb⟩ := T
  refine ⟨f, fd, F.ok sclaw_whole (fun vs H Q E h => ?_) (fun cdv A outer s H vs Q E hr h => ?_), hm, F.kp, hb⟩
  · obtain ⟨x, rfl, _⟩ := h
    rfl
  · obtain ⟨x, rfl, ⟨i, rfl⟩, q⟩ := h
    refine ⟨_, (pss_one (ps_ret (pe_and (pe_callB (k_isi K) (by rfl) nb.isinstance (by decide +kernel) (pa_cons (pv 0) (pa_cons (pe_bltn (v := .ty "int") (by rfl) nb.int (by decide +kernel) rfl) pa_nil))) (pe_one (pe_not (pe_callB (k_isi K) (by rfl) nb.isinstance (by decide +kernel) (pa_cons (pv 0) (pa_cons (pe_bltn (v := .ty "bool") (by rfl) nb.bool (by decide +kernel) rfl) pa_nil)))))))), ?_⟩
    exact s_ret (ev_andV (a := true) (b := true) (ev_isi (ev_var rfl) ev_c (ty_int i) (by decide +kernel)) fun _ =>
      ev_notV (a := false) (ev_isi (ev_var rfl) ev_c (ty_int i) (by decide +kernel))) fun H2 e2 => q.go e2
def spIsRests : Sp := fun vs H Q _ => ∃ (a : Addr) (xs : List Int) (n : Int), vs = [.ref a, .int n] ∧ H a = some (.lst (xs.map V.int)) ∧ xs.length ≤ 1000 ∧ xs.Nodup ∧ (∀ x ∈ xs, 0 ≤ x ∧ x < n) ∧ RetV (.bl true) H Q
theorem spv_isRests {H : Hp} {a : Addr} {xs ys : List Int} {n : Int} (h : H a = some (.lst (xs.map V.int))) (hn : goodN n) (e : xs = rset n.toNat ys) : SpV spIsRests [.ref a, .int n] H (.bl true) := fun H1 e1 Q q E =>
  ⟨a, xs, n, rfl, e1 _ _ h, by rw [e]; have := rset_len n.toNat ys; have := hn.2; omega, by rw [e]; exact Kn.rset_nodup _ _, fun x hx => by
    rw [e] at hx
    obtain ⟨h0, h1, _⟩ := mem_rset.mp hx
    have := hn.1
    exact ⟨h0, by omega⟩, fun H2 e2 => q H2 e2⟩
theorem oklaw_is_rests (T : Top K mg "_law_is_rests" slaw_is_rests ["found", "n"]) (nb : NB mg) (claw_whole : Cal0 P w K mg base "_law_whole" 1 ["found"] spWhole) : Cal0 P w K mg base "_law_is_rests" 2 ["found", "n"] spIsRests := by
  obtain ⟨f, fd, F, hm, hb⟩ := T
  refine ⟨f, fd, F.ok sclaw_is_rests (fun vs H Q E h => ?_) (fun cdv A outer s H vs Q E hr h => ?_), hm, F.kp, hb⟩
  · obtain ⟨a, xs, n, rfl, _⟩ := h
    rfl
  · obtain ⟨a, xs, n, rfl, ha, hl, hnd, hbd, q⟩ := h
    refine ⟨_, (pss_cons (ps_if (pt_not (pt_val (pe_callB (k_isi K) (by rfl) nb.isinstance (by decide +kernel) (pa_cons (pv 0) (pa_cons (pe_bltn (v := .ty "list") (by rfl) nb.list (by decide +kernel) rfl) pa_nil))))) (pss_one (ps_ret pe_bl)) pss_nil)
      (pss_cons (ps_for PassesOwn.never rfl (k_list K (pv 0)) (pg_name (i := 2) sclaw_is_rests.nd rfl (Or.inl rfl)) (pss_one (ps_if (PW.pt (pw_or (pt_not (pt_val (pe_cal claw_whole (hr.mono (by decide)) pass0 (pa_cons (pv 2) pa_nil)))) (pw_or (pt_cmpR op_lt (pv 2) pe_int (nomark _)) (pw_or1 (pt_cmpR op_ge (pv 2) (pv 1) (nomark _)))))) (pss_one (ps_ret pe_bl)) pss_nil)))
      (pss_one (ps_ret (pe_cmpR op_eq (RZ.pe_lenSetI (by rfl) nb.len (by rfl) nb.set (pv 0)) (pe_callB (k_len K) (by rfl) nb.len (by decide +kernel) (pa_cons (pv 0) pa_nil)) (nomark _)))))), ?_⟩
    refine q_when (b := false) (et_not (a := true) (et_B (ev_isi (K := K) (ev_var rfl) ev_c (ty_lst ha) (by decide +kernel)))) (fun hb => nomatch hb) fun _ H1 e1 => ?_
    refine q_forLn (ev_var rfl) (sq_of (e1 _ _ ha)) (fun i σ' H' => ∃ y2, σ' = [some (.ref a), some (.int n), y2] ∧ Ex H H') (fun H2 e2 => ⟨none, rfl, e1.trans e2⟩) (fun i σ' H' _ h => by
      obtain ⟨_, _, e⟩ := h
      exact sq_of (e _ _ ha)) ?_ ?_
    · rintro i x σ' H' hx ⟨y2, rfl, e⟩
      obtain ⟨z, hz, rfl⟩ := int_at hx
      obtain ⟨z0, z1⟩ := hbd z (List.mem_of_getElem? hz)
      refine s_when (b := false) (et_or (a := false) (et_not (a := true) (et_B (ev_call (ea_cons (ev_var rfl) ea_nil) spv_whole))) fun _ => et_or (a := false) (et_is (et_lt (ev_var rfl) ev_c) (decide_eq_false (by omega))) fun _ => et_is (et_ge (ev_var rfl) (ev_var rfl)) (decide_eq_false (by omega))) (fun hb => nomatch hb) fun _ H2 e2 => ?_
      exact ⟨_, rfl, e.trans e2⟩
    · rintro σ' H' ⟨y2, rfl, e⟩
      refine s_ret (v := .bl true) (ev_is (ev_eqI (ev_lenSet (K := K) (ev_var rfl) (sq_of (e _ _ ha)) hnd (by omega)) (ev_lenL (ev_var rfl) (sq_of (e _ _ ha)))) ?_) fun H2 e2 => q.go (e.trans e2)
      rw [List.length_map, decide_eq_true rfl]
theorem oklaw_is_set (T : Top K mg "_law_is_set" slaw_is_set ["found", "due"]) (nb : NB mg) (claw_whole : Cal0 P w K mg base "_law_whole" 1 ["found"] spWhole) : Cal0 P w K mg base "_law_is_set" 2 ["found", "due"] (spIsSet K) := by
  obtain ⟨f, fd, F, hm, hb⟩ := T
  refine ⟨f, fd, F.ok sclaw_is_set (fun vs H Q E h => ?_) (fun cdv A outer s H vs Q E hr h => ?_), hm, F.kp, hb⟩
  · obtain ⟨a, b, xs, ys, rfl, _⟩ := h
    rfl
  · obtain ⟨a, b, xs, ys, rfl, ha, hS, q⟩ := h
    refine ⟨_, (pss_cons (ps_if (pt_not (pt_val (pe_callB (k_isi K) (by rfl) nb.isinstance (by decide +kernel) (pa_cons (pv 0) (pa_cons (pe_bltn (v := .ty "list") (by rfl) nb.list (by decide +kernel) rfl) pa_nil))))) (pss_one (ps_ret pe_bl)) pss_nil)
      (pss_cons (ps_for PassesOwn.never rfl (k_list K (pv 0)) (pg_name (i := 2) sclaw_is_set.nd rfl (Or.inl rfl)) (pss_one (ps_if (pt_not (pt_val (pe_cal claw_whole (hr.mono (by decide)) pass0 (pa_cons (pv 2) pa_nil)))) (pss_one (ps_ret pe_bl)) pss_nil)))
      (pss_one (ps_ret (pe_cmpR (k_eqD K hr.units) (pv 0) (pv 1) (nomark _)))))), ?_⟩
    refine q_when (b := false) (et_not (a := true) (et_B (ev_isi (ev_var rfl) ev_c (ty_lst ha) (by decide +kernel)))) (fun hb => nomatch hb) fun _ H1 e1 => ?_
    refine q_forLn (ev_var rfl) (sq_of (e1 _ _ ha)) (fun i σ' H' => ∃ y2, σ' = [some (.ref a), some (.ref b), y2] ∧ Ex H H') (fun H2 e2 => ⟨none, rfl, e1.trans e2⟩) (fun i σ' H' _ h => by
      obtain ⟨_, _, e⟩ := h
      exact sq_of (e _ _ ha)) ?_ ?_
    · rintro i x σ' H' hx ⟨y2, rfl, e⟩
      obtain ⟨z, hz, rfl⟩ := int_at hx
      refine s_when (b := false) (et_not (a := true) (et_B (ev_call (ea_cons (ev_var rfl) ea_nil) spv_whole))) (fun hb => nomatch hb) fun _ H2 e2 => ?_
      exact ⟨_, rfl, e.trans e2⟩
    · rintro σ' H' ⟨y2, rfl, e⟩
      exact s_ret (ev_op (ev_var rfl) (ev_var rfl) (rv_eqL (sq_of (e _ _ ha)) (ex_l e hS))) fun H2 e2 => q.go (e.trans e2)
theorem oklaw {C : Addr} {f : Addr} {fd : FuncData} (F : Fun K "law" "law" slaw f fd) (nb : NB mg) (claw_cell_at : Cal0 P w K mg base "_law_cell_at" 1 ["script", "k"] (spCell K)) (claw_drawn : Cal0 P w K mg base "_law_drawn" 3 ["script", "k", "n"] (spDrawn K))
    (csums : CalE P w K mg base "sums" 3 ["one", "other", "n"] (spSums K C)) (cstays : CalE P w K mg base "stays" 4 ["numbers", "n"] (spStays K C)) (claw_is_rests : Cal0 P w K mg base "_law_is_rests" 2 ["found", "n"] spIsRests)
    (claw_is_set : Cal0 P w K mg base "_law_is_set" 2 ["found", "due"] (spIsSet K)) : FnOk P w K mg base CX0 5 f fd ["script"] (spLaw K) := by
  refine F.ok sclaw (fun vs H Q E h => ?_) (fun cdv A outer s H vs Q E hr h => ?_)
  · obtain ⟨a, ns, rfl, _⟩ := h
    rfl
  · obtain ⟨a, ns, rfl, hS, hlen, q⟩ := h
    refine ⟨_, (pss_cons (ps_set (i := 1) sclaw.nd rfl (Or.inr rfl) (pe_op op_add pe_int (pe_op op_mod (pe_cal claw_cell_at (hr.mono (by decide)) pass0 (pa_cons (pv 0) (pa_cons pe_int pa_nil))) pe_int)))
      (pss_cons (ps_set (i := 2) sclaw.nd rfl (Or.inl rfl) (pe_cal claw_drawn (hr.mono (by decide)) pass0 (pa_cons (pv 0) (pa_cons pe_int (pa_cons (pv 1) pa_nil)))))
      (pss_cons (ps_set (i := 3) sclaw.nd rfl (Or.inl rfl) (pe_cal claw_drawn (hr.mono (by decide)) pass0 (pa_cons (pv 0) (pa_cons pe_int (pa_cons (pv 1) pa_nil)))))
      (pss_cons (ps_set (i := 4) sclaw.nd rfl (Or.inl rfl) (pe_cal csums (hr.mono (by decide)) passL (pa_cons (pe_callTy (k_listof K) (by rfl) nb.list (by decide +kernel) (pa_cons (pv 2) pa_nil)) (pa_cons (pe_callTy (k_listof K) (by rfl) nb.list (by decide +kernel) (pa_cons (pv 3) pa_nil)) (pa_cons (pv 1) pa_nil)))))
      (pss_cons (ps_if (pt_not (pt_val (pe_cal claw_is_rests (hr.mono (by decide)) pass0 (pa_cons (pv 4) (pa_cons (pv 1) pa_nil))))) (pss_one (ps_ret pe_bl)) pss_nil)
      (pss_cons (ps_set (i := 5) sclaw.nd rfl (Or.inl rfl) (pe_cal cstays (hr.mono (by decide)) passL (pa_cons (pe_callTy (k_listof K) (by rfl) nb.list (by decide +kernel) (pa_cons (pv 4) pa_nil)) (pa_cons (pv 1) pa_nil))))
      (pss_cons (ps_set (i := 6) sclaw.nd rfl (Or.inl rfl) (pe_cal csums (hr.mono (by decide)) passL (pa_cons (pe_callTy (k_listof K) (by rfl) nb.list (by decide +kernel) (pa_cons (pv 2) pa_nil)) (pa_cons (pe_callTy (k_listof K) (by rfl) nb.list (by decide +kernel) (pa_cons (pv 5) pa_nil)) (pa_cons (pv 1) pa_nil)))))
      (pss_cons (ps_set (i := 7) sclaw.nd rfl (Or.inl rfl) (pe_cal csums (hr.mono (by decide)) passL (pa_cons (pe_callTy (k_listof K) (by rfl) nb.list (by decide +kernel) (pa_cons (pv 3) pa_nil)) (pa_cons (pe_callTy (k_listof K) (by rfl) nb.list (by decide +kernel) (pa_cons (pv 5) pa_nil)) (pa_cons (pv 1) pa_nil)))))
      (pss_cons (ps_if (PW.pt (pw_or (pt_not (pt_val (pe_cal claw_is_rests (hr.mono (by decide)) pass0 (pa_cons (pv 5) (pa_cons (pv 1) pa_nil))))) (pw_or (pt_not (pt_val (pe_cal claw_is_rests (hr.mono (by decide)) pass0 (pa_cons (pv 6) (pa_cons (pv 1) pa_nil))))) (pw_or1 (pt_not (pt_val (pe_cal claw_is_rests (hr.mono (by decide)) pass0 (pa_cons (pv 7) (pa_cons (pv 1) pa_nil))))))))) (pss_one (ps_ret pe_bl)) pss_nil)
      (pss_cons (ps_if (PW.pt (pw_or (pt_not (pt_val (pe_cal claw_is_set (hr.mono (by decide)) pass0 (pa_cons (pe_cal csums (hr.mono (by decide)) passL (pa_cons (pe_callTy (k_listof K) (by rfl) nb.list (by decide +kernel) (pa_cons (pv 4) pa_nil)) (pa_cons (pe_callTy (k_listof K) (by rfl) nb.list (by decide +kernel) (pa_cons (pv 5) pa_nil)) (pa_cons (pv 1) pa_nil)))) (pa_cons (pv 4) pa_nil))))) (pw_or1 (pt_cmpR (k_notIn K) pe_int (pv 5) (by with_unfolding_all rfl))))) (pss_one (ps_ret pe_bl)) pss_nil)
      (pss_cons (ps_if (pt_cmpR op_lt (pe_callB (k_len K) (by rfl) nb.len (by decide +kernel) (pa_cons (pv 4) pa_nil)) (pe_op op_sub (pe_op op_add (pe_callB (k_len K) (by rfl) nb.len (by decide +kernel) (pa_cons (pv 6) pa_nil)) (pe_callB (k_len K) (by rfl) nb.len (by decide +kernel) (pa_cons (pv 7) pa_nil))) (pe_callB (k_len K) (by rfl) nb.len (by decide +kernel) (pa_cons (pv 5) pa_nil))) (nomark _)) (pss_one (ps_ret pe_bl)) pss_nil)
      (pss_cons (ps_set (i := 8) sclaw.nd rfl (Or.inl rfl) (pe_and (pe_cmpR op_gt (pv 1) pe_int (nomark _)) (pe_one (pe_cmpR op_eq (pe_callB (k_len K) (by rfl) nb.len (by decide +kernel) (pa_cons (pe_lc (own := [("k", 9)]) (g := gName 9) rfl sclaw.nd (pi_range2 (by rfl) nb.range (pa_cons pe_int (pa_cons (pv 1) pa_nil))) (blkOk_by (by kernel_rfl)) (fun _ _ _ _ _ => pg_name (i := 9) sclaw.nd rfl (Or.inl rfl)) (fun _ _ _ _ _ => (pts_one (pt_cmpR op_eq (pe_op op_mod (pv 1) (pv 9)) pe_int (nomark _)))) (fun _ _ _ _ _ => (pv 9))) pa_nil)) pe_int (nomark _)))))
      (pss_one (ps_ret (pe_or (pe_not (pv 8)) (pe_one (pe_cmpR op_ge (pe_callB (k_len K) (by rfl) nb.len (by decide +kernel) (pa_cons (pv 4) pa_nil)) (pe_callB (call_min2 rfl) (by rfl) nb.min (by decide +kernel) (pa_cons (pv 1) (pa_cons (pe_op op_sub (pe_op op_add (pe_callB (k_len K) (by rfl) nb.len (by decide +kernel) (pa_cons (pv 2) pa_nil)) (pe_callB (k_len K) (by rfl) nb.len (by decide +kernel) (pa_cons (pv 3) pa_nil))) pe_int) pa_nil))) (nomark _)))))))))))))))))), ?_⟩
    refine q_asg (ev_add ev_c (ev_mod (ev_cell hS (Ex.refl H) (ev_var rfl) ev_c (by decide)) ev_c (by decide))) fun H1 e1 => ?_
    have hn := goodN_of (cell ns 0)
    generalize 1 + cell ns 0 % 24 = n at hn ⊢
    have hn0 : 0 < n := by have := hn.1; omega
    have hN : 0 < n.toNat := by omega
    have en : ((n.toNat : Nat) : Int) = n := by omega
    have hn24 : n.toNat ≤ 24 := by have := hn.2; omega
    have len24 : ∀ {xs : List Int}, rset n.toNat xs = xs → xs.length ≤ 24 := fun {xs} h => by
      rw [← h]
      exact Nat.le_trans (rset_len _ _) hn24
    refine q_call (ea_cons (ev_var rfl) (ea_cons ev_c (ea_cons (ev_var rfl) ea_nil))) fun H2 e2 => ⟨a, ns, 0, n, rfl, ex_l (e1.trans e2) hS, by decide, hn, fun xs xne xset p2 H3 n3 e3 h3 => ?_⟩
    have e3 := (e1.trans e2).trans e3
    refine q_call (ea_cons (ev_var rfl) (ea_cons ev_c (ea_cons (ev_var rfl) ea_nil))) fun H4 e4 => ⟨a, ns, 1, n, rfl, ex_l (e3.trans e4) hS, by decide, hn, fun ys yne yset p3 H5 n5 e5 h5 => ?_⟩
    have h35 := e5 _ _ (e4 _ _ h3)
    have hxl := len24 xset
    have hyl := len24 yset
    -- s
    refine q_asgL (el_call3 (el_listL (ev_var rfl) (sq_of h35)) (el_listL (ev_var rfl) (sq_of h5)) (ev_var rfl) fun b c H6 e6 hb hc => spl_sums (sq_of hb) (sq_of hc) (by omega) (by omega) hn) fun p4 H6 n6 e6 h6 => ?_
    have hss := Kn.ssum_set hN xs ys
    have hsl := len24 hss
    have k1 := Kn.kneser_lists hN xne yne
    have k2 := Kn.sum_stays hN _ hss
    have k3 := Kn.zero_stays hN (ssum n.toNat xs ys)
    have k4 : (ssum n.toNat xs ys) = rset n.toNat (pairs (rset n.toNat xs) (rset n.toNat ys)) := rfl
    have k5 := fun (hp : 1 < n.toNat) (hk : ∀ k : Int, 2 ≤ k → k < n.toNat → (n.toNat : Int) % k ≠ 0) => Kn.prime_lists hp hk xne yne xset yset
    generalize hSS : ssum n.toNat xs ys = S at h6 hss hsl k1 k2 k3 k4 k5
    refine q_when (b := false) (et_not (a := true) (et_B (ev_call (ea_cons (ev_var rfl) (ea_cons (ev_var rfl) ea_nil)) (spv_isRests h6 hn k4)))) (fun hb => nomatch hb) fun _ H7 e7 => ?_
    have h67 := e7 _ _ h6
    -- h
    refine q_asgL (el_callL (el_listL (ev_var rfl) (sq_of h67)) (ev_var rfl) fun b H8 e8 hb => spl_stays (sq_of hb) (by omega) hn) fun p5 H8 n8 e8 h8 => ?_
    have hts : rset n.toNat (stayL n.toNat S) = stayL n.toNat S := Kn.set_self (Kn.stayL_rises _ _) fun x hx => by
      obtain ⟨h0, h1, _⟩ := (Kn.mem_stayL hN).mp hx
      exact ⟨h0, h1⟩
    generalize hTT : stayL n.toNat S = T' at h8 k1 k2 k3 hts
    have htl := len24 hts
    have h38 := e8 _ _ (e7 _ _ (e6 _ _ h35))
    have h58 := e8 _ _ (e7 _ _ (e6 _ _ h5))
    -- left, right
    refine q_asgL (el_call3 (el_listL (ev_var rfl) (sq_of h38)) (el_listL (ev_var rfl) (sq_of h8)) (ev_var rfl) fun b c H9 e9 hb hc => spl_sums (sq_of hb) (sq_of hc) (by omega) (by omega) hn) fun p6 H9 n9 e9 h9 => ?_
    refine q_asgL (el_call3 (el_listL (ev_var rfl) (sq_of (e9 _ _ h58))) (el_listL (ev_var rfl) (sq_of (e9 _ _ h8))) (ev_var rfl) fun b c H10 e10 hb hc => spl_sums (sq_of hb) (sq_of hc) (by omega) (by omega) hn) fun p7 H10 n10 e10 h10 => ?_
    have h8' := e10 _ _ (e9 _ _ h8)
    have h9' := e10 _ _ h9
    refine q_when (b := false) (et_or (a := false) (et_not (a := true) (et_B (ev_call (ea_cons (ev_var rfl) (ea_cons (ev_var rfl) ea_nil)) (spv_isRests h8' hn hts.symm)))) fun _ =>
      et_or (a := false) (et_not (a := true) (et_B (ev_call (ea_cons (ev_var rfl) (ea_cons (ev_var rfl) ea_nil)) (spv_isRests h9' hn rfl)))) fun _ => et_not (a := true) (et_B (ev_call (ea_cons (ev_var rfl) (ea_cons (ev_var rfl) ea_nil)) (spv_isRests h10 hn rfl)))) (fun hb => nomatch hb) fun _ H11 e11 => ?_
    have h6' := e11 _ _ (e10 _ _ (e9 _ _ (e8 _ _ h67)))
    have h8' := e11 _ _ h8'
    have h9' := e11 _ _ h9'
    have h10' := e11 _ _ h10
    refine q_when (b := false) (et_or (a := false) (et_not (a := true) (et_B (ev_callL1 (el_call3 (el_listL (ev_var rfl) (sq_of h6')) (el_listL (ev_var rfl) (sq_of h8')) (ev_var rfl) fun b c H12 e12 hb hc => spl_sums (sq_of hb) (sq_of hc) (by omega) (by omega) hn) (ev_var rfl) fun b H12 e12 hb => ?_))) fun _ =>
      et_is (et_op ev_c (ev_var rfl) (rv_niL (sq_of h8') rfl (flat_ints _))) (by rw [inV_int, decide_eq_true k3]; rfl)) (fun hb => nomatch hb) fun _ H12 e12 => ?_
    · have g := spv_isSet (K := K) hb (sq_of (e12 _ _ h6'))
      rw [k2, decide_eq_true rfl] at g
      exact g
    have h6' := e12 _ _ h6'
    have h8' := e12 _ _ h8'
    have h9' := e12 _ _ h9'
    have h10' := e12 _ _ h10'
    refine q_when (b := false) (et_is (et_lt (ev_lenL (ev_var rfl) (sq_of h6')) (ev_sub (ev_add (ev_lenL (ev_var rfl) (sq_of h9')) (ev_lenL (ev_var rfl) (sq_of h10'))) (ev_lenL (ev_var rfl) (sq_of h8')))) (decide_eq_false (by
      rw [List.length_map, List.length_map, List.length_map, List.length_map]
      omega))) (fun hb => nomatch hb) fun _ H13 e13 => ?_
    have h6' := e13 _ _ h6'
    have h3' := e13 _ _ (e12 _ _ (e11 _ _ (e10 _ _ (e9 _ _ h38))))
    have h5' := e13 _ _ (e12 _ _ (e11 _ _ (e10 _ _ (e9 _ _ h58))))
    -- a prime
    refine q_asg (ev_andV (ev_op (ev_var rfl) ev_c rv_I0) fun _ => ev_eqI (ev_lenNL (el_lcR2 (fun i => decide (n % (2 + (i : Int)) = 0)) (fun i => V.int (2 + (i : Int))) (ea_cons ev_c (ea_cons (ev_var rfl) ea_nil)) ⟨by decide, by decide, by omega, by have := hn.2; omega⟩ (fun x => rfl)
        (fun i H5 e5 hi => et_eq (ev_mod (ev_var rfl) (ev_var rfl) (by omega)) ev_c) (fun i H5 e5 hi _ => ev_var rfl))) ev_c) fun H14 e14 => ?_
    obtain ⟨b, hbv⟩ : ∃ b : Bool, b = (decide (1 < n) && decide (((given (n - 2).toNat (fun i => decide (n % (2 + (i : Int)) = 0)) (fun i => V.int (2 + (i : Int)))).length : Int) = 0)) := ⟨_, rfl⟩
    rw [← hbv]
    refine s_ret (v := .bl true) (ev_is (ev_orV (a := !b) (b := decide ((if ((xs.map V.int).length : Int) + ((ys.map V.int).length : Int) - 1 < n then ((xs.map V.int).length : Int) + ((ys.map V.int).length : Int) - 1 else n) ≤ ((S.map V.int).length : Int))) (ev_notV (ev_var rfl)) fun _ =>
      ev_op (ev_lenL (ev_var rfl) (sq_of (e14 _ _ h6'))) (ev_min (ev_var rfl) (ev_sub (ev_add (ev_lenL (ev_var rfl) (sq_of (e14 _ _ h3'))) (ev_lenL (ev_var rfl) (sq_of (e14 _ _ h5')))) ev_c)) rv_I0) ?_) fun H15 e15 => q H15
    cases b with
    | false => rfl
    | true =>
      have hb2 := hbv.symm
      rw [Bool.and_eq_true, decide_eq_true_eq, decide_eq_true_eq] at hb2
      obtain ⟨p1, p2⟩ := hb2
      have g := k5 (by omega) fun k k0 k1 hk => by
        rw [en] at hk
        have hm : V.int k ∈ given (n - 2).toNat (fun i => decide (n % (2 + (i : Int)) = 0)) (fun i => V.int (2 + (i : Int))) := by
          unfold given
          refine List.mem_map.mpr ⟨(k - 2).toNat, List.mem_filter.mpr ⟨List.mem_range.mpr (by omega), ?_⟩, ?_⟩
          · rw [show (2 : Int) + (((k - 2).toNat : Nat) : Int) = k by omega]
            exact decide_eq_true hk
          · rw [show (2 : Int) + (((k - 2).toNat : Nat) : Int) = k by omega]
        have := List.length_pos_of_mem hm
        omega
      rw [List.length_map, List.length_map, List.length_map]
      refine congrArg V.bl (decide_eq_true ?_)
      split <;> omega
end
theorem all_mk {l : PySem.W.OpenLaw} {w : World} {K : PySem.W.Frag} {h : Heap} {mg : Str → Option Value} {fa : Addr} {f1 f2 f3 f4 f5 f6 f7 f8 f9 f10 f11 f12 f13 f14 CBadRound : Addr} (X : K.In h) (G : h.Ns mainGlobals mg) (hfa : mg "law" = some (.ref fa))
    {od1 an1 : Option Addr} {sl1 : Array (Option Value)} {oc1 kV1 dc1 pm1 cd1 ct1 : Value}
    (a1 : PySem.W.nsIn K mainGlobals "_law_bits" = some (some (.ref f1))) (l1 : K.lookup f1 = some ⟨oc1, od1, .func (PySem.W.fnOf "_law_bits" "_law_bits" (defArgs slaw_bits) (defBody slaw_bits) (defScope slaw_bits) .none kV1 dc1 pm1 an1 cd1 ct1), sl1⟩) (c1 : PySem.W.codeIn K cd1 "_law_bits" = true) (k1 : PySem.W.keepIn K (.ref f1) = true)
    {od2 an2 : Option Addr} {sl2 : Array (Option Value)} {oc2 kV2 dc2 pm2 cd2 ct2 : Value}
    (a2 : PySem.W.nsIn K mainGlobals "_law_cell_at" = some (some (.ref f2))) (l2 : K.lookup f2 = some ⟨oc2, od2, .func (PySem.W.fnOf "_law_cell_at" "_law_cell_at" (defArgs slaw_cell_at) (defBody slaw_cell_at) (defScope slaw_cell_at) .none kV2 dc2 pm2 an2 cd2 ct2), sl2⟩) (c2 : PySem.W.codeIn K cd2 "_law_cell_at" = true) (k2 : PySem.W.keepIn K (.ref f2) = true)
    {od3 an3 : Option Addr} {sl3 : Array (Option Value)} {oc3 kV3 dc3 pm3 cd3 ct3 : Value}
    (a3 : PySem.W.nsIn K mainGlobals "_law_set" = some (some (.ref f3))) (l3 : K.lookup f3 = some ⟨oc3, od3, .func (PySem.W.fnOf "_law_set" "_law_set" (defArgs slaw_set) (defBody slaw_set) (defScope slaw_set) .none kV3 dc3 pm3 an3 cd3 ct3), sl3⟩) (c3 : PySem.W.codeIn K cd3 "_law_set" = true) (k3 : PySem.W.keepIn K (.ref f3) = true)
    {od4 an4 : Option Addr} {sl4 : Array (Option Value)} {oc4 kV4 dc4 pm4 cd4 ct4 : Value}
    (a4 : PySem.W.nsIn K mainGlobals "_law_again" = some (some (.ref f4))) (l4 : K.lookup f4 = some ⟨oc4, od4, .func (PySem.W.fnOf "_law_again" "_law_again" (defArgs slaw_again) (defBody slaw_again) (defScope slaw_again) .none kV4 dc4 pm4 an4 cd4 ct4), sl4⟩) (c4 : PySem.W.codeIn K cd4 "_law_again" = true) (k4 : PySem.W.keepIn K (.ref f4) = true)
    {od5 an5 : Option Addr} {sl5 : Array (Option Value)} {oc5 kV5 dc5 pm5 cd5 ct5 : Value}
    (a5 : PySem.W.nsIn K mainGlobals "_law_drawn" = some (some (.ref f5))) (l5 : K.lookup f5 = some ⟨oc5, od5, .func (PySem.W.fnOf "_law_drawn" "_law_drawn" (defArgs slaw_drawn) (defBody slaw_drawn) (defScope slaw_drawn) .none kV5 dc5 pm5 an5 cd5 ct5), sl5⟩) (c5 : PySem.W.codeIn K cd5 "_law_drawn" = true) (k5 : PySem.W.keepIn K (.ref f5) = true)
    {od6 an6 : Option Addr} {sl6 : Array (Option Value)} {oc6 kV6 dc6 pm6 cd6 ct6 : Value}
    (a6 : PySem.W.nsIn K mainGlobals "see_round" = some (some (.ref f6))) (l6 : K.lookup f6 = some ⟨oc6, od6, .func (PySem.W.fnOf "see_round" "see_round" (defArgs ssee_round) (defBody ssee_round) (defScope ssee_round) .none kV6 dc6 pm6 an6 cd6 ct6), sl6⟩) (c6 : PySem.W.codeIn K cd6 "see_round" = true) (k6 : PySem.W.keepIn K (.ref f6) = true)
    {od7 an7 : Option Addr} {sl7 : Array (Option Value)} {oc7 kV7 dc7 pm7 cd7 ct7 : Value}
    (a7 : PySem.W.nsIn K mainGlobals "rests" = some (some (.ref f7))) (l7 : K.lookup f7 = some ⟨oc7, od7, .func (PySem.W.fnOf "rests" "rests" (defArgs srests) (defBody srests) (defScope srests) .none kV7 dc7 pm7 an7 cd7 ct7), sl7⟩) (c7 : PySem.W.codeIn K cd7 "rests" = true) (k7 : PySem.W.keepIn K (.ref f7) = true)
    {od8 an8 : Option Addr} {sl8 : Array (Option Value)} {oc8 kV8 dc8 pm8 cd8 ct8 : Value}
    (a8 : PySem.W.nsIn K mainGlobals "sums" = some (some (.ref f8))) (l8 : K.lookup f8 = some ⟨oc8, od8, .func (PySem.W.fnOf "sums" "sums" (defArgs ssums) (defBody ssums) (defScope ssums) .none kV8 dc8 pm8 an8 cd8 ct8), sl8⟩) (c8 : PySem.W.codeIn K cd8 "sums" = true) (k8 : PySem.W.keepIn K (.ref f8) = true)
    {od9 an9 : Option Addr} {sl9 : Array (Option Value)} {oc9 kV9 dc9 pm9 cd9 ct9 : Value}
    (a9 : PySem.W.nsIn K mainGlobals "shifted" = some (some (.ref f9))) (l9 : K.lookup f9 = some ⟨oc9, od9, .func (PySem.W.fnOf "shifted" "shifted" (defArgs sshifted) (defBody sshifted) (defScope sshifted) .none kV9 dc9 pm9 an9 cd9 ct9), sl9⟩) (c9 : PySem.W.codeIn K cd9 "shifted" = true) (k9 : PySem.W.keepIn K (.ref f9) = true)
    {od10 an10 : Option Addr} {sl10 : Array (Option Value)} {oc10 kV10 dc10 pm10 cd10 ct10 : Value}
    (a10 : PySem.W.nsIn K mainGlobals "stays" = some (some (.ref f10))) (l10 : K.lookup f10 = some ⟨oc10, od10, .func (PySem.W.fnOf "stays" "stays" (defArgs sstays) (defBody sstays) (defScope sstays) .none kV10 dc10 pm10 an10 cd10 ct10), sl10⟩) (c10 : PySem.W.codeIn K cd10 "stays" = true) (k10 : PySem.W.keepIn K (.ref f10) = true)
    {od11 an11 : Option Addr} {sl11 : Array (Option Value)} {oc11 kV11 dc11 pm11 cd11 ct11 : Value}
    (a11 : PySem.W.nsIn K mainGlobals "_law_whole" = some (some (.ref f11))) (l11 : K.lookup f11 = some ⟨oc11, od11, .func (PySem.W.fnOf "_law_whole" "_law_whole" (defArgs slaw_whole) (defBody slaw_whole) (defScope slaw_whole) .none kV11 dc11 pm11 an11 cd11 ct11), sl11⟩) (c11 : PySem.W.codeIn K cd11 "_law_whole" = true) (k11 : PySem.W.keepIn K (.ref f11) = true)
    {od12 an12 : Option Addr} {sl12 : Array (Option Value)} {oc12 kV12 dc12 pm12 cd12 ct12 : Value}
    (a12 : PySem.W.nsIn K mainGlobals "_law_is_rests" = some (some (.ref f12))) (l12 : K.lookup f12 = some ⟨oc12, od12, .func (PySem.W.fnOf "_law_is_rests" "_law_is_rests" (defArgs slaw_is_rests) (defBody slaw_is_rests) (defScope slaw_is_rests) .none kV12 dc12 pm12 an12 cd12 ct12), sl12⟩) (c12 : PySem.W.codeIn K cd12 "_law_is_rests" = true) (k12 : PySem.W.keepIn K (.ref f12) = true)
    {od13 an13 : Option Addr} {sl13 : Array (Option Value)} {oc13 kV13 dc13 pm13 cd13 ct13 : Value}
    (a13 : PySem.W.nsIn K mainGlobals "_law_is_set" = some (some (.ref f13))) (l13 : K.lookup f13 = some ⟨oc13, od13, .func (PySem.W.fnOf "_law_is_set" "_law_is_set" (defArgs slaw_is_set) (defBody slaw_is_set) (defScope slaw_is_set) .none kV13 dc13 pm13 an13 cd13 ct13), sl13⟩) (c13 : PySem.W.codeIn K cd13 "_law_is_set" = true) (k13 : PySem.W.keepIn K (.ref f13) = true)
    {od14 an14 : Option Addr} {sl14 : Array (Option Value)} {oc14 kV14 dc14 pm14 cd14 ct14 : Value}
    (a14 : PySem.W.nsIn K mainGlobals "law" = some (some (.ref f14))) (l14 : K.lookup f14 = some ⟨oc14, od14, .func (PySem.W.fnOf "law" "law" (defArgs slaw) (defBody slaw) (defScope slaw) .none kV14 dc14 pm14 an14 cd14 ct14), sl14⟩) (c14 : PySem.W.codeIn K cd14 "law" = true) (k14 : PySem.W.keepIn K (.ref f14) = true)
    (z1 : PySem.W.nsIn K mainGlobals "len" = some none)
    (z2 : PySem.W.nsIn K mainGlobals "range" = some none)
    (z3 : PySem.W.nsIn K mainGlobals "sorted" = some none)
    (z4 : PySem.W.nsIn K mainGlobals "set" = some none)
    (z5 : PySem.W.nsIn K mainGlobals "list" = some none)
    (z6 : PySem.W.nsIn K mainGlobals "dict" = some none)
    (z7 : PySem.W.nsIn K mainGlobals "sum" = some none)
    (z8 : PySem.W.nsIn K mainGlobals "min" = some none)
    (z9 : PySem.W.nsIn K mainGlobals "max" = some none)
    (z10 : PySem.W.nsIn K mainGlobals "abs" = some none)
    (z11 : PySem.W.nsIn K mainGlobals "isinstance" = some none)
    (z12 : PySem.W.nsIn K mainGlobals "str" = some none)
    (z13 : PySem.W.nsIn K mainGlobals "int" = some none)
    (z14 : PySem.W.nsIn K mainGlobals "bool" = some none)
    (z15 : PySem.W.nsIn K mainGlobals "tuple" = some none)
    {tGREATEST : Tok} (gGREATEST : PySem.W.nsIn K mainGlobals "GREATEST" = some (some (Value.int 24 tGREATEST)))
    (gBadRound : PySem.W.nsIn K mainGlobals "BadRound" = some (some (.ref CBadRound))) (xBadRound : PySem.W.excIn K CBadRound [.type "ValueError", .type "Exception", .type "BaseException", .type "object"] "ValueError.__new__" = true) (yBadRound : PySem.W.keepIn K (.ref CBadRound) = true) (bBadRound : PySem.W.subIn K (.ref CBadRound) (.type "BaseException") = some true) (tBadRound : PySem.W.typeIn K (.ref CBadRound) = some (.type "type"))
    : ∃ fd : FuncData, (∀ (s : Shared) (v : Value), BindsTo s fd ⟨[v], []⟩ [("script", v)]) ∧ ∀ base : Heap, K.In base → base.Ns mainGlobals mg → FnOk l.prog w K mg base CX0 5 fa fd ["script"] (spLaw K) := by
  have e := hfa.symm.trans (PySem.W.mg_of X G a14)
  cases e
  have nb : NB mg := ⟨PySem.W.mg_none_of X G z1, PySem.W.mg_none_of X G z2, PySem.W.mg_none_of X G z3, PySem.W.mg_none_of X G z4, PySem.W.mg_none_of X G z5, PySem.W.mg_none_of X G z6, PySem.W.mg_none_of X G z7, PySem.W.mg_none_of X G z8, PySem.W.mg_none_of X G z9, PySem.W.mg_none_of X G z10, PySem.W.mg_none_of X G z11, PySem.W.mg_none_of X G z12, PySem.W.mg_none_of X G z13, PySem.W.mg_none_of X G z14, PySem.W.mg_none_of X G z15⟩
  have cGREATEST : Cst mg "GREATEST" (.int 24) (Value.int 24 tGREATEST) := ⟨PySem.W.mg_of X G gGREATEST, ⟨_, rfl⟩⟩
  have xBadRound : Exc K mg "BadRound" CBadRound := ⟨PySem.W.mg_of X G gBadRound, xBadRound, yBadRound, bBadRound, tBadRound⟩
  have F1 := fun_mk (st := slaw_bits) l1 c1 k1
  have Tlaw_bits : Top K mg "_law_bits" slaw_bits ["cell", "n"] := ⟨_, _, F1, PySem.W.mg_of X G a1, F1.binds fun _ _ _ _ _ _ us hl => match us, hl with | [_, _], _ => rfl⟩
  have F2 := fun_mk (st := slaw_cell_at) l2 c2 k2
  have Tlaw_cell_at : Top K mg "_law_cell_at" slaw_cell_at ["script", "k"] := ⟨_, _, F2, PySem.W.mg_of X G a2, F2.binds fun _ _ _ _ _ _ us hl => match us, hl with | [_, _], _ => rfl⟩
  have F3 := fun_mk (st := slaw_set) l3 c3 k3
  have Tlaw_set : Top K mg "_law_set" slaw_set ["numbers", "n"] := ⟨_, _, F3, PySem.W.mg_of X G a3, F3.binds fun _ _ _ _ _ _ us hl => match us, hl with | [_, _], _ => rfl⟩
  have F4 := fun_mk (st := slaw_again) l4 c4 k4
  have Tlaw_again : Top K mg "_law_again" slaw_again ["numbers", "n", "by"] := ⟨_, _, F4, PySem.W.mg_of X G a4, F4.binds fun _ _ _ _ _ _ us hl => match us, hl with | [_, _, _], _ => rfl⟩
  have F5 := fun_mk (st := slaw_drawn) l5 c5 k5
  have Tlaw_drawn : Top K mg "_law_drawn" slaw_drawn ["script", "k", "n"] := ⟨_, _, F5, PySem.W.mg_of X G a5, F5.binds fun _ _ _ _ _ _ us hl => match us, hl with | [_, _, _], _ => rfl⟩
  have F6 := fun_mk (st := ssee_round) l6 c6 k6
  have Tsee_round : Top K mg "see_round" ssee_round ["n"] := ⟨_, _, F6, PySem.W.mg_of X G a6, F6.binds fun _ _ _ _ _ _ us hl => match us, hl with | [_], _ => rfl⟩
  have F7 := fun_mk (st := srests) l7 c7 k7
  have Trests : Top K mg "rests" srests ["numbers", "n"] := ⟨_, _, F7, PySem.W.mg_of X G a7, F7.binds fun _ _ _ _ _ _ us hl => match us, hl with | [_, _], _ => rfl⟩
  have F8 := fun_mk (st := ssums) l8 c8 k8
  have Tsums : Top K mg "sums" ssums ["one", "other", "n"] := ⟨_, _, F8, PySem.W.mg_of X G a8, F8.binds fun _ _ _ _ _ _ us hl => match us, hl with | [_, _, _], _ => rfl⟩
  have F9 := fun_mk (st := sshifted) l9 c9 k9
  have Tshifted : Top K mg "shifted" sshifted ["numbers", "by", "n"] := ⟨_, _, F9, PySem.W.mg_of X G a9, F9.binds fun _ _ _ _ _ _ us hl => match us, hl with | [_, _, _], _ => rfl⟩
  have F10 := fun_mk (st := sstays) l10 c10 k10
  have Tstays : Top K mg "stays" sstays ["numbers", "n"] := ⟨_, _, F10, PySem.W.mg_of X G a10, F10.binds fun _ _ _ _ _ _ us hl => match us, hl with | [_, _], _ => rfl⟩
  have F11 := fun_mk (st := slaw_whole) l11 c11 k11
  have Tlaw_whole : Top K mg "_law_whole" slaw_whole ["found"] := ⟨_, _, F11, PySem.W.mg_of X G a11, F11.binds fun _ _ _ _ _ _ us hl => match us, hl with | [_], _ => rfl⟩
  have F12 := fun_mk (st := slaw_is_rests) l12 c12 k12
  have Tlaw_is_rests : Top K mg "_law_is_rests" slaw_is_rests ["found", "n"] := ⟨_, _, F12, PySem.W.mg_of X G a12, F12.binds fun _ _ _ _ _ _ us hl => match us, hl with | [_, _], _ => rfl⟩
  have F13 := fun_mk (st := slaw_is_set) l13 c13 k13
  have Tlaw_is_set : Top K mg "_law_is_set" slaw_is_set ["found", "due"] := ⟨_, _, F13, PySem.W.mg_of X G a13, F13.binds fun _ _ _ _ _ _ us hl => match us, hl with | [_, _], _ => rfl⟩
  have F14 := fun_mk (st := slaw) l14 c14 k14
  have Tlaw : Top K mg "law" slaw ["script"] := ⟨_, _, F14, PySem.W.mg_of X G a14, F14.binds fun _ _ _ _ _ _ us hl => match us, hl with | [_], _ => rfl⟩
  refine ⟨PySem.W.fnOf "law" "law" (defArgs slaw) (defBody slaw) (defScope slaw) .none kV14 dc14 pm14 an14 cd14 ct14, fun s v => .of_eq rfl, fun base _ _ => ?_⟩
  have claw_bits := oklaw_bits (P := l.prog) (w := w) (base := base) Tlaw_bits nb
  have claw_cell_at := oklaw_cell_at (P := l.prog) (w := w) (base := base) Tlaw_cell_at nb
  have claw_set := oklaw_set (P := l.prog) (w := w) (base := base) Tlaw_set nb
  have claw_again := oklaw_again (P := l.prog) (w := w) (base := base) Tlaw_again nb claw_set
  have claw_drawn := oklaw_drawn (P := l.prog) (w := w) (base := base) Tlaw_drawn nb claw_cell_at claw_bits claw_again
  have csee_round := oksee_round (P := l.prog) (w := w) (base := base) Tsee_round cGREATEST xBadRound
  have crests := okrests (P := l.prog) (w := w) (base := base) Trests nb csee_round
  have csums := oksums (P := l.prog) (w := w) (base := base) Tsums crests
  have cshifted := okshifted (P := l.prog) (w := w) (base := base) Tshifted csee_round crests
  have cstays := okstays (P := l.prog) (w := w) (base := base) Tstays nb crests cshifted
  have claw_whole := oklaw_whole (P := l.prog) (w := w) (base := base) Tlaw_whole nb
  have claw_is_rests := oklaw_is_rests (P := l.prog) (w := w) (base := base) Tlaw_is_rests nb claw_whole
  have claw_is_set := oklaw_is_set (P := l.prog) (w := w) (base := base) Tlaw_is_set nb claw_whole
  exact oklaw F14 nb claw_cell_at claw_drawn csums cstays claw_is_rests claw_is_set
end Sr
open PySem PySem.W PyProof.Rows
set_option maxRecDepth 100000 in
set_option maxHeartbeats 0 in
theorem PySem.Challenge.cw_sumrests_k04_whole_sums_are_many_holds : PySem.Challenge.rw_sumrests_k04_whole_sums_are_many.Holds := by
  w_on; o_law; k_head; (case hw => w_witness2)
  k_fill
  refine L2.walk_of (l := PySem.Challenge.rw_sumrests_k04_whole_sums_are_many) (n := 63) (k := 5) (x := "script") (CX := fun _ => L2.CX0) (sp := fun w => Sr.spLaw _) rfl (by decide) rfl ⟨rfl, by decide, by decide⟩ (fun w h Y => PySem.W.kIn_of Y) ?F (fun _ _ a ns hl _ hS => ⟨a, ns, rfl, hS, hl, fun _ => rfl⟩) (fun _ _ _ _ _ h => h)
  case F =>
    intro w mg fa h KX G hmg
    refine' Sr.all_mk KX G hmg ?a1 ?l1 ?c1 ?k1 ?a2 ?l2 ?c2 ?k2 ?a3 ?l3 ?c3 ?k3 ?a4 ?l4 ?c4 ?k4 ?a5 ?l5 ?c5 ?k5 ?a6 ?l6 ?c6 ?k6 ?a7 ?l7 ?c7 ?k7 ?a8 ?l8 ?c8 ?k8 ?a9 ?l9 ?c9 ?k9 ?a10 ?l10 ?c10 ?k10 ?a11 ?l11 ?c11 ?k11 ?a12 ?l12 ?c12 ?k12 ?a13 ?l13 ?c13 ?k13 ?a14 ?l14 ?c14 ?k14 ?z1 ?z2 ?z3 ?z4 ?z5 ?z6 ?z7 ?z8 ?z9 ?z10 ?z11 ?z12 ?z13 ?z14 ?z15 ?gGREATEST ?gBadRound ?xBadRound ?yBadRound ?bBadRound ?tBadRound
    (case a1 => k_is); (case l1 => k_is); (case c1 => k_is); (case k1 => k_is); (case a2 => k_is); (case l2 => k_is)
    (case c2 => k_is); (case k2 => k_is); (case a3 => k_is); (case l3 => k_is); (case c3 => k_is); (case k3 => k_is)
    (case a4 => k_is); (case l4 => k_is); (case c4 => k_is); (case k4 => k_is); (case a5 => k_is); (case l5 => k_is)
    (case c5 => k_is); (case k5 => k_is); (case a6 => k_is); (case l6 => k_is); (case c6 => k_is); (case k6 => k_is)
    (case a7 => k_is); (case l7 => k_is); (case c7 => k_is); (case k7 => k_is); (case a8 => k_is); (case l8 => k_is)
    (case c8 => k_is); (case k8 => k_is); (case a9 => k_is); (case l9 => k_is); (case c9 => k_is); (case k9 => k_is)
    (case a10 => k_is); (case l10 => k_is); (case c10 => k_is); (case k10 => k_is); (case a11 => k_is); (case l11 => k_is)
    (case c11 => k_is); (case k11 => k_is); (case a12 => k_is); (case l12 => k_is); (case c12 => k_is); (case k12 => k_is)
    (case a13 => k_is); (case l13 => k_is); (case c13 => k_is); (case k13 => k_is); (case a14 => k_is); (case l14 => k_is)
    (case c14 => k_is); (case k14 => k_is); (case z1 => k_is); (case z2 => k_is); (case z3 => k_is); (case z4 => k_is)
    (case z5 => k_is); (case z6 => k_is); (case z7 => k_is); (case z8 => k_is); (case z9 => k_is); (case z10 => k_is)
    (case z11 => k_is); (case z12 => k_is); (case z13 => k_is); (case z14 => k_is); (case z15 => k_is); (case gGREATEST => k_is)
    (case gBadRound => k_is); (case xBadRound => k_exc); (case yBadRound => k_is); (case bBadRound => k_is); (case tBadRound => k_is)
