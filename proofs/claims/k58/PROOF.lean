import PyProof.Rows.All
import Wide.All
import OpenK.AllK
import Wide.FinOn
import HandS.ForMost
import HandS.Strs
import HandS.SetFor
import HandS.SortKw
import KE.GoesMore
import KE.GoesEnum
import KE.SortData
import KE.KMinBuiltin
import HandS.Defaults
import HandS.GenBody
import HandS.GenYield
import HandS.GenCall
import HandS.GenList
import PyProof.GenComp
import HandS.GenOver
import PySem.Str
import HandS.Deep
import HandS.TupAny
import HandS.Conv
import HandS.IsInst
import HandS.HeadHook2
import PySem.Challenge.RW_tracefit_k58_whole_runs_after_edits
import HandS.Head0
import HandS.Head1
import HandS.Head2
import HandS.HeadEnd
import HandS.HeadHook1
import HandS.HeadHook3
import HandS.HeadHook4
set_option Elab.async false
set_option linter.all false
set_option maxRecDepth 100000
set_option maxHeartbeats 0
/-! set(xs) of a list of whole numbers. -/
namespace Tf
open PySem PySem.Spec PyProof.Rows L2
theorem sub_len {α : Type} [DecidableEq α] : ∀ (l m : List α), l.Nodup → (∀ x ∈ l, x ∈ m) → l.length ≤ m.length
  | [], _, _, _ => Nat.zero_le _
  | x :: l, m, hn, hs => by
    rw [List.nodup_cons] at hn
    have hx : x ∈ m := hs x List.mem_cons_self
    have h1 := sub_len l (m.erase x) hn.2 fun y hy => by
      have hne : y ≠ x := fun e => hn.1 (e ▸ hy)
      exact (List.mem_erase_of_ne hne).mpr (hs y (List.mem_cons_of_mem _ hy))
    have h2 := List.length_erase_of_mem hx
    have h3 : 0 < m.length := List.length_pos_of_mem hx
    rw [List.length_cons]
    omega
theorem setR_le {w : World} {h : Heap} {a : Addr} {S : Int → Bool} {n : Nat} (R : SetR w h a S n) {L : List Int} (hL : ∀ k, S k = true → k ∈ L) : n ≤ L.length := by
  obtain ⟨o, es, ep, t, _, _, _, _, nd, hk, _, _, hz, _⟩ := R
  have := sub_len _ L nd fun x hx => hL x ((hk x).mpr hx)
  rw [List.length_map, Array.length_toList, hz] at this
  exact this
section
variable {P : Program} {w : World} {A : Around} {E : Value → Shared → Prop} {s : Shared}
abbrev emptySet (w : World) : Obj := { cls := .type "set", dict := none, data := .set #[] 0 (.fresh 0 0 (!w.params.followText "set-order")) }
theorem set_of_list {l : Addr} {items : Array Value} (ns : List Int) {Q : Value → Shared → Prop} (hh : A.handled = none) (hl : s.heap.IsList l items) (hit : IntsAre items.toList ns) (hb : ns.length + 1 < scanBound)
    (h : ∀ (h' : Heap) (tk c : Nat), SetR w h' s.heap.objs.size (fun j => decide (j ∈ ns)) c → (∀ b o, s.heap.get? b = some o → h'.get? b = some o) → Q (.ref s.heap.objs.size) { s with heap := h', toks := tk }) :
    wpAny (model P w) A (call (.type "set") [.ref l]) Q E s := by
  have hn : items.size = ns.length := by
    have q := IntsAre.length hit
    rwa [Array.length_toList] at q
  obtain ⟨c, tl, hmro⟩ := F.called_set.mro
  have hmade := F.called_set.made
  have hsub := F.called_set.sub
  refine wpAny_call (codeAny_of_tree ?_)
  show wpAny _ _ (callAny (.type "set") _) _ _ _
  refine wpAny_pure ⟨Code.quiet_builtin _ (by decide +kernel), codeAny_builtin F.entry_type_call ?_⟩
  rw [Around.under_plain (weight_type_call_type "set" [.ref l] []) rfl]
  have h1 := F.called_set.notType
  have h2 := F.called_set.canCreate
  have hct := F.typeCall_set_1 (.ref l)
  repeat (any_goals (first | assumption | wp_step))
  refine codeAny_mono (code_set_led1 (.ref l) (E := E) (Q₁ := fun obj s₁ => obj = .ref s.heap.objs.size ∧ s₁ = { s with heap := s.heap.push (emptySet w) }) ⟨rfl, rfl⟩) fun r s₁ hr => ?_
  match r, hr with
  | .error _, hr => exact hr
  | .ok .next, hr => exact hr.elim
  | .ok .brk, hr => exact hr.elim
  | .ok .cont, hr => exact hr.elim
  | .ok (.ret obj), hr =>
    obtain ⟨rfl, rfl⟩ := hr
    have hS : (s.heap.push (emptySet w)).get? s.heap.objs.size = some (emptySet w) := Heap.get?_push_size _ rfl
    have hT : Shared.TypeIs { s with heap := s.heap.push (emptySet w) } (.ref s.heap.objs.size) "set" := ⟨_, hS, rfl⟩
    have hli := F.called_set.init.lookup
    have hbi := F.called_set.init.bind (.ref s.heap.objs.size)
    repeat (any_goals (first | assumption | wp_step))
    refine codeAny_mono (codeAny_call_builtin (R := wants (fun r s₂ => r = .none ∧ ∃ h' tk c, s₂ = { s with heap := h', toks := tk } ∧ SetR w h' s.heap.objs.size (fun j => decide (j ∈ ns)) c ∧
        (∀ b o, s.heap.get? b = some o → h'.get? b = some o)) E) F.called_set.init.plain F.entry_set_init (check_set_init_1 hT ?_)) fun r₂ s₂ hr₂ => ?_
    · obtain ⟨⟨oc, od, dt, osl⟩, hol, hcl, nl, hdl⟩ := hl
      simp only at hcl hdl
      subst hcl; subst hdl
      have hol' : (s.heap.push (emptySet w)).get? l = some { cls := .type "list", dict := od, data := .seq items nl, slots := osl } := Heap.get?_push_of_some _ hol
      have hsls := F.sub_list_set
      have hslf := F.sub_list_frozenset
      have hne : (Value.type "list" == Value.type "dict") = false := by decide
      have hl1 : (s.heap.push (emptySet w)).IsList l items := ⟨_, hol', rfl, nl, rfl⟩
      unfold Builtin.«set.__init__» noKeywords Builtin.Frozenset.updateFrom
      generalize hPI : pyIter = PI
      wp_walk
      subst hPI
      refine wpAny_pyIter_list hl1 ?_
      refine wpAny_bind (wpAny_runValue ?_)
      have hlS : l < s.heap.objs.size := Heap.lt_size hol
      have hz : (s.heap.push (emptySet w)).objs.size = s.heap.objs.size + 1 := Heap.size_push ..
      have hneI : l ≠ (s.heap.push (emptySet w)).objs.size := by
        rw [hz]; exact Nat.ne_of_lt (Nat.lt_succ_of_lt hlS)
      have hSf : s.heap.objs.size ∉ [(s.heap.push (emptySet w)).objs.size, l] := by
        rw [hz]
        simp only [List.mem_cons, List.not_mem_nil, or_false, not_or]
        exact ⟨Nat.ne_of_lt (Nat.lt_succ_self _), Nat.ne_of_gt hlS⟩
      have hval : ∀ (i : Nat) (v : Value), items[i]? = some v → ∃ k t, ns[i]? = some k ∧ v = .int k t := fun i v hv => by
        have hi : i < ns.length := hn ▸ (Array.getElem?_eq_some_iff.mp hv).1
        obtain ⟨t, e⟩ := IntsAre.int_at hit i v (by rw [Array.getElem?_toList]; exact hv)
        refine ⟨ns[i], t, List.getElem?_eq_getElem hi, ?_⟩
        rw [e, List.getD_eq_getElem?_getD, List.getElem?_eq_getElem hi] <;> rfl
      have hh3 : A.in1.in1.in1.handled = none := by simp [hh]
      refine set_update_ints ((Walks.list hh3 _ l hneI items).toS) s.heap.objs.size hSf ns hn hb hval (items.size - 0) 0 _ (by omega) (Nat.zero_le _)
        ⟨⟨_, Heap.get?_push_size _ rfl, rfl, rfl⟩, (hl1.push _)⟩ ⟨0, Nat.le_refl 0, setR_new_at (Heap.get?_push_of_some _ hS)⟩ fun s' c' hm _ hS' => ?_
      obtain ⟨h', g2, d', tk', os'⟩ := s'
      obtain rfl : g2 = s.gens := hm.gens
      obtain rfl : d' = s.drawn := hm.drawn
      obtain rfl : os' = s.os := hm.os
      show wpAny _ _ _ _ _ _
      refine wpAny_pure ?_
      show wpAny _ _ (ret Value.none) _ _ _
      refine wpAny_pure ⟨rfl, h', tk', c', rfl, hS', fun b o e => ?_⟩
      have hb0 : b < s.heap.objs.size := Heap.lt_size e
      refine hm.heap b o ?_ (Heap.get?_push_of_some _ (Heap.get?_push_of_some _ e))
      rw [hz]
      simp only [List.mem_cons, List.not_mem_nil, or_false, not_or]
      exact ⟨Nat.ne_of_lt hb0, Nat.ne_of_lt (Nat.lt_succ_of_lt hb0)⟩
    · match r₂, hr₂ with
      | .error _, hr => exact hr
      | .ok .next, hr => exact hr.elim
      | .ok .brk, hr => exact hr.elim
      | .ok .cont, hr => exact hr.elim
      | .ok (.ret _), hr =>
        obtain ⟨rfl, h', tk, c', rfl, hS', hk'⟩ := hr
        repeat (any_goals (first | assumption | wp_step))
        exact h _ _ _ hS' hk'
end
section
variable {X : Cx}
/-- set(xs): its members; n, how many, is at most the length of any list of them -/
def rSetL (K : PySem.W.Frag) (w : World) : List V → Hp → VK → Prop := fun vs H Q => ∃ (l : Addr) (ns : List Int), vs = [V.ref l] ∧ SqL K H l (ns.map V.int) ∧ ns.length + 1 < scanBound ∧
  ∀ (a : Addr) (n : Nat), H a = none → (∀ L : List Int, (∀ k ∈ ns, k ∈ L) → n ≤ L.length) → Q (.ref a) (upd H a (SetO w a (fun j => decide (j ∈ ns)) n))
theorem cr_setL (hc : X.calm = true) : CallR X (.type "set") (rSetL X.K X.w) := by
  intro pins s σ H vs us Q I r h
  obtain ⟨l, ns, rfl, hq, hb, q⟩ := h
  rw [Vals.ref1 r]
  obtain ⟨its, rv, pl, _⟩ := I.list hq
  refine set_of_list ns (I.ok.hd hc) pl.isList (by simpa using rv.ints) hb fun h' tk c R hk => ?_
  exact ⟨.ref _, upd H s.heap.objs.size (SetO X.w s.heap.objs.size (fun j => decide (j ∈ ns)) c), I.laid hk (Nat.le_refl _) (setO_new R), rfl,
    q _ _ (I.hok.fresh (Nat.le_refl _)) fun L hL => setR_le R fun k hk => hL k (of_decide_eq_true hk)⟩
end
end Tf

/-! Own rules: xs.extend(t), enumerate(t), sorted by (length, row), min([a, b], key=len). -/
namespace Tf
open PySem PySem.Spec PyProof.Rows L2
section
variable {X : Cx}
/-! ### xs.extend(t), t a tuple -/
theorem extend_tup (l : Addr) (items : Array Value) (n : Nat) (b : Addr) (items2 : Array Value) (n2 : Nat) (dd : Option Addr) (sl : Array (Option Value)) (hs0 : ¬(!items.isEmpty && Builtin.List.listTooLong (items.size + items2.size)) = true) (hs1 : items.size ≤ sizeLine) (hs2 : items.size + items2.size ≤ sizeLine + 1) :
    Meets (Builtin.«list.extend» ⟨[.ref l, .ref b], []⟩) (fun _ R s => s.heap.get? l = some { cls := .type "list", dict := none, data := .seq items n, slots := #[] } ∧ s.heap.get? b = some { cls := .type "tuple", dict := dd, data := .seq items2 n2, slots := sl } ∧
      R (.ok (.ret Value.none)) { s with heap := s.heap.update l (Obj.mapSeq fun x => x ++ items2), toks := s.toks }) :=
  .of_wp fun prog w A R s h => by
    obtain ⟨hp, g, d, tk, os⟩ := s
    obtain ⟨hl, hb, h⟩ := h
    have f4 := AutoSeq1.sub_tuple_list
    have f3 := AutoSeq1.sub_list_list
    have f2 := AutoSeq1.sub_tuple_tuple
    have f5 := AutoSeq1.sub_list_tuple
    have hz' : (items ++ items2).size ≤ sizeLine + 1 := by rw [Array.size_append]; exact hs2
    wp_walk using (wpAny_updateSeq hl rfl (hz := hs1) (_hz' := hz')), AutoSeq1.wpAny_loadPart' hl, AutoSeq1.wpAny_loadPart' hb
    exact ⟨_, rfl, h⟩
def rExtT (K : PySem.W.Frag) : V → List V → Hp → VK → Prop := fun x vs H Q => ∃ l b xs zs, x = .ref l ∧ vs = [.ref b] ∧ H l = some (.lst xs) ∧ SqT K H b zs ∧ xs.length + zs.length ≤ sizeLine ∧ Q .non (upd H l (.lst (xs ++ zs)))
theorem mt_extT : MtM X "list.extend" (rExtT X.K) := by
  intro pins s σ H x vs v us Q I rx rv h
  obtain ⟨l, b, xs, zs, rfl, rfl, hH, hB, hz, q⟩ := h
  cases rx
  obtain ⟨u, rfl, ru⟩ := rv.one
  cases ru
  obtain ⟨z, its, n, r, hl, e⟩ := I.lstM hH
  obtain ⟨its2, r2, ⟨⟨cls, dd, dt, sl⟩, e2, hc, n2, hd⟩, z2⟩ := I.tuple hB
  simp only at hc hd
  subst hc
  subst hd
  have hl2 := r2.length
  have hsz : its.toArray.size + its2.toArray.size ≤ sizeLine := by rw [List.size_toArray, List.size_toArray]; omega
  have hlong : ¬ (!its.toArray.isEmpty && Builtin.List.listTooLong (its.toArray.size + its2.toArray.size)) = true := by
    rw [notLongL hsz, Bool.and_false]
    exact Bool.false_ne_true
  refine call_meets F.slot_list_extend ⟨_, e, rfl⟩ F.entry_list_extend (F.args_list_extend_2 _ _) (extend_tup l its.toArray n b its2.toArray n2 dd sl hlong (by rw [List.size_toArray]; omega) (by omega)) ⟨e, e2, ?_⟩
  refine ⟨.non, _, I.lset (its' := its ++ its2) hH e (by simp) (r.append r2) ?_, rfl, q⟩
  rw [List.length_append]
  omega

/-! ### for i, x in enumerate(t), t a tuple -/
theorem enum_one {v : Value} {o : Obj} {H : Heap → Prop} (B : Begins v o H) :
    Meets (Builtin.«enumerate.__new__» ⟨[.type "enumerate", v], []⟩) (fun _ R s => H s.heap ∧
      R (.ok (.ret (.ref (s.heap.push o).objs.size))) { s with heap := (s.heap.push o).push { cls := .type "enumerate", data := .fields #[.none, .bool false, .ref s.heap.objs.size, rawInt 0, .none, .none] } }) :=
  .of_wp fun prog w A R s h => by
    obtain ⟨hp, g, d, tk, os⟩ := s
    obtain ⟨h1, h⟩ := h
    have hsub := sub_enumerate
    have q1 : ∀ {A' : Around} {E : Value → Shared → Prop} {Q : Value → Shared → Prop}, Q (.ref hp.objs.size) ⟨hp.push o, g, d, tk, os⟩ → wpAny (model prog w) A' (pyIter v) Q E ⟨hp, g, d, tk, os⟩ :=
      fun q => B.iter prog w _ _ ⟨hp, g, d, tk, os⟩ _ h1 q
    wp_walk using q1
    refine wpAny_stack_any fun st => wpAny_pure ?_
    split
    · rename_i c _ _ _ _ _
      cases (c == Value.type "enumerate")
      · wp_walk using q1
        exact ⟨_, rfl, h⟩
      · wp_walk using q1
        exact ⟨_, rfl, h⟩
    · wp_walk using q1
      exact ⟨_, rfl, h⟩
theorem call_enumT {P : Program} {w : World} {A : Around} {E : Value → Shared → Prop} {s : Shared} {l : Addr} {items : Array Value} {Q : Value → Shared → Prop} (hL : s.heap.IsTuple l items)
    (h : ∀ h', IsEnum h' (s.heap.objs.size + 1) s.heap.objs.size 0 .none → h'.IsTupleIter s.heap.objs.size l 0 → (∀ b o, s.heap.get? b = some o → h'.get? b = some o) → Q (.ref (s.heap.objs.size + 1)) { s with heap := h' }) :
    wpAny (model P w) A (call (.type "enumerate") [.ref l]) Q E s := by
  refine callType_new F.called_enumerate (by decide) (F.typeCall_enumerate_1 _) (F.newCall_enumerate_1 _) (fun obj => F.args_object_init_2 obj _) F.entry_enumerate_new (enum_one (begins_tuple l items)) ⟨hL, ?_⟩
  have hz : (s.heap.push { cls := .type "tuple_iterator", data := .fields #[.ref l, .int 0 0] }).objs.size = s.heap.objs.size + 1 := Heap.size_push ..
  show _ ∧ _
  rw [hz]
  have he : IsEnum ((s.heap.push { cls := .type "tuple_iterator", data := .fields #[.ref l, .int 0 0] }).push { cls := .type "enumerate", data := .fields #[.none, .bool false, .ref s.heap.objs.size, rawInt 0, .none, .none] }) (s.heap.objs.size + 1) s.heap.objs.size 0 .none := by
    have q := Heap.get?_push_size (s.heap.push { cls := .type "tuple_iterator", data := .fields #[.ref l, .int 0 0] }) (o := { cls := .type "enumerate", data := .fields #[.none, .bool false, .ref s.heap.objs.size, rawInt 0, .none, .none] }) rfl
    rw [hz] at q
    exact q
  exact ⟨⟨_, he, rfl⟩, h _ he ⟨_, Heap.get?_push_of_some _ (Heap.get?_push_size _ rfl), rfl, rfl⟩ fun b o x => Heap.get?_push_of_some _ (Heap.get?_push_of_some _ x)⟩
/-- the tuple at a, its items in new pairs with their places -/
def IteT (K : PySem.W.Frag) (a : Addr) : It :=
  ⟨fun i H => ∃ (xs : List V) (x : V), SqT K H a xs ∧ xs[i]? = some x, fun i H v H' => ∃ t x, v = .ref t ∧ H t = none ∧ H' = upd H t (.tup [.int (i : Nat), x]) ∧ ∀ xs, SqT K H a xs → xs[i]? = some x, fun i H => ∃ xs : List V, SqT K H a xs ∧ xs.length = i⟩
theorem turn_enumT {P : Program} {w : World} {K : PySem.W.Frag} {elts : List Expr} {kk : Nat} {tpos : Pos} (a e it : Addr) :
    Turn P w K (.Tuple elts kk tpos) (IteT K a) [e, it] e (fun i h => (∃ old, IsEnum h e it ((i : Nat) : Int) old) ∧ h.IsTupleIter it a i ∧ e ≠ it) where
  mem := by simp
  obj := fun i h st b hb => by
    obtain ⟨⟨old, he⟩, ⟨o, ho, hc, hd⟩, _⟩ := st
    rcases (show b = e ∨ b = it by simpa using hb) with rfl | rfl
    · exact ⟨_, he, fun v q => nomatch q⟩
    · exact ⟨o, ho, fun v q => by rw [hd] at q; cases q⟩
  keep := fun i h h' st k => let ⟨⟨old, he⟩, hi, hne⟩ := st; ⟨⟨old, k e (by simp) _ he⟩, hi.at fun o q => k it (by simp) o q, hne⟩
  item := by
    intro X hP hw hK hc i pins s σ H E I hf st hg
    subst hP hw hK
    obtain ⟨⟨old, he⟩, hit, hne⟩ := st
    obtain ⟨xs, x, hq, hx⟩ := hg
    obtain ⟨its, rv, p, hz⟩ := I.tuple hq
    obtain ⟨u, hu, ru⟩ := rv.get hx
    have hel : e < s.heap.objs.size := Heap.lt_size he
    have hil : it < s.heap.objs.size := by obtain ⟨_, q, _⟩ := hit; exact Heap.lt_size q
    have ht : s.heap.IsTuple a its.toArray := p
    have hae : a ≠ e := fun z => by
      obtain ⟨o, ho, hcl, _⟩ := ht
      rw [z, he] at ho
      cases ho
      injection hcl with z2
      exact absurd z2 (by decide)
    have hai : a ≠ it := fun z => by
      obtain ⟨o, ho, hcl, _⟩ := ht
      obtain ⟨o2, ho2, hc2, _⟩ := hit
      rw [z, ho2] at ho
      cases ho
      rw [hcl] at hc2
      injection hc2 with z2
      exact absurd z2 (by decide)
    have hlt : i < its.toArray.size := by
      have := (List.getElem?_eq_some_iff.mp hu).1
      simpa using this
    have D := Draws.tuple (prog := X.prog) (w := X.w) (A := X.A.in1) (by simp [I.ok.hd hc]) it a hai its.toArray
    refine wpAny_pyNext_enum_itemD D he ⟨hit, ht⟩ hlt hne (by simp [hne, Ne.symm hae]) fun y h' tk hP ho hst hT hsz hk => ?_
    have ey : y = u := by
      have q : its.toArray[i]? = some u := by simpa using hu
      exact Option.some.inj (hP.symm.trans q)
    subst ey
    refine ⟨_, rfl, wpAny_letOwnedTupleGo_enum (s := { s with heap := h', toks := tk + 1 }) ho fun h'' he' sb => ?_⟩
    have hT2 : h''.get? s.heap.objs.size = some { cls := .type "tuple", data := .seq #[.int i tk, y] } := (sb.2 _ (Nat.ne_of_gt hel)).trans hT
    have new : ObjOk X.prog X.w (upd H s.heap.objs.size (.tup [.int (i : Nat), x])) h'' s.heap.objs.size (.tup [.int (i : Nat), x]) :=
      ⟨by show 2 ≤ sizeLine; decide, [.int i tk, y], .cons ⟨_, rfl⟩ (.cons ru .nil), ⟨_, hT2, rfl, _, rfl⟩⟩
    have I1 : Inv X pins σ (upd H s.heap.objs.size (.tup [.int (i : Nat), x])) { s with heap := h'', toks := tk + 1 } :=
      I.turnedNew (ch := [e, it]) (fun b ob hb q => (sb.2 b (fun z => hb (by simp [z]))).trans (hk b ob (fun z => hb (by simp [z])) (fun z => hb (by simp [z])) q)) hf (Nat.le_refl _) new
    refine ⟨.ref s.heap.objs.size, _, I1, rfl, ⟨_, x, rfl, I.hok.fresh (Nat.le_refl _), rfl, fun ys hy => by rw [I.tuple_inj hy hq]; exact hx⟩, ⟨⟨y, ?_⟩, hst.1.at fun o q => (sb.2 it (Ne.symm hne)).trans q, hne⟩, fun b hb => ?_⟩
    · have e1 : ((i + 1 : Nat) : Int) = (i : Int) + 1 := by omega
      rw [e1]; exact he'
    · have hb' : b < s.heap.objs.size := by
        rcases (show b = e ∨ b = it by simpa using hb) with rfl | rfl
        · exact hel
        · exact hil
      rw [upd_ne (Nat.ne_of_lt hb')]
      exact (hf b hb).1
  done := by
    intro X hP hw hK hc i pins s σ H E I hf st hg
    subst hP hw hK
    obtain ⟨⟨old, he⟩, hit, hne⟩ := st
    obtain ⟨xs, hq, hx⟩ := hg
    obtain ⟨its, rv, p, hz⟩ := I.tuple hq
    obtain ⟨f0, f1, f2, f3, f4, f5⟩ := hf it (by simp)
    have ht : s.heap.IsTuple a its.toArray := p
    have hai : a ≠ it := fun z => by
      obtain ⟨o, ho, hcl, _⟩ := ht
      obtain ⟨o2, ho2, hc2, _⟩ := hit
      rw [z, ho2] at ho
      cases ho
      rw [hcl] at hc2
      injection hc2 with z2
      exact absurd z2 (by decide)
    have D := Draws.tuple (prog := X.prog) (w := X.w) (A := X.A.in1) (by simp [I.ok.hd hc]) it a hai its.toArray
    have hsz : its.toArray.size = i := by rw [List.size_toArray, ← rv.length, hx]
    exact wpAny_pyNext_enum_endD D he (by rw [hsz]; exact ⟨hit, ht⟩) fun h' eb => ⟨rfl, I.turned (t' := s.toks) (fun b o hb q => eb b o hb q) f0 f1 f3 f4 f5⟩
  self := fun A i s Q E st h => let ⟨⟨_, he⟩, _⟩ := st; wpAny_pyIter_enum he h
def iEnumT (K : PySem.W.Frag) (ta : TA) : TI := fun σ H R => ta σ H fun vs H1 => ∃ a xs, vs = [.ref a] ∧ SqT K H1 a xs ∧ R (IteT K a) H1
theorem pi_enumT {e : Expr} {ta : TA} {p pos tpos : Pos} {elts : List Expr} {kk : Nat} (hg : Gl X "enumerate") (hm : X.mg "enumerate" = none) (ha : PA X [e] ta) (hs : starEach [e] X.env = [(false, eval e X.env)] := by rfl) :
    PI X (.Tuple elts kk tpos) (.Call (.Name "enumerate" p) [e] [] pos) (iEnumT X.K ta) := by
  refine ⟨fun pins s σ H R I h => ?_⟩
  refine Call_ (ld_blt I hg hm boot_enumerate (PyProof.Rows.callWith_type1 (thn (ha.run pos pins s σ H _ I h) fun us s1 ⟨vs, H1, I1, r1, q1⟩ => ?_) hs rfl))
  obtain ⟨a, xs, rfl, hq, q⟩ := q1
  rw [Vals.ref1 r1]
  obtain ⟨its, rv, p', hz⟩ := I1.tuple hq
  refine call_enumT (show s1.heap.IsTuple a its.toArray from p') fun h' he hit hk => wpAny_pyIter_enum he ?_
  have I2 : Inv X pins σ H1 { s1 with heap := h' } := I1.kept (t' := s1.toks) hk
  refine ⟨s1.heap.objs.size + 1, [s1.heap.objs.size + 1, s1.heap.objs.size], _, _, H1, rfl, I2, turn_enumT a (s1.heap.objs.size + 1) s1.heap.objs.size, ⟨⟨.none, he⟩, hit, Nat.succ_ne_self _⟩, fun b hb => ?_, q⟩
  have hle : s1.heap.objs.size ≤ b := by
    rcases (show b = s1.heap.objs.size + 1 ∨ b = s1.heap.objs.size by simpa using hb) with rfl | rfl
    · exact Nat.le_add_right _ _
    · exact Nat.le_refl _
  exact I1.fpOk hle (I1.hok.fresh hle)

/-! ### sorted(xs), the items (length, row) -/
def encP (ws : List Int) : PyData := .tuple [.int (ws.length : Nat), .tuple (ws.map .int)]
/-- at v a tuple (len(ws), ws) -/
def PairW (K : PySem.W.Frag) (H : Hp) (v : V) (ws : List Int) : Prop := ∃ t r, v = .ref t ∧ SqT K H t [.int (ws.length : Nat), .ref r] ∧ SqT K H r (ws.map V.int)
theorem dp_ints {K : PySem.W.Frag} {H : Hp} : ∀ ns : List Int, DpAll K H (ns.map V.int) (ns.map PyData.int)
  | [] => .nil
  | n :: ns => .cons (.int n) (dp_ints ns)
theorem PairW.dp {K : PySem.W.Frag} {H : Hp} {v : V} {ws : List Int} (h : PairW K H v ws) : Dp K H v (encP ws) := by
  obtain ⟨t, r, rfl, h1, h2⟩ := h
  exact .tup h1 (.cons (.int _) (.cons (.tup h2 (dp_ints ws)) .nil))
theorem alike_P (a b : List Int) : PySem.W.alike (encP a) (encP b) = true := by
  have h := PySem.W.alike_ints a b
  simp [encP, PySem.W.alike, PySem.W.alikeAll, h]
def leW (a b : List Int) : Bool := PySem.W.dataLe false encP a b
theorem depth_P (a : List Int) : (encP a).depth ≤ 3 := by
  have h := PySem.W.depth_ints a
  simp only [encP, PyData.depth, PyData.depthAll, h]
  decide
theorem each_out {R : Value → List Int → Prop} {K : PySem.W.Frag} {H : Hp} : ∀ {out : List Value} {bs : List (List Int)}, PySem.W.EachIs (fun v b => ∃ x : V, RelV x v ∧ PairW K H x b) out bs → ∃ ys : List V, Vals ys out ∧ Paired (PairW K H) ys bs
  | _, _, .nil => ⟨[], .nil, .nil⟩
  | _, _, .cons ⟨x, r, p⟩ t => by
    obtain ⟨ys, h1, h2⟩ := each_out (R := R) t
    exact ⟨x :: ys, .cons r h1, .cons p h2⟩
theorem each_in {K : PySem.W.Frag} {H : Hp} : ∀ {xs : List V} {us : List Value} {bs : List (List Int)}, Vals xs us → Paired (PairW K H) xs bs → PySem.W.EachIs (fun v b => ∃ x : V, RelV x v ∧ PairW K H x b) us bs
  | _, _, _, .nil, .nil => .nil
  | _, _, _, .cons r t, .cons p q => .cons ⟨_, r, p⟩ (each_in t q)
def rSortW (K : PySem.W.Frag) : List V → Hp → VK → Prop := fun vs H Q => ∃ (a : Addr) (xs : List V) (ws : List (List Int)), vs = [.ref a] ∧ SqL K H a xs ∧ Paired (PairW K H) xs ws ∧
  ∀ p ys, H p = none → Paired (PairW K H) ys (ws.mergeSort leW) → Q (.ref p) (upd H p (.lst ys))
theorem cr_sortW (hu : X.A.units + 64 < cLine) : CallR X (.builtin "sorted") (rSortW X.K) := by
  intro pins s σ H vs us Q I r h
  obtain ⟨a, xs, ws, rfl, hq, hp, q⟩ := h
  rw [Vals.ref1 r]
  obtain ⟨its, rv, pl, hz⟩ := I.list hq
  have e := each_in rv hp
  have er : PySem.W.EachIs (fun v b => ∃ as, Reads s.heap v (encP b) as) its ws := e.mono fun v b ⟨x, rx, px⟩ => Dp.reads I _ _ _ px.dp rx
  have hlen : ws.length = its.length := e.length.symm
  have hxl := rv.length
  refine PySem.W.sorted_data (enc := encP) (R := fun v b => ∃ x : V, RelV x v ∧ PairW X.K H x b) pl.isList e er (PySem.W.AllAlike.of alike_P) (PySem.W.Sortable.tuples fun b => ⟨_, _, rfl⟩) (by omega) (fun b _ => by have := depth_P b; omega) fun out ho eo => ?_
  obtain ⟨ys, r1, p1⟩ := each_out (R := fun _ _ => True) eo
  obtain ⟨ep, he'⟩ := sortedAll_at s.heap its out.toArray
  have hyl := r1.length
  have hlen2 : ys.length ≤ sizeLine := by omega
  exact ⟨.ref _, upd H (s.heap.objs.size + 1) (.lst ys), I.laid (t' := s.toks) (fun _ _ => sortedAll_old) (Nat.le_succ _) ⟨hlen2, out, ep, r1, he'⟩, rfl, q _ ys (I.hok.fresh (Nat.le_succ _)) p1⟩

/-! ### min([a, b], key=len), of two tuples -/
def tMinLen (K : PySem.W.Frag) (t : TA) : TE := fun σ H Q => t σ H fun vs H1 => ∃ (l p q : Addr) (xs ys : List V), vs = [.ref l] ∧ H1 l = some (.lst [.ref p, .ref q]) ∧ SqT K H1 p xs ∧ SqT K H1 q ys ∧ Q (.ref (if ys.length < xs.length then q else p)) H1
theorem kept_all {g h h' : Heap} {L : Addr} {m : Str → Option Value} {own : List (Addr × Obj)} (k : ∀ b o, g.get? b = some o → h.get? b = some o) (F' : Fr g L h' m) (N' : News g L h' (allNews g h L ++ own)) : ∀ b o, b ≠ L → h.get? b = some o → h'.get? b = some o := fun b o hb e => by
  cases q : g.get? b with
  | some u =>
    have z := k b u q
    rw [e] at z
    cases z
    exact F'.keep b _ q
  | none => exact (N' (b, o) (List.mem_append_left _ (mem_allNews hb q e))).1
theorem tup_ne {h : Heap} {L p : Addr} {m : Str → Option Value} {items : Array Value} (hp : IsTup h p items) (hn : h.Ns L m) : p ≠ L := fun z => by
  obtain ⟨o, es, ep, e, d, _⟩ := hn
  obtain ⟨o2, e2, _, n, d2⟩ := hp
  rw [z, e] at e2
  cases e2
  rw [d] at d2
  cases d2
theorem len_turn {P : Program} {w : World} {A : Around} {E : Value → Shared → Prop} {h₀ : Heap} {L : Addr} {m : Str → Option Value} {need : List (Addr × Obj)} {s : Shared} {p : Addr} {items : Array Value} (hp : IsTup s.heap p items) (hz : (items.size : Int) < 2 ^ 63) (F' : Fr h₀ L s.heap m) (N' : News h₀ L s.heap need) :
    wpAny (model P w) A (call (.builtin "len") [.ref p]) (KskEnd h₀ L m need (items.size : Nat) s) E s :=
  len_tuple hp hz ⟨_, _, _, rfl, rfl, F', N'⟩
theorem pe_minLen {e : Expr} {t : TA} {p lp kpos pos : Pos} (hc : X.calm = true) (hg : Gl X "min") (hm : X.mg "min" = none) (hg2 : Gl X "len") (hm2 : X.mg "len" = none) (ha : PA X [e] t)
    (hs : backTo pos (starEach [e] X.env) = (false, eval e X.env) :: backTo pos (starEach [] X.env) := by rfl) : PE X (.Call (.Name "min" p) [e] [⟨some "key", .Name "len" lp, kpos⟩] pos) (tMinLen X.K t) := by
  refine ⟨fun pins s σ H Q I h => ?_⟩
  refine wpAny_Call_Name_kw (ld_blt I hg hm boot_min ?_)
  refine PyProof.Rows.callWith_kw (thn (ha.run pos pins s σ H _ I h) fun us s1 ⟨vs, H1, I1, r1, q1⟩ => ?_) hs (by rw [hs]; rfl) rfl rfl
  obtain ⟨l, a, b, xs, ys, ex, hl, hx, hy, q⟩ := q1
  show wpAny _ _ (evalAll ((do let v ← eval (.Name "len" lp) X.env; standAt pos; pure v) :: (backToKw pos (keywordEach [] X.env)).map (·.2))) _ _ s1
  refine wpAny_evalAll_cons (wpAny_bind (ld_blt I1 hg2 hm2 boot_len (wpAny_bind (wpAny_standAt (wpAny_pure ?_)))))
  refine wpAny_evalAll_nil ?_
  subst ex
  rw [Vals.ref1 r1]
  show wpAny _ _ (call (.builtin "min") [.ref l] [(Str.ofString "key", .builtin "len")]) _ _ s1
  obtain ⟨m, F⟩ := I1.fr
  obtain ⟨z, its, n, r, hl2, el⟩ := I1.lstM hl
  obtain ⟨ta, ra, pa, za⟩ := I1.tuple hx
  obtain ⟨tb, rb, pb, zb⟩ := I1.tuple hy
  obtain ⟨v1, v2, rfl, e1, e2⟩ : ∃ v1 v2, its = [v1, v2] ∧ v1 = Value.ref a ∧ v2 = Value.ref b := by
    cases r with
    | cons y1 r =>
      cases r with
      | cons y2 r =>
        cases r
        exact ⟨_, _, rfl, y1, y2⟩
  subst e1
  subst e2
  have nl : l ≠ X.env.locals := fun z => by
    rw [z, I1.free] at hl
    cases hl
  have na := tup_ne pa F.ns
  have nb := tup_ne pb F.ns
  have hn := line63
  have la := ra.length
  have lb := rb.length
  have tupAt : ∀ {p : Addr} {t : List Value} {h : Heap} {own : List (Addr × Obj)}, p ≠ X.env.locals → IsTup s1.heap p t.toArray → Fr X.base X.env.locals h m → News X.base X.env.locals h (allNews X.base s1.heap X.env.locals ++ own) → IsTup h p t.toArray := fun {p t h own} hp ⟨o, eo, c⟩ F' N' =>
    ⟨o, kept_all I1.bk F' N' p o hp eo, c⟩
  have fin : ∀ (p : Addr) (h' : Heap) (tk' : Nat), Fr X.base X.env.locals h' m → News X.base X.env.locals h' (allNews X.base s1.heap X.env.locals) → Q (.ref p) H1 → EP X pins σ Q (.ref p) { s1 with heap := h', toks := tk' } := fun p h' tk' F' N' hq => by
    have kp : ∀ b o, b ≠ X.env.locals → s1.heap.get? b = some o → h'.get? b = some o := fun b o hb e => kept_all (own := []) I1.bk F' (by rw [List.append_nil]; exact N') b o hb e
    have nL : ∀ b o, H1 b = some o → b ≠ X.env.locals := fun b o e z => by
      rw [z, I1.free] at e
      cases e
    refine ⟨.ref p, H1, I1.step (g' := s1.gens) (d' := s1.drawn) (ch := []) (fun _ z => nomatch z) (fun b o hL _ _ e _ => kp b o hL e) (fun b o hL _ _ e _ => ⟨o.slots, kp b o hL e⟩) (fun _ _ _ _ z => z) (fun b o _ e => ?_) (fun _ _ z => z) (fun _ _ _ z => z)
      (fun b ps e => ⟨#[], by rw [e]; simp⟩) (fun m' hm' => ?_) (fun b u e => ?_) I1.bare, rfl, hq⟩
    · by_cases hb : b = X.env.locals
      · obtain ⟨o2, _, _, e2, _⟩ := F'.ns
        exact ⟨o2, by rw [hb]; exact e2⟩
      · exact ⟨o, kp b o hb e⟩
    · have em : m' = m := by
        obtain ⟨o, es, ep, q1, q2, q3, q4⟩ := hm'
        obtain ⟨o', es', ep', q1', q2', q3', q4'⟩ := F.ns
        rw [q1] at q1'
        cases q1'
        rw [q2] at q2'
        cases q2'
        funext x
        exact (q4 x).symm.trans (q4' x)
      rw [em]
      exact F'.ns
    · refine (I1.hok b u e).stay (fun c v hc q => kp c v ?_ q) (fun _ q => q) fun _ _ q => q
      rcases hc with rfl | hc
      · exact nL _ _ e
      · exact nL _ _ hc
  refine kmb_min_two (v₁ := .ref a) (v₂ := .ref b) (h₀ := X.base) (L := X.env.locals) (m := m) (news := allNews X.base s1.heap X.env.locals) (ta.toArray.size : Nat) (tb.toArray.size : Nat) (I1.ok.hd hc) F news_all (fun h F' N' => ?_) (fun h tk own F' N' => ?_) (fun h tk own F' N' => ?_) (fun hle h' tk' F' N' => ?_) fun hlt h' tk' F' N' => ?_
  · exact ⟨_, kept_all (own := []) I1.bk F' (by rw [List.append_nil]; exact N') l _ nl el, rfl, _, rfl⟩
  · exact len_turn (s := { s1 with heap := h, toks := tk }) (tupAt na pa F' N') (by rw [List.size_toArray]; omega) F' N'
  · exact len_turn (s := { s1 with heap := h, toks := tk }) (tupAt nb pb F' N') (by rw [List.size_toArray]; omega) F' N'
  · refine fin a h' tk' F' N' ?_
    rw [if_neg (by rw [List.size_toArray, List.size_toArray] at hle; omega)] at q
    exact q
  · refine fin b h' tk' F' N' ?_
    rw [if_pos (by rw [List.size_toArray, List.size_toArray] at hlt; omega)] at q
    exact q
end
end Tf

/-! Generators: a for, an if in a generator's body; its call with a keyword. -/
namespace Tf
open PySem PySem.Spec PyProof.Rows L2 GenW
section
variable {prog : Program} {w : World} {A : Around} {R : GenEnd} {Y : Protocol} {n : Nat} {s₀ : Shared} {c : Code} {fs : List Frame} {s : Shared} {env : Env}
  {K : Flow → Sem PySem.Fin} {J : Value → Sem PySem.Fin} {gd : Bool → Bool} {lv : List Value → List Value}
theorem seg_If {M : Model} {test : Expr} {body orelse : List Stmt} {pos : Pos}
    (h : wpAny M (A.over c fs) (isTrue test env (eval test env)) (fun b s' => Seg M A R Y n s₀ c ((execs (if b = true then body else orelse) env).wrap K J gd lv) fs s')
      (fun x s' => Seg M A R Y n s₀ c (J x) fs s') s) :
    Seg M A R Y n s₀ c ((exec (.If test body orelse pos) env).wrap K J gd lv) fs s := by
  rw [exec_If]
  refine seg_bind_wrap (wpAny_standAt ?_)
  refine seg_bind_wrap (wpAny_mono h (fun b s' hb => ?_) fun _ _ hx => hx)
  cases b with
  | true => exact hb
  | false => exact hb
theorem seg_For {M : Model} {target iter : Expr} {body orelse : List Stmt} {pos : Pos} (hs : ∀ x, foldedSetIterable iter env x = pure x)
    (h : wpAny M (A.over c fs) (eval iter env) (fun x s1 => wpAny M (A.over c fs) (pyIter x) (fun it s2 => ∀ p, Seg M A R Y n s₀ (.forLoop target it body orelse env) (M.den (.forLoop target it body orelse env))
      (.ret (fun r => ((match r with | .ok f => (.pure f : Sem Flow) | .error e => .raise e).onRaise (cameBack env)).wrap K J gd lv) none (gd false) (lv []) c p [] :: fs) s2) (fun x s' => Seg M A R Y n s₀ c (J x) fs s') s1)
      (fun x s' => Seg M A R Y n s₀ c (J x) fs s') s) :
    Seg M A R Y n s₀ c ((exec (.For target iter body orelse pos) env).wrap K J gd lv) fs s := by
  rw [exec_For]
  refine seg_bind_wrap (wpAny_standAt ?_)
  refine seg_bind_wrap (wpAny_mono h (fun x s1 h1 => ?_) fun _ _ hx => hx)
  refine seg_bind_wrap (wpAny_of_eq (hs x) ?_)
  refine seg_bind_wrap (wpAny_standAt ?_)
  refine seg_bind_wrap (wpAny_holding (wpAny_mono h1 (fun it s2 h2 => ?_) fun _ _ hx => hx))
  exact seg_call h2
/-- an exception in a loop's own code -/
def notedIn (env : Env) (x : Value) : Sem PySem.Fin := (do noteFrame x env; theTreesLotGoes x : Sem Unit).wrap (fun _ => .raise x) .raise id id
/-- what a loop does behind its body -/
def loopK (c : Code) : Flow → Sem PySem.Fin
  | .next => .pure (.again c)
  | .cont => .pure (.again c)
  | .brk => .pure (.done .next)
  | .ret v => .pure (.done (.ret v))
theorem seg_forLoop {target : Expr} {it : Value} {body : List Stmt}
    (h : wpAny (model prog w) (A.over (.forLoop target it body [] env) fs) (pyNext it) (fun r s1 => match r with
        | none => Seg (model prog w) A R Y n s₀ (.forLoop target it body [] env) (.pure (.again (.block [] env))) fs s1
        | some v => wpAny (model prog w) (A.over (.forLoop target it body [] env) fs) (letOwnedTupleGo target it v) (fun _ s2 =>
            wpAny (model prog w) (A.over (.forLoop target it body [] env) fs) (assign target env v) (fun _ s3 =>
              Seg (model prog w) A R Y n s₀ (.forLoop target it body [] env) ((execs body env).wrap (loopK (.forLoop target it body [] env)) (notedIn env) id id) fs s3)
              (fun x s' => Seg (model prog w) A R Y n s₀ (.forLoop target it body [] env) (notedIn env x) fs s') s2)
            (fun x s' => Seg (model prog w) A R Y n s₀ (.forLoop target it body [] env) (notedIn env x) fs s') s1)
      (fun x s' => Seg (model prog w) A R Y n s₀ (.forLoop target it body [] env) (notedIn env x) fs s') s) :
    Seg (model prog w) A R Y n s₀ (.forLoop target it body [] env) ((model prog w).den (.forLoop target it body [] env)) fs s := by
  show Seg _ A R Y n s₀ _ ((forTurn target it body [] env).onRaise (fun x => do noteFrame x env; theTreesLotGoes x)) fs s
  unfold forTurn
  rw [Sem.onRaise_eq_wrap]
  have ej : ∀ x, ((do noteFrame x env; theTreesLotGoes x : Sem Unit).bind fun _ => (.raise x : Sem PySem.Fin)) = notedIn env x := fun x => Sem.bind_eq_wrap _ _
  have eJ : (fun x => ((do noteFrame x env; theTreesLotGoes x : Sem Unit).bind fun _ => (.raise x : Sem PySem.Fin))) = notedIn env := funext ej
  rw [eJ]
  refine seg_bind_wrap (wpAny_standAt ?_)
  refine seg_bind_wrap (wpAny_onRaise (wpAny_mono h (fun r s1 h1 => ?_) fun _ _ hx => wpAny_standAt hx))
  cases r with
  | none => exact h1
  | some v =>
    refine seg_bind_wrap (wpAny_mono h1 (fun _ s2 h2 => ?_) fun _ _ hx => hx)
    refine seg_bind_wrap (wpAny_mono h2 (fun _ s3 h3 => ?_) fun _ _ hx => hx)
    rw [Sem.bind_eq_wrap', Sem.wrap_wrap]
    rw [Sem.wrap_congr (execs body env) _ _ (K' := loopK (.forLoop target it body [] env)) (H' := notedIn env) (fun f => by cases f <;> rfl) (fun e => by rfl)]
    exact h3
/-- the end of a loop without an else -/
theorem seg_noElse {c' : Code} (h : Seg (model prog w) A R Y n s₀ (.block [] env) (.pure (.done .next)) fs s) : Seg (model prog w) A R Y n s₀ c' (.pure (.again (.block [] env))) fs s := by
  refine seg_again rfl ?_
  exact h
end
section
variable {X : Cx}
/-- a for in a generator: W by the turn, a measure, what is out so far -/
def tGFor (wi : TI) (g : TG) (tb : TGn) : TGn := fun D ys σ H => wi σ H fun J H1 => ∃ W : Nat → Nat → List V → L2.St → Hp → Prop, (∃ m, W 0 m ys σ H1) ∧ ∀ i m ys σ H, W i m ys σ H →
  (J.stop i H ∧ D.nx ys σ H) ∨ (J.go i H ∧ ∃ N : List V → L2.St → Hp → Prop, (∀ ys' σ' H', N ys' σ' H' → ∃ m', m' < m ∧ W (i + 1) m' ys' σ' H') ∧ ∀ x H', J.yld i H x H' → g x σ H' fun σ2 H2 => tb { D with nx := N, ct := N, bk := D.nx } ys σ2 H2)
def tGIf (c : TT) (t u : TGn) : TGn := fun D ys σ H => c σ H fun b H1 => if b = true then t D ys σ H1 else u D ys σ H1
theorem gs_if {test : Expr} {body orelse : List Stmt} {pos : Pos} {tc : TT} {t u : TGn} (hc : PT X test tc) (ht : GSs X body t) (hu : GSs X orelse u) : GS X (.If test body orelse pos) (tGIf tc t u) := by
  refine ⟨fun A S ip R n ys s₀ c fs K J gd lv s σ H D g hn k hI h => ?_⟩
  obtain ⟨acc, cc, r, I⟩ := hI
  refine seg_If ?_
  rw [g.over]
  refine wpAny_mono (hc.run _ s σ H _ I h) (fun b s' hb => ?_) fun x s' hx => k.exc n s₀ x s' hx
  obtain ⟨H1, I1, q⟩ := hb
  cases b with
  | true => exact ht.run A S ip R n ys s₀ c fs K J gd lv s' σ H1 D g hn k ⟨acc, cc, r, I1⟩ q
  | false => exact hu.run A S ip R n ys s₀ c fs K J gd lv s' σ H1 D g hn k ⟨acc, cc, r, I1⟩ q
theorem gc_for {S : Addr} {ip pl : List (Addr × Obj)} {A : Around} {c c' : Code} {fs : List Frame} {gd : Bool → Bool} {k : Result → Sem PySem.Fin} {l kp : List Value} {p : Pos} (g : GC X S ip A c fs gd) (hpl : ∀ q ∈ pl, q.1 ≠ S) (hw : c'.weight = 0) (hu : c'.cUnits = 0) :
    GC X S (ip ++ pl) A c' (.ret k none (gd false) l c p kp :: fs) id where
  pn := g.pn
  ip := fun q hq => (List.mem_append.mp hq).elim (g.ip q) (hpl q)
  apart := g.apart
  over := (over_loop hw hu).trans g.over
  split := by
    show (splitAtGen fs).map _ = none
    rw [g.split]; rfl
  guard := by
    show (gd false || fs.any Frame.guarded) = false
    rw [g.gd, g.guard]; rfl
  gd := rfl
theorem gs_for {target iter : Expr} {body : List Stmt} {pos : Pos} {wi : TI} {g : TG} {tb : TGn} (hp : PassesOwn (model X.prog X.w) X.A X.env X.xe) (hc : X.calm = true) (hi : PI X target iter wi) (hg : PG X target g) (hb : GSs X body tb)
    (hs : ∀ x, foldedSetIterable iter X.env x = pure x := by intro _; rfl) : GS X (.For target iter body [] pos) (tGFor wi g tb) := by
  refine ⟨fun A S ip R n ys s₀ c fs K J gd lv s σ H D gc hn k hI ht => ?_⟩
  obtain ⟨acc, cc, r, I⟩ := hI
  refine seg_For hs ?_
  rw [gc.over]
  have exq : ∀ (n : Nat) (s₀ : Shared) (x : Value) (s' : Shared), X.xe x s' → Seg (model X.prog X.w) A R (GY X S) n s₀ c (J x) fs s' := fun n s₀ x s' hx => k.exc n s₀ x s' hx
  refine wpAny_mono (hi.run _ s σ H _ I ht) (fun v s1 h1 => wpAny_mono h1 (fun itv s2 h2 => ?_) fun x s' hx => exq n s₀ x s' hx) fun x s' hx => exq n s₀ x s' hx
  obtain ⟨it, fp, tn, JJ, H2, e, I2, T, st2, f2, W, ⟨m0, w0⟩, turn⟩ := h2
  subst e
  intro p
  -- what stays true of the iterator's objects through the loop
  have apart : ∀ b ∈ fp, b ≠ S := fun b hb z => (f2 b hb).2.2.2.2.2 (S, lstObj acc cc) (List.mem_append_right _ List.mem_cons_self) z.symm
  have stat : ∀ {acc' : Array Value} {cc' : Nat} {H' : Hp}, (∀ b ∈ fp, H' b = none) → ∀ b ∈ fp, FpOk X ((S, lstObj acc' cc') :: ip) H' b := fun {acc' cc' H'} hn b hb => by
    obtain ⟨_, f1, f3, f4, f5, f6⟩ := f2 b hb
    refine ⟨hn b hb, f1, f3, f4, f5, fun q hq => ?_⟩
    rcases List.mem_append.mp hq with hq | hq
    · exact f6 q (List.mem_append_left _ hq)
    · rcases List.mem_cons.mp hq with hq | hq
      · rw [hq]
        exact (apart b hb).symm
      · exact f6 q (List.mem_append_right _ (List.mem_cons_of_mem _ hq))
  have gl := fun (pl : List (Addr × Obj)) (hpl : ∀ q ∈ pl, q.1 ≠ S) (kk : Result → Sem PySem.Fin) => gc_for (k := kk) (c' := .forLoop target (.ref it) body [] X.env) (l := lv []) (kp := []) (p := p) gc hpl rfl rfl
  have loop : ∀ (m i n : Nat) (ys : List V) (s₀ s : Shared) (σ : L2.St) (H : Hp), n + ys.length = sizeLine → W i m ys σ H → GI X S ip ys σ H s → tn i s.heap → (∀ b ∈ fp, H b = none) →
      Seg (model X.prog X.w) A R (GY X S) n s₀ (.forLoop target (.ref it) body [] X.env) ((model X.prog X.w).den (.forLoop target (.ref it) body [] X.env))
        (.ret (fun r => ((match r with | .ok f => (.pure f : Sem Flow) | .error e => .raise e).onRaise (cameBack X.env)).wrap K J gd lv) none (gd false) (lv []) c p [] :: fs) s := by
    intro m
    induction m using Nat.strongRecOn with
    | ind m ih =>
      intro i n ys s₀ s σ H hn w hI st fr
      have ov := (gl [] (fun q hq => by simp at hq) (fun r => ((match r with | .ok f => (.pure f : Sem Flow) | .error e => .raise e).onRaise (cameBack X.env)).wrap K J gd lv)).over
      have ee : ∀ (n : Nat) (s₀ : Shared) (x : Value) (s' : Shared), X.xe x s' → Seg (model X.prog X.w) A R (GY X S) n s₀ (.forLoop target (.ref it) body [] X.env) (notedIn X.env x)
          (.ret (fun r => ((match r with | .ok f => (.pure f : Sem Flow) | .error e => .raise e).onRaise (cameBack X.env)).wrap K J gd lv) none (gd false) (lv []) c p [] :: fs) s' := fun n s₀ x s' hx => by
        refine seg_wrap ?_
        rw [ov]
        refine wpAny_bind (wpAny_mono (hp x s' hx) (fun _ s'' hcb => wpAny_theTreesLotGoes ?_) fun y s'' hcb => ?_)
        · exact seg_leaf (.error x) (seg_cameBack gc k hcb)
        · exact seg_leaf (.error y) (seg_cameBack gc k hcb)
      refine seg_forLoop ?_
      rw [ov]
      obtain ⟨acc, cc, r, I⟩ := hI
      rcases turn i m ys σ H w with ⟨stop, qn⟩ | ⟨go, N, hN, step⟩
      · refine wpAny_mono (T.done X rfl rfl rfl hc i _ s σ H X.xe I (stat fr) st stop) (fun r1 s4 h4 => ?_) fun x s' hx => ee n s₀ x s' hx
        obtain ⟨hr, I4⟩ := h4
        subst hr
        refine seg_noElse ?_
        exact seg_leaf (.ok .next) (k.ok n ys s₀ s4 .next hn ⟨σ, H, ⟨acc, cc, r, I4⟩, qn⟩)
      · refine wpAny_mono (T.item X rfl rfl rfl hc i _ s σ H X.xe I (stat fr) st go) (fun r1 s4 h4 => ?_) fun x s' hx => ee n s₀ x s' hx
        obtain ⟨u, hr, h4⟩ := h4
        subst hr
        refine wpAny_mono h4 (fun _ s5 h5 => ?_) fun x s' hx => ee n s₀ x s' hx
        obtain ⟨x, H5, I5, r5, y5, st5, fr5⟩ := h5
        have I5' := I5.pinned (stat fr5) (T.obj _ _ st5)
        refine wpAny_mono (hg.run _ s5 σ H5 x u _ I5' r5 (step x H5 y5)) (fun _ s6 h6 => ?_) fun x s' hx => ee n s₀ x s' hx
        obtain ⟨σ6, H6, I6, q6⟩ := h6
        have pl : ∀ q ∈ pinsAt fp s5.heap, q.1 ≠ S := fun q hq => apart q.1 (of_pinsAt hq).1
        refine hb.run A S (ip ++ pinsAt fp s5.heap) R n ys s₀ _ _ _ _ id id s6 σ6 H6 { D with nx := N, ct := N, bk := D.nx } (gl _ pl _) hn ⟨fun n' ys' s₀' s7 f hn' hs7 => ?_, fun n' s₀' x s7 hx => ee n' s₀' x s7 hx⟩ ⟨acc, cc, r, I6⟩ q6
        have un : ∀ {ys7 : List V} {σ7 : L2.St} {H7 : Hp}, GI X S (ip ++ pinsAt fp s5.heap) ys7 σ7 H7 s7 → GI X S ip ys7 σ7 H7 s7 := fun {ys7 σ7 H7} ⟨a, b, rr, I7⟩ => ⟨a, b, rr, Inv.unpinned (pins := (S, lstObj a b) :: ip) I7⟩
        have again : ∀ {σ7 : L2.St} {H7 : Hp}, GI X S (ip ++ pinsAt fp s5.heap) ys' σ7 H7 s7 → N ys' σ7 H7 → Seg (model X.prog X.w) A R (GY X S) n' s₀' (.forLoop target (.ref it) body [] X.env) (.pure (.again (.forLoop target (.ref it) body [] X.env)))
            (.ret (fun r => ((match r with | .ok f => (.pure f : Sem Flow) | .error e => .raise e).onRaise (cameBack X.env)).wrap K J gd lv) none (gd false) (lv []) c p [] :: fs) s7 := fun {σ7 H7} I7 n7 => by
          obtain ⟨m', hm, w7⟩ := hN ys' σ7 H7 n7
          have I7' := I7
          obtain ⟨a, b, rr, J7⟩ := I7'
          have pin7 : ∀ {b : Addr} {o : Obj}, b ∈ fp → s5.heap.get? b = some o → s7.heap.get? b = some o ∧ H7 b = none := fun {b o} hb e => by
            have z := J7.pin (b, o) (List.mem_append_right _ (List.mem_cons_of_mem _ (List.mem_append_right _ (mem_pinsAt hb e))))
            exact ⟨z.1, z.2.1⟩
          refine seg_again rfl (ih m' hm (i + 1) n' ys' s₀' s7 σ7 H7 hn' w7 (un I7) (T.keep _ _ _ st5 fun b hb o e => (pin7 hb e).1) fun b hb => ?_)
          obtain ⟨o, e, d⟩ := T.obj _ _ st5 b hb
          exact (pin7 hb e).2
        cases f with
        | next =>
          obtain ⟨σ7, H7, I7, n7⟩ := hs7
          exact again I7 n7
        | cont =>
          obtain ⟨σ7, H7, I7, n7⟩ := hs7
          exact again I7 n7
        | brk =>
          obtain ⟨σ7, H7, I7, q7⟩ := hs7
          exact seg_leaf (.ok .next) (k.ok n' ys' s₀' s7 .next hn' ⟨σ7, H7, un I7, q7⟩)
        | ret v =>
          obtain ⟨x7, σ7, H7, I7, r7, q7⟩ := hs7
          exact seg_leaf (.ok (.ret v)) (k.ok n' ys' s₀' s7 (.ret v) hn' ⟨x7, σ7, H7, un I7, r7, q7⟩)
  exact loop m0 0 n ys s₀ s2 σ H2 hn w0 ⟨acc, cc, r, I2⟩ st2 fun b hb => (f2 b hb).1
end
section
variable {X : Cx} {k n : Nat} {f : Addr} {fd : FuncData} {ps ks : List Str} {sp : SpG} {x : Str} {p pos' : Pos} {g : List Value → List Value → List Value} {gV : List V → List V → List V}
/-- f(e, .., k = v, ..) of a generator def -/
def tCallGK (n m : Nat) (sp : SpG) (gV : List V → List V → List V) (E : XK) (t tk : TA) : TGen := fun σ H cont => t σ H fun vs H1 => tk σ H1 fun zs H2 => vs.length = n ∧ zs.length = m ∧ sp (gV vs zs) H2 cont E
theorem pgen_callK {E : XK} {e : Expr} {es : List Expr} {kws : List Keyword} {t tk : TA} (F : GFn X.prog X.w X.K X.mg X.base k f fd ps sp) (hr : Room k X.A) (hg : Gl X x) (hm : X.mg x = some (.ref f)) (hk : PySem.W.keepIn X.K (.ref f) = true) (hb : KBn X.K fd ps n ks g gV)
    (ha : PA X (e :: es) t) (hkw : PK X kws tk) (hall : (backToKw pos' (keywordEach kws X.env)).all (·.1.isSome) = true := by rfl) (hks : (backToKw pos' (keywordEach kws X.env)).filterMap (·.1) = ks := by rfl)
    (hdb : (x == ("__debug__" : Str)) = false := by decide) (he : starEach (e :: es) X.env = (false, eval e X.env) :: starEach es X.env := by rfl)
    (hpl : ((backTo pos' (starEach (e :: es) X.env)).any (·.1) || (backToKw pos' (keywordEach kws X.env)).any (·.1.isNone)) = false := by rfl) :
    PGen X k (.Call (.Name x p) (e :: es) kws pos') (tCallGK n ks.length sp gV E t tk) E := by
  refine ⟨fun pins s σ H cont I h => ?_⟩
  refine wpAny_Call_Name_kw (ld_glob I hg hm ?_ hdb)
  refine PySem.W.callWith_KW (h₀ := X.base) I.ok.mod.kin hk hall (thn (ha.run pos' pins s σ H _ I h) fun us s1 ⟨vs, H1, I1, r, q⟩ => ?_) hpl he
  refine thn (hkw.run pos' pins s1 σ H1 _ I1 q) fun ws s2 ⟨zs, H2, I2, rz, l1, l2, q2⟩ => ⟨I2.kIn, ?_⟩
  rw [hks]
  have r2 := hb.rel r rz
  refine wpAny_call (codeAny_mono (F.run X.A X.stack s2 H2 ⟨us, ks.zip ws⟩ (g us ws) (gV vs zs) cont E hr I2.env0 (hb.to s2 us ws I2.kIn (r.length.symm.trans l1) (rz.length.symm.trans l2)) r2 q2) fun r s' hq => ?_)
  cases r with
  | error e => exact False.elim hq
  | ok fl =>
    cases fl with
    | ret u => exact ⟨H2, s2, [], I2, .nil, hq⟩
    | next => exact False.elim hq
    | brk => exact False.elim hq
    | cont => exact False.elim hq
end
end Tf

/-! Words, languages, rests: the plain mathematics, first part. -/
namespace Tf
open PySem

inductive Kd where
  | seq | cho | par | loop
  deriving DecidableEq
inductive R where
  | step (n : Int)
  | done
  | bin (k : Kd) (a b : R)
  deriving DecidableEq

abbrev Wd := List Int
abbrev Lang := Wd → Prop

inductive Mix : Wd → Wd → Wd → Prop where
  | nil : Mix [] [] []
  | left {x : Int} {u v w : Wd} : Mix u v w → Mix (x :: u) v (x :: w)
  | right {x : Int} {u v w : Wd} : Mix u v w → Mix u (x :: v) (x :: w)

def Lcat (A B : Lang) : Lang := fun w => ∃ u v, w = u ++ v ∧ A u ∧ B v
def Lmix (A B : Lang) : Lang := fun w => ∃ u v, A u ∧ B v ∧ Mix u v w
def Lor (A B : Lang) : Lang := fun w => A w ∨ B w
inductive Lstar (A : Lang) : Wd → Prop where
  | nil : Lstar A []
  | cons {u v : Wd} : A u → Lstar A v → Lstar A (u ++ v)
def Lloop (A B : Lang) : Lang := Lcat A (Lstar (Lcat B A))
def Lop : Kd → Lang → Lang → Lang
  | .seq => Lcat
  | .cho => Lor
  | .par => Lmix
  | .loop => Lloop
def der (s : Int) (A : Lang) : Lang := fun w => A (s :: w)

theorem Lcat_mono {A A' B B' : Lang} (h1 : ∀ w, A w → A' w) (h2 : ∀ w, B w → B' w) {w : Wd} : Lcat A B w → Lcat A' B' w
  | ⟨u, v, e, a, b⟩ => ⟨u, v, e, h1 u a, h2 v b⟩
theorem Lmix_mono {A A' B B' : Lang} (h1 : ∀ w, A w → A' w) (h2 : ∀ w, B w → B' w) {w : Wd} : Lmix A B w → Lmix A' B' w
  | ⟨u, v, a, b, m⟩ => ⟨u, v, h1 u a, h2 v b, m⟩
theorem Lstar_mono {A A' : Lang} (h : ∀ w, A w → A' w) {w : Wd} (x : Lstar A w) : Lstar A' w := by
  induction x with
  | nil => exact .nil
  | cons a _ ih => exact .cons (h _ a) ih
theorem Lop_mono {A A' B B' : Lang} (h1 : ∀ w, A w → A' w) (h2 : ∀ w, B w → B' w) : ∀ (k : Kd) {w : Wd}, Lop k A B w → Lop k A' B' w
  | .seq, _, h => Lcat_mono h1 h2 h
  | .cho, _, .inl h => .inl (h1 _ h)
  | .cho, _, .inr h => .inr (h2 _ h)
  | .par, _, h => Lmix_mono h1 h2 h
  | .loop, _, h => Lcat_mono h1 (fun _ q => Lstar_mono (fun _ z => Lcat_mono h2 h1 z) q) h
theorem Lop_congr {A A' B B' : Lang} (h1 : ∀ w, A w ↔ A' w) (h2 : ∀ w, B w ↔ B' w) (k : Kd) (w : Wd) : Lop k A B w ↔ Lop k A' B' w :=
  ⟨Lop_mono (fun w => (h1 w).mp) (fun w => (h2 w).mp) k, Lop_mono (fun w => (h1 w).mpr) (fun w => (h2 w).mpr) k⟩

theorem Mix_nil_left : ∀ v : Wd, Mix [] v v
  | [] => .nil
  | _ :: v => .right (Mix_nil_left v)
theorem Mix_nil_right : ∀ u : Wd, Mix u [] u
  | [] => .nil
  | _ :: u => .left (Mix_nil_right u)
theorem Mix_nil_left_eq {v w : Wd} (h : Mix [] v w) : w = v := by
  generalize e : ([] : Wd) = u at h
  induction h with
  | nil => rfl
  | left _ _ => cases e
  | right _ ih => rw [ih e]
theorem Mix_nil_right_eq {u w : Wd} (h : Mix u [] w) : w = u := by
  generalize e : ([] : Wd) = v at h
  induction h with
  | nil => rfl
  | left _ ih => rw [ih e]
  | right _ _ => cases e
theorem Mix_append : ∀ u v : Wd, Mix u v (u ++ v)
  | [], v => Mix_nil_left v
  | _ :: u, v => .left (Mix_append u v)
theorem Mix_length {u v w : Wd} (h : Mix u v w) : w.length = u.length + v.length := by
  induction h with
  | nil => rfl
  | left _ ih => simp only [List.length_cons, ih]; omega
  | right _ ih => simp only [List.length_cons, ih]; omega
theorem Mix_cons {u v w : Wd} {s : Int} : Mix u v (s :: w) ↔ (∃ u', u = s :: u' ∧ Mix u' v w) ∨ ∃ v', v = s :: v' ∧ Mix u v' w := by
  constructor
  · intro h
    cases h with
    | left h => exact .inl ⟨_, rfl, h⟩
    | right h => exact .inr ⟨_, rfl, h⟩
  · rintro (⟨_, rfl, h⟩ | ⟨_, rfl, h⟩)
    · exact .left h
    · exact .right h
theorem Mix_nil {u v : Wd} : Mix u v [] ↔ u = [] ∧ v = [] := by
  constructor
  · intro h
    cases h
    exact ⟨rfl, rfl⟩
  · rintro ⟨rfl, rfl⟩
    exact .nil

theorem Lcat_nil {A B : Lang} : Lcat A B [] ↔ A [] ∧ B [] := by
  constructor
  · rintro ⟨u, v, e, a, b⟩
    obtain ⟨rfl, rfl⟩ := List.append_eq_nil_iff.mp e.symm
    exact ⟨a, b⟩
  · rintro ⟨a, b⟩
    exact ⟨[], [], rfl, a, b⟩
theorem Lcat_cons {A B : Lang} {s : Int} {w : Wd} : Lcat A B (s :: w) ↔ Lcat (der s A) B w ∨ (A [] ∧ B (s :: w)) := by
  constructor
  · rintro ⟨u, v, e, a, b⟩
    cases u with
    | nil =>
      have e' : s :: w = v := e
      subst e'
      exact .inr ⟨a, b⟩
    | cons x u =>
      have e' : s :: w = x :: (u ++ v) := e
      injection e' with e1 e2
      subst e1
      exact .inl ⟨u, v, e2, a, b⟩
  · rintro (⟨u, v, rfl, a, b⟩ | ⟨a, b⟩)
    · exact ⟨s :: u, v, rfl, a, b⟩
    · exact ⟨[], s :: w, rfl, a, b⟩
theorem Lcat_assoc {A B C : Lang} {w : Wd} : Lcat (Lcat A B) C w ↔ Lcat A (Lcat B C) w := by
  constructor
  · rintro ⟨u, v, rfl, ⟨x, y, rfl, a, b⟩, c⟩
    exact ⟨x, y ++ v, by rw [List.append_assoc], a, y, v, rfl, b, c⟩
  · rintro ⟨u, v, rfl, a, x, y, rfl, b, c⟩
    exact ⟨u ++ x, y, by rw [List.append_assoc], ⟨u, x, rfl, a, b⟩, c⟩
theorem Lmix_nil {A B : Lang} : Lmix A B [] ↔ A [] ∧ B [] := by
  constructor
  · rintro ⟨u, v, a, b, m⟩
    obtain ⟨rfl, rfl⟩ := Mix_nil.mp m
    exact ⟨a, b⟩
  · rintro ⟨a, b⟩
    exact ⟨[], [], a, b, .nil⟩
theorem Lmix_cons {A B : Lang} {s : Int} {w : Wd} : Lmix A B (s :: w) ↔ Lmix (der s A) B w ∨ Lmix A (der s B) w := by
  constructor
  · rintro ⟨u, v, a, b, m⟩
    rcases Mix_cons.mp m with ⟨u', rfl, m'⟩ | ⟨v', rfl, m'⟩
    · exact .inl ⟨u', v, a, b, m'⟩
    · exact .inr ⟨u, v', a, b, m'⟩
  · rintro (⟨u, v, a, b, m⟩ | ⟨u, v, a, b, m⟩)
    · exact ⟨s :: u, v, a, b, .left m⟩
    · exact ⟨u, s :: v, a, b, .right m⟩
theorem Lstar_unfold {A : Lang} {w : Wd} : Lstar A w ↔ w = [] ∨ Lcat A (Lstar A) w := by
  constructor
  · intro h
    cases h with
    | nil => exact .inl rfl
    | cons a t => exact .inr ⟨_, _, rfl, a, t⟩
  · rintro (rfl | ⟨u, v, rfl, a, t⟩)
    · exact .nil
    · exact .cons a t
theorem Lstar_cons {A : Lang} {s : Int} {w : Wd} : Lstar A (s :: w) ↔ Lcat (der s A) (Lstar A) w := by
  constructor
  · intro h
    generalize e : s :: w = x at h
    induction h with
    | nil => cases e
    | @cons u v a t ih =>
      cases u with
      | nil => exact ih e
      | cons y u =>
        have e' : s :: w = y :: (u ++ v) := e
        injection e' with e1 e2
        subst e1
        exact ⟨u, v, e2, a, t⟩
  · rintro ⟨u, v, rfl, a, t⟩
    exact Lstar.cons (u := s :: u) a t
theorem Lstar_append {A : Lang} {u v : Wd} (h : Lstar A u) (h2 : Lstar A v) : Lstar A (u ++ v) := by
  induction h with
  | nil => exact h2
  | cons a _ ih => rw [List.append_assoc]; exact .cons a ih
theorem Lstar_one {A : Lang} {u : Wd} (h : A u) : Lstar A u := by
  have := Lstar.cons h Lstar.nil
  rwa [List.append_nil] at this
theorem Lloop_nil {A B : Lang} : Lloop A B [] ↔ A [] := by
  constructor
  · intro h; exact (Lcat_nil.mp h).1
  · intro h; exact Lcat_nil.mpr ⟨h, .nil⟩
/-- the first step of a loop: of a pass of the body, or, where the body may be empty, of a pass of the redo part -/
theorem Lloop_cons {A B : Lang} {s : Int} {w : Wd} : Lloop A B (s :: w) ↔ Lcat (der s A) (Lstar (Lcat B A)) w ∨ (A [] ∧ Lcat (der s B) (Lloop A B) w) := by
  constructor
  · intro h
    rcases Lcat_cons.mp h with h | ⟨a, h⟩
    · exact .inl h
    · obtain ⟨u, v, rfl, d, t⟩ := Lstar_cons.mp h
      rcases Lcat_cons.mp d with d | ⟨_, d⟩
      · refine .inr ⟨a, ?_⟩
        exact Lcat_assoc.mp ⟨u, v, rfl, d, t⟩
      · exact .inl ⟨u, v, rfl, d, t⟩
  · rintro (h | ⟨a, h⟩)
    · exact Lcat_cons.mpr (.inl h)
    · refine Lcat_cons.mpr (.inr ⟨a, ?_⟩)
      obtain ⟨u, v, rfl, d, t⟩ := Lcat_assoc.mpr h
      exact Lstar_cons.mpr ⟨u, v, rfl, Lcat_cons.mpr (.inl d), t⟩
/-- what may follow a pass of the body -/
theorem Lstar_again {A B : Lang} {w : Wd} : Lstar (Lcat B A) w ↔ w = [] ∨ Lcat B (Lloop A B) w := by
  rw [Lstar_unfold]
  constructor
  · rintro (h | h)
    · exact .inl h
    · exact .inr (Lcat_assoc.mp h)
  · rintro (h | h)
    · exact .inl h
    · exact .inr (Lcat_assoc.mpr h)

/-! ### rests -/
def R.L : R → Lang
  | .step n => fun w => w = [n]
  | .done => fun w => w = []
  | .bin k a b => Lop k a.L b.L
def canEnd : R → Bool
  | .step _ => false
  | .done => true
  | .bin .loop a _ => canEnd a
  | .bin .cho a b => canEnd a || canEnd b
  | .bin .seq a b => canEnd a && canEnd b
  | .bin .par a b => canEnd a && canEnd b
theorem canEnd_iff : ∀ r : R, canEnd r = true ↔ r.L []
  | .step n => by simp [canEnd, R.L]
  | .done => by simp [canEnd, R.L]
  | .bin .loop a b => by
    show canEnd a = true ↔ Lloop a.L b.L []
    rw [Lloop_nil]; exact canEnd_iff a
  | .bin .cho a b => by
    show (canEnd a || canEnd b) = true ↔ a.L [] ∨ b.L []
    rw [Bool.or_eq_true, canEnd_iff a, canEnd_iff b]
  | .bin .seq a b => by
    show (canEnd a && canEnd b) = true ↔ Lcat a.L b.L []
    rw [Bool.and_eq_true, canEnd_iff a, canEnd_iff b, Lcat_nil]
  | .bin .par a b => by
    show (canEnd a && canEnd b) = true ↔ Lmix a.L b.L []
    rw [Bool.and_eq_true, canEnd_iff a, canEnd_iff b, Lmix_nil]
def joined (k : Kd) (l r : R) : R :=
  if k = .seq ∨ k = .par then (if l = .done then r else if r = .done then l else .bin k l r) else .bin k l r
theorem Lcat_done_left {B : Lang} {w : Wd} : Lcat (R.L .done) B w ↔ B w := by
  constructor
  · rintro ⟨u, v, rfl, a, b⟩
    have a' : u = [] := a
    subst a'
    exact b
  · intro h; exact ⟨[], w, rfl, rfl, h⟩
theorem Lcat_done_right {A : Lang} {w : Wd} : Lcat A (R.L .done) w ↔ A w := by
  constructor
  · rintro ⟨u, v, rfl, a, b⟩
    have b' : v = [] := b
    subst b'
    rw [List.append_nil]; exact a
  · intro h; exact ⟨w, [], by rw [List.append_nil], h, rfl⟩
theorem Lmix_done_left {B : Lang} {w : Wd} : Lmix (R.L .done) B w ↔ B w := by
  constructor
  · rintro ⟨u, v, a, b, m⟩
    have a' : u = [] := a
    subst a'
    rw [Mix_nil_left_eq m]; exact b
  · intro h; exact ⟨[], w, rfl, h, Mix_nil_left w⟩
theorem Lmix_done_right {A : Lang} {w : Wd} : Lmix A (R.L .done) w ↔ A w := by
  constructor
  · rintro ⟨u, v, a, b, m⟩
    have b' : v = [] := b
    subst b'
    rw [Mix_nil_right_eq m]; exact a
  · intro h; exact ⟨w, [], h, rfl, Mix_nil_right w⟩
theorem joined_L (k : Kd) (l r : R) (w : Wd) : (joined k l r).L w ↔ Lop k l.L r.L w := by
  unfold joined
  split
  · rename_i hk
    split
    · rename_i hl
      subst hl
      rcases hk with rfl | rfl
      · exact Lcat_done_left.symm
      · exact Lmix_done_left.symm
    · split
      · rename_i hr
        subst hr
        rcases hk with rfl | rfl
        · exact Lcat_done_right.symm
        · exact Lmix_done_right.symm
      · exact Iff.rfl
  · exact Iff.rfl

/-- a list without its duplicates, by the first of each -/
def dedT {α : Type} [DecidableEq α] (acc : List α) (x : α) : List α := if x ∈ acc then acc else acc ++ [x]
def ded {α : Type} [DecidableEq α] (l : List α) : List α := l.foldl dedT []
section
variable {α : Type} [DecidableEq α]
theorem mem_foldl_dedT : ∀ (l acc : List α) (x : α), x ∈ l.foldl dedT acc ↔ x ∈ acc ∨ x ∈ l
  | [], acc, x => by simp
  | y :: l, acc, x => by
    rw [List.foldl_cons, mem_foldl_dedT l]
    unfold dedT
    split
    · rename_i h
      constructor
      · rintro (h1 | h1)
        · exact .inl h1
        · exact .inr (List.mem_cons_of_mem _ h1)
      · rintro (h1 | h1)
        · exact .inl h1
        · rcases List.mem_cons.mp h1 with rfl | h1
          · exact .inl h
          · exact .inr h1
    · simp only [List.mem_append, List.mem_cons, List.not_mem_nil, or_false]
      constructor
      · rintro ((h | h) | h)
        · exact .inl h
        · exact .inr (.inl h)
        · exact .inr (.inr h)
      · rintro (h | h | h)
        · exact .inl (.inl h)
        · exact .inl (.inr h)
        · exact .inr h
theorem mem_ded {l : List α} {x : α} : x ∈ ded l ↔ x ∈ l := by
  unfold ded
  rw [mem_foldl_dedT]
  simp
theorem nodup_foldl_dedT : ∀ (l acc : List α), acc.Nodup → (l.foldl dedT acc).Nodup
  | [], _, h => h
  | y :: l, acc, h => by
    rw [List.foldl_cons]
    refine nodup_foldl_dedT l _ ?_
    unfold dedT
    split
    · exact h
    · rename_i hn
      rw [List.nodup_append]
      refine ⟨h, by simp, fun a ha b hb => ?_⟩
      rw [List.mem_singleton] at hb
      subst hb
      rintro rfl
      exact hn ha
theorem nodup_ded (l : List α) : (ded l).Nodup := nodup_foldl_dedT l [] List.nodup_nil
theorem length_foldl_dedT : ∀ (l acc : List α), (l.foldl dedT acc).length ≤ acc.length + l.length
  | [], _ => Nat.le_refl _
  | y :: l, acc => by
    rw [List.foldl_cons]
    refine Nat.le_trans (length_foldl_dedT l _) ?_
    unfold dedT
    rw [List.length_cons]
    split
    · omega
    · rw [List.length_append, List.length_singleton]; omega
theorem length_ded (l : List α) : (ded l).length ≤ l.length := by
  have := length_foldl_dedT l []
  simpa [ded] using this
end

def again (a b : R) : R := .bin .cho .done (joined .seq b (.bin .loop a b))
theorem again_L (a b : R) (w : Wd) : (again a b).L w ↔ Lstar (Lcat b.L a.L) w := by
  show (w = [] ∨ (joined .seq b (.bin .loop a b)).L w) ↔ _
  rw [joined_L, Lstar_again]
  exact Iff.rfl
def afterStep : R → Int → List R
  | .step n, s => if n = s then [.done] else []
  | .done, _ => []
  | .bin .loop a b, s => ded ((afterStep a s).map (fun p => joined .seq p (again a b)) ++ if canEnd a = true then (afterStep b s).map (fun p => joined .seq p (.bin .loop a b)) else [])
  | .bin .cho a b, s => ded (afterStep a s ++ afterStep b s)
  | .bin .par a b, s => ded ((afterStep a s).map (fun p => joined .par p b) ++ (afterStep b s).map (fun p => joined .par a p))
  | .bin .seq a b, s => ded ((afterStep a s).map (fun p => joined .seq p b) ++ if canEnd a = true then afterStep b s else [])
theorem cat_of_parts {l : List R} {A B : Lang} {f : R → R} {w : Wd} (h : ∀ w, (∃ r ∈ l, r.L w) ↔ A w) (hf : ∀ r w, (f r).L w ↔ Lcat r.L B w) : (∃ r ∈ l.map f, r.L w) ↔ Lcat A B w := by
  constructor
  · rintro ⟨r, hr, hw⟩
    obtain ⟨p, hp, rfl⟩ := List.mem_map.mp hr
    obtain ⟨u, v, rfl, a, b⟩ := (hf p w).mp hw
    exact ⟨u, v, rfl, (h u).mp ⟨p, hp, a⟩, b⟩
  · rintro ⟨u, v, rfl, a, b⟩
    obtain ⟨p, hp, hu⟩ := (h u).mpr a
    exact ⟨f p, List.mem_map.mpr ⟨p, hp, rfl⟩, (hf p _).mpr ⟨u, v, rfl, hu, b⟩⟩
theorem ex_append {l m : List R} {w : Wd} : (∃ r ∈ l ++ m, r.L w) ↔ (∃ r ∈ l, r.L w) ∨ ∃ r ∈ m, r.L w := by
  constructor
  · rintro ⟨r, h, q⟩
    rcases List.mem_append.mp h with h | h
    · exact .inl ⟨r, h, q⟩
    · exact .inr ⟨r, h, q⟩
  · rintro (⟨r, h, q⟩ | ⟨r, h, q⟩)
    · exact ⟨r, List.mem_append.mpr (.inl h), q⟩
    · exact ⟨r, List.mem_append.mpr (.inr h), q⟩
theorem ex_ded {l : List R} {w : Wd} : (∃ r ∈ ded l, r.L w) ↔ ∃ r ∈ l, r.L w := by
  constructor
  · rintro ⟨r, h, q⟩; exact ⟨r, mem_ded.mp h, q⟩
  · rintro ⟨r, h, q⟩; exact ⟨r, mem_ded.mpr h, q⟩
theorem ex_if {c : Bool} {l : List R} {w : Wd} : (∃ r ∈ (if c = true then l else []), r.L w) ↔ c = true ∧ ∃ r ∈ l, r.L w := by
  cases c
  · simp
  · simp
theorem afterStep_L : ∀ (r : R) (s : Int) (w : Wd), (∃ r' ∈ afterStep r s, r'.L w) ↔ der s r.L w
  | .step n, s, w => by
    show (∃ r' ∈ (if n = s then [R.done] else []), r'.L w) ↔ s :: w = [n]
    by_cases e : n = s
    · subst e
      simp [R.L]
    · rw [if_neg e]
      simp
      intro z
      exact absurd z.symm e
  | .done, s, w => by
    show (∃ r' ∈ ([] : List R), r'.L w) ↔ s :: w = []
    simp
  | .bin .loop a b, s, w => by
    show (∃ r' ∈ (ded _ : List R), r'.L w) ↔ Lloop a.L b.L (s :: w)
    rw [ex_ded, ex_append, ex_if, Lloop_cons, canEnd_iff]
    rw [cat_of_parts (A := der s a.L) (B := Lstar (Lcat b.L a.L)) (afterStep_L a s) (fun r w => by
      rw [joined_L]
      exact Lop_congr (fun _ => Iff.rfl) (again_L a b) .seq w)]
    rw [cat_of_parts (A := der s b.L) (B := Lloop a.L b.L) (afterStep_L b s) (fun r w => joined_L .seq r (.bin .loop a b) w)]
  | .bin .cho a b, s, w => by
    show (∃ r' ∈ (ded _ : List R), r'.L w) ↔ a.L (s :: w) ∨ b.L (s :: w)
    rw [ex_ded, ex_append, afterStep_L a s, afterStep_L b s]
    exact Iff.rfl
  | .bin .seq a b, s, w => by
    show (∃ r' ∈ (ded _ : List R), r'.L w) ↔ Lcat a.L b.L (s :: w)
    rw [ex_ded, ex_append, ex_if, Lcat_cons, canEnd_iff, afterStep_L b s]
    rw [cat_of_parts (A := der s a.L) (B := b.L) (afterStep_L a s) (fun r w => joined_L .seq r b w)]
    exact Iff.rfl
  | .bin .par a b, s, w => by
    show (∃ r' ∈ (ded _ : List R), r'.L w) ↔ Lmix a.L b.L (s :: w)
    rw [ex_ded, ex_append, Lmix_cons]
    constructor
    · rintro (⟨r, hr, h⟩ | ⟨r, hr, h⟩)
      · obtain ⟨p, hp, rfl⟩ := List.mem_map.mp hr
        obtain ⟨u, v, x, y, m⟩ := (joined_L .par p b w).mp h
        exact .inl ⟨u, v, (afterStep_L a s u).mp ⟨p, hp, x⟩, y, m⟩
      · obtain ⟨p, hp, rfl⟩ := List.mem_map.mp hr
        obtain ⟨u, v, x, y, m⟩ := (joined_L .par a p w).mp h
        exact .inr ⟨u, v, x, (afterStep_L b s v).mp ⟨p, hp, y⟩, m⟩
    · rintro (⟨u, v, x, y, m⟩ | ⟨u, v, x, y, m⟩)
      · obtain ⟨p, hp, h⟩ := (afterStep_L a s u).mpr x
        exact .inl ⟨_, List.mem_map.mpr ⟨p, hp, rfl⟩, (joined_L .par p b w).mpr ⟨u, v, h, y, m⟩⟩
      · obtain ⟨p, hp, h⟩ := (afterStep_L b s v).mpr y
        exact .inr ⟨_, List.mem_map.mpr ⟨p, hp, rfl⟩, (joined_L .par a p w).mpr ⟨u, v, x, h, m⟩⟩

/-! ### first steps, a shortest run -/
def firstSteps : R → List Int
  | .step n => [n]
  | .done => []
  | .bin .cho a b => firstSteps a ++ firstSteps b
  | .bin .par a b => firstSteps a ++ firstSteps b
  | .bin .seq a b => firstSteps a ++ if canEnd a = true then firstSteps b else []
  | .bin .loop a b => firstSteps a ++ if canEnd a = true then firstSteps b else []
theorem L_some : ∀ r : R, ∃ w, r.L w
  | .step n => ⟨[n], rfl⟩
  | .done => ⟨[], rfl⟩
  | .bin .seq a b => let ⟨u, hu⟩ := L_some a; let ⟨v, hv⟩ := L_some b; ⟨u ++ v, u, v, rfl, hu, hv⟩
  | .bin .cho a _ => let ⟨u, hu⟩ := L_some a; ⟨u, .inl hu⟩
  | .bin .par a b => let ⟨u, hu⟩ := L_some a; let ⟨v, hv⟩ := L_some b; ⟨u ++ v, u, v, hu, hv, Mix_append u v⟩
  | .bin .loop a _ => let ⟨u, hu⟩ := L_some a; ⟨u, u, [], by rw [List.append_nil], hu, .nil⟩
/-- every rest with which a run goes on is heard of -/
theorem firstSteps_of : ∀ (r : R) (s : Int) (w : Wd), r.L (s :: w) → s ∈ firstSteps r
  | .step n, s, w, h => by
    have e : s :: w = [n] := h
    injection e with e1 _
    subst e1
    simp [firstSteps]
  | .done, s, w, h => by
    have e : s :: w = [] := h
    cases e
  | .bin .cho a b, s, w, h => by
    rcases (show a.L (s :: w) ∨ b.L (s :: w) from h) with h | h
    · exact List.mem_append.mpr (.inl (firstSteps_of a s w h))
    · exact List.mem_append.mpr (.inr (firstSteps_of b s w h))
  | .bin .par a b, s, w, h => by
    rcases Lmix_cons.mp (show Lmix a.L b.L (s :: w) from h) with ⟨u, v, x, y, m⟩ | ⟨u, v, x, y, m⟩
    · exact List.mem_append.mpr (.inl (firstSteps_of a s u x))
    · exact List.mem_append.mpr (.inr (firstSteps_of b s v y))
  | .bin .seq a b, s, w, h => by
    rcases Lcat_cons.mp (show Lcat a.L b.L (s :: w) from h) with ⟨u, v, _, x, y⟩ | ⟨x, y⟩
    · exact List.mem_append.mpr (.inl (firstSteps_of a s u x))
    · refine List.mem_append.mpr (.inr ?_)
      rw [if_pos ((canEnd_iff a).mpr x)]
      exact firstSteps_of b s w y
  | .bin .loop a b, s, w, h => by
    rcases Lloop_cons.mp (show Lloop a.L b.L (s :: w) from h) with ⟨u, v, _, x, y⟩ | ⟨x, u, v, _, y, _⟩
    · exact List.mem_append.mpr (.inl (firstSteps_of a s u x))
    · refine List.mem_append.mpr (.inr ?_)
      rw [if_pos ((canEnd_iff a).mpr x)]
      exact firstSteps_of b s u y
def shortest : R → Wd
  | .step n => [n]
  | .done => []
  | .bin .loop a _ => shortest a
  | .bin .cho a b => if (shortest b).length < (shortest a).length then shortest b else shortest a
  | .bin .seq a b => shortest a ++ shortest b
  | .bin .par a b => shortest a ++ shortest b
theorem shortest_le : ∀ (r : R) (w : Wd), r.L w → (shortest r).length ≤ w.length
  | .step n, w, h => by
    have e : w = [n] := h
    subst e; exact Nat.le_refl _
  | .done, w, h => Nat.zero_le _
  | .bin .loop a b, w, h => by
    obtain ⟨u, v, rfl, x, y⟩ := (show Lcat a.L _ w from h)
    have := shortest_le a u x
    rw [List.length_append]
    show (shortest a).length ≤ _
    omega
  | .bin .cho a b, w, h => by
    show (if (shortest b).length < (shortest a).length then shortest b else shortest a).length ≤ _
    rcases (show a.L w ∨ b.L w from h) with h | h
    · have := shortest_le a w h
      split <;> omega
    · have := shortest_le b w h
      split <;> omega
  | .bin .seq a b, w, h => by
    obtain ⟨u, v, rfl, x, y⟩ := (show Lcat a.L _ w from h)
    have h1 := shortest_le a u x
    have h2 := shortest_le b v y
    show (shortest a ++ shortest b).length ≤ _
    rw [List.length_append, List.length_append]; omega
  | .bin .par a b, w, h => by
    obtain ⟨u, v, x, y, m⟩ := (show Lmix a.L _ w from h)
    have h1 := shortest_le a u x
    have h2 := shortest_le b v y
    show (shortest a ++ shortest b).length ≤ _
    rw [List.length_append, Mix_length m]; omega
end Tf

/-! Levels of beginnings; the runs by length, then ascending. -/
namespace Tf
open PySem

/-- the order of tuples of ints -/
def lexLt : Wd → Wd → Prop
  | [], [] => False
  | [], _ :: _ => True
  | _ :: _, [] => False
  | x :: u, y :: v => x < y ∨ (x = y ∧ lexLt u v)
theorem lexLt_irrefl : ∀ u : Wd, ¬ lexLt u u
  | [], h => h
  | x :: u, h => by
    rcases h with h | ⟨_, h⟩
    · omega
    · exact lexLt_irrefl u h
theorem lexLt_trans : ∀ {u v w : Wd}, lexLt u v → lexLt v w → lexLt u w
  | [], [], _, h, _ => h.elim
  | [], _ :: _, [], _, h => h.elim
  | [], _ :: _, _ :: _, _, _ => trivial
  | _ :: _, [], _, h, _ => h.elim
  | _ :: _, _ :: _, [], _, h => h.elim
  | x :: u, y :: v, z :: w, h1, h2 => by
    rcases h1 with h1 | ⟨e1, h1⟩
    · rcases h2 with h2 | ⟨e2, h2⟩
      · exact .inl (by omega)
      · exact .inl (by omega)
    · rcases h2 with h2 | ⟨e2, h2⟩
      · exact .inl (by omega)
      · exact .inr ⟨by omega, lexLt_trans h1 h2⟩
theorem lexLt_total : ∀ (u v : Wd), u = v ∨ lexLt u v ∨ lexLt v u
  | [], [] => .inl rfl
  | [], _ :: _ => .inr (.inl trivial)
  | _ :: _, [] => .inr (.inr trivial)
  | x :: u, y :: v => by
    rcases Int.lt_trichotomy x y with h | h | h
    · exact .inr (.inl (.inl h))
    · subst h
      rcases lexLt_total u v with h | h | h
      · exact .inl (by rw [h])
      · exact .inr (.inl (.inr ⟨rfl, h⟩))
      · exact .inr (.inr (.inr ⟨rfl, h⟩))
    · exact .inr (.inr (.inl h))
theorem lexLt_append : ∀ {u v : Wd} (x y : Wd), u.length = v.length → lexLt u v → lexLt (u ++ x) (v ++ y)
  | [], [], _, _, _, h => h.elim
  | a :: u, b :: v, x, y, e, h => by
    rcases h with h | ⟨e2, h⟩
    · exact .inl h
    · exact .inr ⟨e2, lexLt_append x y (by simpa using e) h⟩
theorem lexLt_snoc : ∀ (u : Wd) {x y : Int}, x < y → lexLt (u ++ [x]) (u ++ [y])
  | [], _, _, h => .inl h
  | _ :: u, _, _, h => .inr ⟨rfl, lexLt_snoc u h⟩
/-- shorter ones first, then ascending -/
def ord (u v : Wd) : Prop := u.length < v.length ∨ (u.length = v.length ∧ lexLt u v)
theorem ord_irrefl (u : Wd) : ¬ ord u u := by
  rintro (h | ⟨_, h⟩)
  · omega
  · exact lexLt_irrefl u h
theorem ord_trans {u v w : Wd} (h1 : ord u v) (h2 : ord v w) : ord u w := by
  rcases h1 with h1 | ⟨e1, h1⟩
  · rcases h2 with h2 | ⟨e2, h2⟩
    · exact .inl (by omega)
    · exact .inl (by omega)
  · rcases h2 with h2 | ⟨e2, h2⟩
    · exact .inl (by omega)
    · exact .inr ⟨by omega, lexLt_trans h1 h2⟩
theorem ord_total (u v : Wd) : u = v ∨ ord u v ∨ ord v u := by
  rcases Nat.lt_trichotomy u.length v.length with h | h | h
  · exact .inr (.inl (.inl h))
  · rcases lexLt_total u v with q | q | q
    · exact .inl q
    · exact .inr (.inl (.inr ⟨h, q⟩))
    · exact .inr (.inr (.inr ⟨h.symm, q⟩))
  · exact .inr (.inr (.inl h))
/-- two strictly ascending lists of the same things are one -/
theorem sorted_unique {α : Type} {lt : α → α → Prop} (irr : ∀ a, ¬ lt a a) (tr : ∀ {a b c}, lt a b → lt b c → lt a c) :
    ∀ {l m : List α}, l.Pairwise lt → m.Pairwise lt → (∀ x, x ∈ l ↔ x ∈ m) → l = m
  | [], [], _, _, _ => rfl
  | [], y :: m, _, _, h => absurd ((h y).mpr List.mem_cons_self) (by simp)
  | x :: l, [], _, _, h => absurd ((h x).mp List.mem_cons_self) (by simp)
  | x :: l, y :: m, hl, hm, h => by
    rw [List.pairwise_cons] at hl hm
    have e : x = y := by
      rcases List.mem_cons.mp ((h x).mp List.mem_cons_self) with q | q
      · exact q
      · rcases List.mem_cons.mp ((h y).mpr List.mem_cons_self) with r | r
        · exact r.symm
        · exact absurd (tr (hl.1 y r) (hm.1 x q)) (irr x)
    subst e
    rw [sorted_unique irr tr hl.2 hm.2 fun z => ?_]
    constructor
    · intro hz
      rcases List.mem_cons.mp ((h z).mp (List.mem_cons_of_mem _ hz)) with q | q
      · subst q; exact absurd (hl.1 _ hz) (irr _)
      · exact q
    · intro hz
      rcases List.mem_cons.mp ((h z).mpr (List.mem_cons_of_mem _ hz)) with q | q
      · subst q; exact absurd (hm.1 _ hz) (irr _)
      · exact q

/-! ### ints ascending, each once -/
def ins (x : Int) : List Int → List Int
  | [] => [x]
  | y :: l => if x < y then x :: y :: l else if x = y then y :: l else y :: ins x l
def sortD : List Int → List Int
  | [] => []
  | x :: l => ins x (sortD l)
theorem mem_ins (x z : Int) : ∀ l : List Int, z ∈ ins x l ↔ z = x ∨ z ∈ l
  | [] => by simp [ins]
  | y :: l => by
    unfold ins
    split
    · simp
    · split
      · rename_i e
        subst e
        simp
      · rw [List.mem_cons, mem_ins x z l, List.mem_cons]
        constructor
        · rintro (h | h | h)
          · exact .inr (.inl h)
          · exact .inl h
          · exact .inr (.inr h)
        · rintro (h | h | h)
          · exact .inr (.inl h)
          · exact .inl h
          · exact .inr (.inr h)
theorem ins_sorted (x : Int) : ∀ l : List Int, l.Pairwise (· < ·) → (ins x l).Pairwise (· < ·)
  | [], _ => by simp [ins]
  | y :: l, h => by
    unfold ins
    rw [List.pairwise_cons] at h
    split
    · rename_i hx
      refine List.pairwise_cons.mpr ⟨fun z hz => ?_, List.pairwise_cons.mpr h⟩
      rcases List.mem_cons.mp hz with rfl | hz
      · exact hx
      · have := h.1 z hz; omega
    · split
      · exact List.pairwise_cons.mpr h
      · refine List.pairwise_cons.mpr ⟨fun z hz => ?_, ins_sorted x l h.2⟩
        rcases (mem_ins x z l).mp hz with rfl | hz
        · omega
        · exact h.1 z hz
theorem mem_sortD {z : Int} : ∀ {l : List Int}, z ∈ sortD l ↔ z ∈ l
  | [] => Iff.rfl
  | x :: l => by
    show z ∈ ins x (sortD l) ↔ _
    rw [mem_ins, mem_sortD, List.mem_cons]
theorem sortD_sorted : ∀ l : List Int, (sortD l).Pairwise (· < ·)
  | [] => .nil
  | x :: l => ins_sorted x _ (sortD_sorted l)
theorem sortD_unique {l m : List Int} (h : l.Pairwise (· < ·)) (hm : ∀ x, x ∈ l ↔ x ∈ m) : l = sortD m :=
  sorted_unique (lt := (· < ·)) (fun a => Int.lt_irrefl a) (fun h1 h2 => Int.lt_trans h1 h2) h (sortD_sorted m) fun x => (hm x).trans mem_sortD.symm

/-! ### levels -/
abbrev Lev := List (Wd × List R)
def afterMore (rs : List R) (s : Int) : List R := ded (rs.flatMap fun r => afterStep r s)
def nextSteps (rs : List R) : List Int := sortD (rs.flatMap firstSteps)
def leftOf (rs : List R) (room : Nat) (s : Int) : List R := (afterMore rs s).filter fun r => decide ((shortest r).length ≤ room)
def goOn (p : Wd) (rs : List R) (room : Nat) (s : Int) : Option (Wd × List R) := if leftOf rs room s = [] then none else some (p ++ [s], leftOf rs room s)
def longer (lv : Lev) (room : Nat) : Lev := lv.flatMap fun q => (nextSteps q.2).filterMap (goOn q.1 q.2 room)
def outs (lv : Lev) : List Wd := (lv.filter fun q => q.2.any canEnd).map (·.1)
def lev (r : Option R) (most : Nat) : Nat → Lev
  | 0 => match r with
    | none => []
    | some r => [([], [r])]
  | n + 1 => longer (lev r most n) (most - n - 1)
def runs (r : Option R) (most : Nat) : List Wd := (List.range (most + 1)).flatMap fun n => outs (lev r most n)

def OL (r : Option R) : Lang := fun w => ∃ r0, r = some r0 ∧ r0.L w
structure LevOk (A : Lang) (most n : Nat) (lv : Lev) : Prop where
  srt : lv.Pairwise fun a b => lexLt a.1 b.1
  len : ∀ q ∈ lv, q.1.length = n
  acc : ∀ q ∈ lv, ∀ w : Wd, w.length ≤ most - n → ((∃ r ∈ q.2, r.L w) ↔ A (q.1 ++ w))
  all : ∀ p w : Wd, p.length = n → w.length ≤ most - n → A (p ++ w) → ∃ rs, (p, rs) ∈ lv
theorem goOn_eq {p : Wd} {rs : List R} {room : Nat} {s : Int} {q : Wd × List R} (h : goOn p rs room s = some q) : q = (p ++ [s], leftOf rs room s) := by
  unfold goOn at h
  split at h
  · cases h
  · exact (Option.some.inj h).symm
theorem leftOf_L {rs : List R} {room : Nat} {s : Int} {w : Wd} (hw : w.length ≤ room) : (∃ r ∈ leftOf rs room s, r.L w) ↔ ∃ r ∈ rs, r.L (s :: w) := by
  constructor
  · rintro ⟨r, hr, h⟩
    obtain ⟨r1, h1, h2⟩ := List.mem_flatMap.mp (mem_ded.mp (List.mem_filter.mp hr).1)
    exact ⟨r1, h1, (afterStep_L r1 s w).mp ⟨r, h2, h⟩⟩
  · rintro ⟨r, hr, h⟩
    obtain ⟨r1, h1, h2⟩ := (afterStep_L r s w).mpr h
    refine ⟨r1, List.mem_filter.mpr ⟨mem_ded.mpr (List.mem_flatMap.mpr ⟨r, hr, h1⟩), ?_⟩, h2⟩
    have := shortest_le r1 w h2
    exact decide_eq_true (by omega)
theorem LevOk.next {A : Lang} {most n : Nat} {lv : Lev} (h : LevOk A most n lv) (hn : n < most) : LevOk A most (n + 1) (longer lv (most - n - 1)) := by
  have mem : ∀ q, q ∈ longer lv (most - n - 1) → ∃ q0 ∈ lv, ∃ s, s ∈ nextSteps q0.2 ∧ q = (q0.1 ++ [s], leftOf q0.2 (most - n - 1) s) := by
    intro q hq
    obtain ⟨q0, h0, h1⟩ := List.mem_flatMap.mp hq
    obtain ⟨s, hs, h2⟩ := List.mem_filterMap.mp h1
    exact ⟨q0, h0, s, hs, goOn_eq h2⟩
  constructor
  · unfold longer
    rw [List.pairwise_flatMap]
    refine ⟨fun q hq => ?_, ?_⟩
    · rw [List.pairwise_filterMap]
      refine (sortD_sorted _).imp fun {s t} hst b hb c hc => ?_
      rw [goOn_eq hb, goOn_eq hc]
      exact lexLt_snoc _ hst
    · refine (List.Pairwise.and_mem.mp h.srt).imp fun {a b} hab x hx y hy => ?_
      obtain ⟨s, _, hs⟩ := List.mem_filterMap.mp hx
      obtain ⟨t, _, ht⟩ := List.mem_filterMap.mp hy
      rw [goOn_eq hs, goOn_eq ht]
      exact lexLt_append _ _ (by rw [h.len a hab.1, h.len b hab.2.1]) hab.2.2
  · intro q hq
    obtain ⟨q0, h0, s, _, rfl⟩ := mem q hq
    show (q0.1 ++ [s]).length = n + 1
    rw [List.length_append, h.len q0 h0]
    rfl
  · intro q hq w hw
    obtain ⟨q0, h0, s, _, rfl⟩ := mem q hq
    show (∃ r ∈ leftOf q0.2 (most - n - 1) s, r.L w) ↔ A ((q0.1 ++ [s]) ++ w)
    rw [leftOf_L (by omega), List.append_assoc]
    exact h.acc q0 h0 (s :: w) (by rw [List.length_cons]; omega)
  · intro p w hp hw hA
    obtain ⟨p0, s, rfl⟩ : ∃ p0 s, p = p0 ++ [s] := by
      have hne : p ≠ [] := by
        rintro rfl
        simp at hp
      exact ⟨p.dropLast, p.getLast hne, (List.dropLast_concat_getLast hne).symm⟩
    have hp0 : p0.length = n := by
      rw [List.length_append, List.length_singleton] at hp; omega
    rw [List.append_assoc] at hA
    obtain ⟨rs, hrs⟩ := h.all p0 (s :: w) hp0 (by rw [List.length_cons]; omega) hA
    have h1 := (h.acc _ hrs (s :: w) (by rw [List.length_cons]; omega)).mpr hA
    have h2 := (leftOf_L (room := most - n - 1) (by omega)).mpr h1
    refine ⟨leftOf rs (most - n - 1) s, List.mem_flatMap.mpr ⟨_, hrs, List.mem_filterMap.mpr ⟨s, ?_, ?_⟩⟩⟩
    · obtain ⟨r, hr, h3⟩ := h1
      exact mem_sortD.mpr (List.mem_flatMap.mpr ⟨r, hr, firstSteps_of r s w h3⟩)
    · unfold goOn
      obtain ⟨r, hr, _⟩ := h2
      rw [if_neg]
      intro e
      have hr' : r ∈ leftOf rs (most - n - 1) s := hr
      rw [e] at hr'
      simp at hr'
theorem levOk (r : Option R) (most : Nat) : ∀ n, n ≤ most → LevOk (OL r) most n (lev r most n)
  | 0, _ => by
    cases r with
    | none =>
      refine ⟨.nil, fun q h => by simp [lev] at h, fun q h => by simp [lev] at h, fun p w _ _ h => ?_⟩
      obtain ⟨r0, e, _⟩ := h
      cases e
    | some r =>
      have m : ∀ q, q ∈ lev (some r) most 0 → q = ([], [r]) := fun q h => List.mem_singleton.mp h
      refine ⟨List.pairwise_singleton _ _, fun q h => by rw [m q h]; rfl, fun q h w _ => ?_, fun p w hp _ h => ?_⟩
      · rw [m q h]
        constructor
        · rintro ⟨r1, h1, h2⟩
          rw [List.mem_singleton.mp h1] at h2
          exact ⟨r, rfl, h2⟩
        · rintro ⟨r1, h1, h2⟩
          cases h1
          exact ⟨r, List.mem_singleton.mpr rfl, h2⟩
      · have : p = [] := List.length_eq_zero_iff.mp hp
        subst this
        exact ⟨[r], List.mem_singleton.mpr rfl⟩
  | n + 1, h => (levOk r most n (by omega)).next (by omega)
theorem mem_outs {A : Lang} {most n : Nat} {lv : Lev} (h : LevOk A most n lv) {w : Wd} : w ∈ outs lv ↔ w.length = n ∧ A w := by
  have e : ∀ q ∈ lv, (q.2.any canEnd = true ↔ A q.1) := fun q hq => by
    have := h.acc q hq [] (Nat.zero_le _)
    rw [List.append_nil] at this
    rw [← this, List.any_eq_true]
    constructor
    · rintro ⟨r, hr, h1⟩; exact ⟨r, hr, (canEnd_iff r).mp h1⟩
    · rintro ⟨r, hr, h1⟩; exact ⟨r, hr, (canEnd_iff r).mpr h1⟩
  constructor
  · intro hw
    obtain ⟨q, hq, rfl⟩ := List.mem_map.mp hw
    obtain ⟨h1, h2⟩ := List.mem_filter.mp hq
    exact ⟨h.len q h1, (e q h1).mp h2⟩
  · rintro ⟨hl, hA⟩
    obtain ⟨rs, hrs⟩ := h.all w [] hl (Nat.zero_le _) (by rw [List.append_nil]; exact hA)
    exact List.mem_map.mpr ⟨_, List.mem_filter.mpr ⟨hrs, (e _ hrs).mpr hA⟩, rfl⟩
theorem outs_sorted {A : Lang} {most n : Nat} {lv : Lev} (h : LevOk A most n lv) : (outs lv).Pairwise lexLt := by
  unfold outs
  rw [List.pairwise_map]
  exact h.srt.filter _
theorem mem_runs (r : Option R) (most : Nat) (w : Wd) : w ∈ runs r most ↔ OL r w ∧ w.length ≤ most := by
  unfold runs
  rw [List.mem_flatMap]
  constructor
  · rintro ⟨n, hn, hw⟩
    have hn' : n ≤ most := by have := List.mem_range.mp hn; omega
    obtain ⟨h1, h2⟩ := (mem_outs (levOk r most n hn')).mp hw
    exact ⟨h2, by omega⟩
  · rintro ⟨h1, h2⟩
    exact ⟨w.length, List.mem_range.mpr (by omega), (mem_outs (levOk r most _ h2)).mpr ⟨rfl, h1⟩⟩
theorem runs_sorted (r : Option R) (most : Nat) : (runs r most).Pairwise ord := by
  unfold runs
  rw [List.pairwise_flatMap]
  refine ⟨fun n hn => ?_, ?_⟩
  · have hn' : n ≤ most := by have := List.mem_range.mp hn; omega
    have L := levOk r most n hn'
    refine (List.Pairwise.and_mem.mp (outs_sorted L)).imp fun {a b} hab => ?_
    exact .inr ⟨by rw [((mem_outs L).mp hab.1).1, ((mem_outs L).mp hab.2.1).1], hab.2.2⟩
  · refine (List.Pairwise.and_mem.mp (List.pairwise_lt_range (n := most + 1))).imp fun {a b} hab x hx y hy => ?_
    have ha : a ≤ most := by have := List.mem_range.mp hab.1; omega
    have hb : b ≤ most := by have := List.mem_range.mp hab.2.1; omega
    have h1 := ((mem_outs (levOk r most a ha)).mp hx).1
    have h2 := ((mem_outs (levOk r most b hb)).mp hy).1
    exact .inl (by have := hab.2.2; omega)
/-- the law's list, sorted by (length, run), is the program's -/
theorem runs_eq {r : Option R} {most : Nat} {rows : List Wd} (hm : ∀ w, w ∈ rows ↔ OL r w ∧ w.length ≤ most) (hs : rows.Pairwise ord) : rows = runs r most :=
  sorted_unique ord_irrefl ord_trans hs (runs_sorted r most) fun w => (hm w).trans (mem_runs r most w).symm
end Tf

/-! Trees, edits, and the law's own reckoning. -/
namespace Tf
open PySem

inductive Cp where
  | lt | le | eq | ne | ge | gt
  deriving DecidableEq
def Cp.ev : Cp → Int → Int → Bool
  | .lt, x, n => decide (x < n)
  | .le, x, n => decide (x ≤ n)
  | .eq, x, n => decide (x = n)
  | .ne, x, n => !decide (x = n)
  | .ge, x, n => decide (n ≤ x)
  | .gt, x, n => decide (n < x)
inductive Cnd where
  | cmp (a : Str) (op : Cp) (n : Int)
  | neg (c : Cnd)
  | con (c d : Cnd)
  | dis (c d : Cnd)
def Cnd.ev (val : Str → Int) : Cnd → Bool
  | .cmp a op n => op.ev (val a) n
  | .neg c => !c.ev val
  | .con c d => c.ev val && d.ev val
  | .dis c d => c.ev val || d.ev val

/-- a plain tree, its nodes numbered -/
inductive Pt where
  | act (n : Int) (nm : Str)
  | sil (n : Int)
  | bin (k : Kd) (n : Int) (a b : Pt)
  | wh (n : Int) (c : Cnd) (a : Pt)
def Pt.num : Pt → Int
  | .act n _ => n
  | .sil n => n
  | .bin _ n _ _ => n
  | .wh n _ _ => n
/-- a tree after edits: of the numbers those of the activities alone count -/
inductive T where
  | act (n : Int)
  | sil
  | bin (k : Kd) (a b : T)
  | wh (c : Cnd) (a : T)
def Pt.bare : Pt → T
  | .act n _ => .act n
  | .sil _ => .sil
  | .bin k _ a b => .bin k a.bare b.bare
  | .wh _ c a => .wh c a.bare

inductive Ek where
  | opt | rep | uno | unc
  deriving DecidableEq
abbrev Prs := List (Ek × Int)
def has (w : Prs) (e : Ek) (n : Int) : Bool := decide ((e, n) ∈ w)
def wrapT (w : Prs) (n : Int) (t : T) : T :=
  let t1 := if has w .rep n = true then T.bin .loop t .sil else t
  if has w .opt n = true then T.bin .cho t1 .sil else t1
def changed (w : Prs) : Pt → T
  | .act n _ => wrapT w n (.act n)
  | .sil n => wrapT w n .sil
  | .bin k n a b => wrapT w n (.bin (if k = .seq ∧ has w .uno n = true then .par else k) (changed w a) (changed w b))
  | .wh n c a => wrapT w n (if has w .unc n = true then changed w a else .wh c (changed w a))

/-- no node but a sequence is made unordered -/
def UnOk (w : Prs) : Pt → Prop
  | .act _ _ => True
  | .sil _ => True
  | .bin k n a b => (k = .loop → has w .uno n = false) ∧ UnOk w a ∧ UnOk w b
  | .wh _ _ a => UnOk w a

section
variable (ev : Cnd → Bool)
def T.L : T → Lang
  | .act n => fun w => w = [n]
  | .sil => fun w => w = []
  | .bin k a b => Lop k a.L b.L
  | .wh c a => fun w => ev c = true ∧ a.L w
def joinO (k : Kd) : Option R → Option R → Option R
  | none, r => if k = .cho then r else none
  | some l, none => if k = .cho ∨ k = .loop then some l else none
  | some l, some r => some (joined k l r)
def restOf : T → Option R
  | .act n => some (.step n)
  | .sil => some .done
  | .wh c a => if ev c = true then restOf a else none
  | .bin k a b => joinO k (restOf a) (restOf b)
theorem restOf_L : ∀ (t : T) (w : Wd), OL (restOf ev t) w ↔ t.L ev w
  | .act n, w => ⟨fun ⟨r, e, h⟩ => by cases e; exact h, fun h => ⟨_, rfl, h⟩⟩
  | .sil, w => ⟨fun ⟨r, e, h⟩ => by cases e; exact h, fun h => ⟨_, rfl, h⟩⟩
  | .wh c a, w => by
    show OL (if ev c = true then restOf ev a else none) w ↔ ev c = true ∧ a.L ev w
    cases ev c
    · simp [OL]
    · rw [if_pos rfl, restOf_L a w]
      simp
  | .bin k a b, w => by
    show OL (joinO k (restOf ev a) (restOf ev b)) w ↔ Lop k (a.L ev) (b.L ev) w
    rw [← Lop_congr (restOf_L a) (restOf_L b) k w]
    cases restOf ev a with
    | none =>
      have no : ∀ w, ¬ OL none w := fun w ⟨r, e, _⟩ => by cases e
      show OL (if k = .cho then restOf ev b else none) w ↔ _
      cases k
      · rw [if_neg (by decide)]
        exact ⟨fun h => (no w h).elim, fun ⟨u, v, _, x, _⟩ => (no u x).elim⟩
      · rw [if_pos rfl]
        exact ⟨fun h => .inr h, fun h => h.elim (fun z => (no w z).elim) id⟩
      · rw [if_neg (by decide)]
        exact ⟨fun h => (no w h).elim, fun ⟨u, v, x, _, _⟩ => (no u x).elim⟩
      · rw [if_neg (by decide)]
        exact ⟨fun h => (no w h).elim, fun ⟨u, v, _, x, _⟩ => (no u x).elim⟩
    | some l =>
      have one : ∀ w, OL (some l) w ↔ l.L w := fun w => ⟨fun ⟨r, e, h⟩ => by cases e; exact h, fun h => ⟨_, rfl, h⟩⟩
      cases restOf ev b with
      | none =>
        have no : ∀ w, ¬ OL none w := fun w ⟨r, e, _⟩ => by cases e
        show OL (if k = .cho ∨ k = .loop then some l else none) w ↔ _
        cases k
        · rw [if_neg (by decide)]
          exact ⟨fun h => (no w h).elim, fun ⟨u, v, _, _, x⟩ => (no v x).elim⟩
        · rw [if_pos (by decide)]
          exact ⟨fun h => .inl h, fun h => h.elim id (fun z => (no w z).elim)⟩
        · rw [if_neg (by decide)]
          exact ⟨fun h => (no w h).elim, fun ⟨u, v, _, x, _⟩ => (no v x).elim⟩
        · rw [if_pos (by decide)]
          constructor
          · intro h
            exact ⟨w, [], by rw [List.append_nil], h, .nil⟩
          · rintro ⟨u, v, rfl, x, y⟩
            cases y with
            | nil => rw [List.append_nil]; exact x
            | cons c _ =>
              obtain ⟨p, q, _, z, _⟩ := c
              exact (no p z).elim
      | some r =>
        have two : ∀ w, OL (some r) w ↔ r.L w := fun w => ⟨fun ⟨r, e, h⟩ => by cases e; exact h, fun h => ⟨_, rfl, h⟩⟩
        rw [Lop_congr one two k w]
        show OL (some (joined k l r)) w ↔ _
        rw [← joined_L]
        exact ⟨fun ⟨r, e, h⟩ => by cases e; exact h, fun h => ⟨_, rfl, h⟩⟩

/-! ### what is meant -/
def wrapL (w : Prs) (n : Int) (A : Lang) : Lang :=
  let A1 : Lang := if has w .rep n = true then Lcat A (Lstar A) else A
  if has w .opt n = true then fun x => A1 x ∨ x = [] else A1
def ML (w : Prs) : Pt → Lang
  | .act n _ => wrapL w n (fun x => x = [n])
  | .sil n => wrapL w n (fun x => x = [])
  | .bin k n a b => wrapL w n (Lop (if k = .cho then .cho else if k = .par ∨ has w .uno n = true then .par else k) (ML w a) (ML w b))
  | .wh n c a => wrapL w n (fun x => (has w .unc n = true ∨ ev c = true) ∧ ML w a x)
theorem wrap_L (w : Prs) (n : Int) (t : T) {A : Lang} (h : ∀ x, t.L ev x ↔ A x) (x : Wd) : (wrapT w n t).L ev x ↔ wrapL w n A x := by
  have h1 : ∀ x, (if has w .rep n = true then T.bin .loop t .sil else t).L ev x ↔ (if has w .rep n = true then Lcat A (Lstar A) else A) x := by
    intro x
    cases has w .rep n
    · exact h x
    · show Lcat (t.L ev) (Lstar (Lcat (R.L .done) (t.L ev))) x ↔ Lcat A (Lstar A) x
      have e : ∀ z, Lcat (R.L .done) (t.L ev) z ↔ A z := fun z => Lcat_done_left.trans (h z)
      exact ⟨Lcat_mono (fun z => (h z).mp) (fun z => Lstar_mono fun y => (e y).mp), Lcat_mono (fun z => (h z).mpr) (fun z => Lstar_mono fun y => (e y).mpr)⟩
  unfold wrapT wrapL
  cases has w .opt n
  · exact h1 x
  · exact ⟨fun z => z.elim (fun z => .inl ((h1 x).mp z)) .inr, fun z => z.elim (fun z => .inl ((h1 x).mpr z)) .inr⟩
theorem changed_L (w : Prs) : ∀ (t : Pt), UnOk w t → ∀ x, (changed w t).L ev x ↔ ML ev w t x
  | .act n nm, _, x => wrap_L ev w n _ (fun _ => Iff.rfl) x
  | .sil n, _, x => wrap_L ev w n _ (fun _ => Iff.rfl) x
  | .bin k n a b, ⟨h0, ha, hb⟩, x => by
    refine wrap_L ev w n _ (fun y => ?_) x
    show Lop (if k = .seq ∧ has w .uno n = true then .par else k) ((changed w a).L ev) ((changed w b).L ev) y ↔ _
    rw [Lop_congr (changed_L w a ha) (changed_L w b hb)]
    have e : (if k = .seq ∧ has w .uno n = true then Kd.par else k) = (if k = .cho then .cho else if k = .par ∨ has w .uno n = true then .par else k) := by
      cases k
      · cases has w .uno n <;> rfl
      · cases has w .uno n <;> rfl
      · cases has w .uno n <;> rfl
      · rw [h0 rfl]; rfl
    rw [e]
  | .wh n c a, h, x => by
    refine wrap_L ev w n _ (fun y => ?_) x
    have ih := changed_L w a h y
    cases has w .unc n
    · show (ev c = true ∧ (changed w a).L ev y) ↔ _
      rw [ih]
      simp
    · show (changed w a).L ev y ↔ _
      rw [ih]
      simp
end

/-! ### the law's lists of runs of at most a length -/
def short (rows : List Wd) (size : Nat) : List Wd := ded (rows.filter fun r => decide (r.length ≤ size))
def chains (f s : List Wd) (size : Nat) : List Wd := short (f.flatMap fun l => (s.filter fun r => decide (l.length + r.length ≤ size)).map fun r => l ++ r) size
def mixes : Wd → Wd → List Wd
  | [], v => [v]
  | x :: u, [] => [x :: u]
  | x :: u, y :: v => (mixes u (y :: v)).map (fun r => x :: r) ++ (mixes (x :: u) v).map (fun r => y :: r)
def blends (f s : List Wd) (size : Nat) : List Wd := short (f.flatMap fun l => s.flatMap fun r => if l.length + r.length ≤ size then mixes l r else []) size
def oftenN (again : List Wd) (size : Nat) : Nat → List Wd → List Wd
  | 0, rows => rows
  | n + 1, rows => oftenN again size n (short (rows ++ chains rows again size) size)
def often (rows again : List Wd) (size : Nat) : List Wd := oftenN again size size rows
def wrapM (w : Prs) (size : Nat) (n : Int) (rows : List Wd) : List Wd :=
  let r1 := if has w .rep n = true then often rows rows size else rows
  if has w .opt n = true then short (r1 ++ [[]]) size else r1
def meant (ev : Cnd → Bool) (w : Prs) (size : Nat) : Pt → List Wd
  | .act n _ => wrapM w size n (short [[n]] size)
  | .sil n => wrapM w size n [[]]
  | .wh n c a => wrapM w size n (if has w .unc n = true ∨ ev c = true then meant ev w size a else [])
  | .bin k n a b => wrapM w size n (
      if k = .cho then short (meant ev w size a ++ meant ev w size b) size
      else if k = .par ∨ has w .uno n = true then blends (meant ev w size a) (meant ev w size b) size
      else if k = .seq then chains (meant ev w size a) (meant ev w size b) size
      else often (meant ev w size a) (chains (meant ev w size b) (meant ev w size a) size) size)

/-- a list holds just the words of a language up to a length, each once -/
structure Lists (size : Nat) (A : Lang) (rows : List Wd) : Prop where
  nd : rows.Nodup
  mem : ∀ x, x ∈ rows ↔ A x ∧ x.length ≤ size
theorem Lists.congr {size : Nat} {A B : Lang} {rows : List Wd} (h : Lists size A rows) (e : ∀ x, x.length ≤ size → (A x ↔ B x)) : Lists size B rows :=
  ⟨h.nd, fun x => (h.mem x).trans ⟨fun z => ⟨(e x z.2).mp z.1, z.2⟩, fun z => ⟨(e x z.2).mpr z.1, z.2⟩⟩⟩
theorem mem_short {rows : List Wd} {size : Nat} {x : Wd} : x ∈ short rows size ↔ x ∈ rows ∧ x.length ≤ size := by
  unfold short
  rw [mem_ded, List.mem_filter, decide_eq_true_iff]
theorem nodup_short (rows : List Wd) (size : Nat) : (short rows size).Nodup := nodup_ded _
theorem mem_chains {f s : List Wd} {size : Nat} {x : Wd} : x ∈ chains f s size ↔ x.length ≤ size ∧ Lcat (fun u => u ∈ f) (fun v => v ∈ s) x := by
  unfold chains
  rw [mem_short, List.mem_flatMap]
  constructor
  · rintro ⟨⟨u, hu, h⟩, hl⟩
    obtain ⟨v, hv, rfl⟩ := List.mem_map.mp h
    exact ⟨hl, u, v, rfl, hu, (List.mem_filter.mp hv).1⟩
  · rintro ⟨hl, u, v, rfl, hu, hv⟩
    rw [List.length_append] at hl
    exact ⟨⟨u, hu, List.mem_map.mpr ⟨v, List.mem_filter.mpr ⟨hv, decide_eq_true hl⟩, rfl⟩⟩, by rw [List.length_append]; exact hl⟩
theorem mem_mixes : ∀ (u v : Wd) {x : Wd}, x ∈ mixes u v ↔ Mix u v x
  | [], v, x => by
    rw [mixes, List.mem_singleton]
    exact ⟨fun h => by rw [h]; exact Mix_nil_left v, Mix_nil_left_eq⟩
  | a :: u, [], x => by
    rw [mixes, List.mem_singleton]
    exact ⟨fun h => by rw [h]; exact Mix_nil_right _, Mix_nil_right_eq⟩
  | a :: u, b :: v, x => by
    rw [mixes, List.mem_append, List.mem_map, List.mem_map]
    constructor
    · rintro (⟨r, h, rfl⟩ | ⟨r, h, rfl⟩)
      · exact .left ((mem_mixes u (b :: v)).mp h)
      · exact .right ((mem_mixes (a :: u) v).mp h)
    · intro h
      cases h with
      | left h => exact .inl ⟨_, (mem_mixes u (b :: v)).mpr h, rfl⟩
      | right h => exact .inr ⟨_, (mem_mixes (a :: u) v).mpr h, rfl⟩
  termination_by u v => u.length + v.length
theorem mem_blends {f s : List Wd} {size : Nat} {x : Wd} : x ∈ blends f s size ↔ x.length ≤ size ∧ Lmix (fun u => u ∈ f) (fun v => v ∈ s) x := by
  unfold blends
  rw [mem_short, List.mem_flatMap]
  constructor
  · rintro ⟨⟨u, hu, h⟩, hl⟩
    obtain ⟨v, hv, h⟩ := List.mem_flatMap.mp h
    refine ⟨hl, u, v, hu, hv, ?_⟩
    split at h
    · exact (mem_mixes u v).mp h
    · simp at h
  · rintro ⟨hl, u, v, hu, hv, m⟩
    refine ⟨⟨u, hu, List.mem_flatMap.mpr ⟨v, hv, ?_⟩⟩, hl⟩
    rw [if_pos (by rw [← Mix_length m]; exact hl)]
    exact (mem_mixes u v).mpr m

theorem chains_lists {size : Nat} {A B : Lang} {f s : List Wd} (h1 : Lists size A f) (h2 : Lists size B s) : Lists size (Lcat A B) (chains f s size) := by
  refine ⟨nodup_short _ _, fun x => ?_⟩
  rw [mem_chains]
  constructor
  · rintro ⟨hl, u, v, rfl, hu, hv⟩
    exact ⟨⟨u, v, rfl, ((h1.mem u).mp hu).1, ((h2.mem v).mp hv).1⟩, hl⟩
  · rintro ⟨⟨u, v, rfl, hu, hv⟩, hl⟩
    have hl' := hl
    rw [List.length_append] at hl'
    exact ⟨hl, u, v, rfl, (h1.mem u).mpr ⟨hu, by omega⟩, (h2.mem v).mpr ⟨hv, by omega⟩⟩
theorem blends_lists {size : Nat} {A B : Lang} {f s : List Wd} (h1 : Lists size A f) (h2 : Lists size B s) : Lists size (Lmix A B) (blends f s size) := by
  refine ⟨nodup_short _ _, fun x => ?_⟩
  rw [mem_blends]
  constructor
  · rintro ⟨hl, u, v, hu, hv, m⟩
    exact ⟨⟨u, v, ((h1.mem u).mp hu).1, ((h2.mem v).mp hv).1, m⟩, hl⟩
  · rintro ⟨⟨u, v, hu, hv, m⟩, hl⟩
    have := Mix_length m
    exact ⟨hl, u, v, (h1.mem u).mpr ⟨hu, by omega⟩, (h2.mem v).mpr ⟨hv, by omega⟩, m⟩
theorem short_lists {size : Nat} {A B : Lang} {f s : List Wd} (h1 : Lists size A f) (h2 : Lists size B s) : Lists size (Lor A B) (short (f ++ s) size) := by
  refine ⟨nodup_short _ _, fun x => ?_⟩
  rw [mem_short, List.mem_append, h1.mem, h2.mem]
  constructor
  · rintro ⟨h | h, hl⟩
    · exact ⟨.inl h.1, hl⟩
    · exact ⟨.inr h.1, hl⟩
  · rintro ⟨h | h, hl⟩
    · exact ⟨.inl ⟨h, hl⟩, hl⟩
    · exact ⟨.inr ⟨h, hl⟩, hl⟩

/-! ### once or several times -/
/-- at most n further words -/
def upTo (A B : Lang) : Nat → Lang
  | 0 => A
  | n + 1 => fun x => upTo A B n x ∨ Lcat (upTo A B n) B x
theorem upTo_star {A B : Lang} : ∀ (n : Nat) {x : Wd}, upTo A B n x → Lcat A (Lstar B) x
  | 0, x, h => ⟨x, [], by rw [List.append_nil], h, .nil⟩
  | n + 1, x, h => by
    rcases h with h | ⟨u, v, rfl, h, hb⟩
    · exact upTo_star n h
    · obtain ⟨a, b, rfl, ha, hs⟩ := upTo_star n h
      exact ⟨a, b ++ v, by rw [List.append_assoc], ha, Lstar_append hs (Lstar_one hb)⟩
theorem upTo_mono {A B : Lang} {x : Wd} {n : Nat} : ∀ {m : Nat}, n ≤ m → upTo A B n x → upTo A B m x
  | m, h, hx => by
    induction h with
    | refl => exact hx
    | step _ ih => exact .inl ih
/-- a word of the star, cut into pieces that are not empty -/
theorem star_pieces {B : Lang} {x : Wd} (h : Lstar B x) : ∃ L : List Wd, x = L.flatten ∧ ∀ p ∈ L, B p ∧ p ≠ [] := by
  induction h with
  | nil => exact ⟨[], rfl, fun p hp => by simp at hp⟩
  | @cons u v a _ ih =>
    obtain ⟨L, rfl, hL⟩ := ih
    by_cases e : u = []
    · subst e
      exact ⟨L, rfl, hL⟩
    · refine ⟨u :: L, rfl, fun p hp => ?_⟩
      rcases List.mem_cons.mp hp with rfl | hp
      · exact ⟨a, e⟩
      · exact hL p hp
theorem pieces_len : ∀ (L : List Wd), (∀ p ∈ L, p ≠ []) → L.length ≤ L.flatten.length
  | [], _ => Nat.le_refl _
  | p :: L, h => by
    have h1 := pieces_len L fun q hq => h q (List.mem_cons_of_mem _ hq)
    have h2 : 0 < p.length := List.length_pos_iff.mpr (h p List.mem_cons_self)
    rw [List.flatten_cons, List.length_append, List.length_cons]
    omega
theorem upTo_snoc {A B : Lang} : ∀ (L : List Wd) (n : Nat) (u : Wd), upTo A B n u → (∀ p ∈ L, B p) → upTo A B (n + L.length) (u ++ L.flatten)
  | [], n, u, h, _ => by
    rw [List.flatten_nil, List.append_nil]
    exact h
  | p :: L, n, u, h, hL => by
    have h1 : upTo A B (n + 1) (u ++ p) := .inr ⟨u, p, rfl, h, hL p List.mem_cons_self⟩
    have h2 := upTo_snoc L (n + 1) (u ++ p) h1 fun q hq => hL q (List.mem_cons_of_mem _ hq)
    rw [List.flatten_cons, ← List.append_assoc, List.length_cons]
    have e : n + (L.length + 1) = n + 1 + L.length := by omega
    rw [e]
    exact h2
theorem star_upTo {A B : Lang} {x : Wd} {size : Nat} (h : Lcat A (Lstar B) x) (hl : x.length ≤ size) : upTo A B size x := by
  obtain ⟨u, v, rfl, ha, hs⟩ := h
  obtain ⟨L, rfl, hL⟩ := star_pieces hs
  have h1 := pieces_len L fun p hp => (hL p hp).2
  have h2 := upTo_snoc L 0 u (show upTo A B 0 u from ha) fun p hp => (hL p hp).1
  rw [List.length_append] at hl
  exact upTo_mono (by omega) h2
theorem upTo_step {A B : Lang} : ∀ (n : Nat) {x : Wd}, upTo (fun y => A y ∨ Lcat A B y) B n x ↔ upTo A B (n + 1) x
  | 0, x => Iff.rfl
  | n + 1, x => by
    show (upTo _ B n x ∨ Lcat (upTo _ B n) B x) ↔ (upTo A B (n + 1) x ∨ Lcat (upTo A B (n + 1)) B x)
    rw [upTo_step n]
    have e : Lcat (upTo (fun y => A y ∨ Lcat A B y) B n) B x ↔ Lcat (upTo A B (n + 1)) B x :=
      ⟨Lcat_mono (fun _ => (upTo_step n).mp) fun _ z => z, Lcat_mono (fun _ => (upTo_step n).mpr) fun _ z => z⟩
    rw [e]
theorem oftenN_lists {size : Nat} {B : Lang} {again : List Wd} (hB : Lists size B again) : ∀ (n : Nat) {A : Lang} {rows : List Wd}, Lists size A rows → Lists size (upTo A B n) (oftenN again size n rows)
  | 0, A, rows, h => h
  | n + 1, A, rows, h => by
    have h1 : Lists size (fun y => A y ∨ Lcat A B y) (short (rows ++ chains rows again size) size) := short_lists h (chains_lists h hB)
    exact (oftenN_lists hB n h1).congr fun x _ => upTo_step n
theorem often_lists {size : Nat} {A B : Lang} {rows again : List Wd} (h : Lists size A rows) (hB : Lists size B again) : Lists size (Lcat A (Lstar B)) (often rows again size) :=
  (oftenN_lists hB size h).congr fun _ hl => ⟨upTo_star size, fun z => star_upTo z hl⟩
theorem wrapM_lists {w : Prs} {size : Nat} {n : Int} {A : Lang} {rows : List Wd} (h : Lists size A rows) : Lists size (wrapL w n A) (wrapM w size n rows) := by
  have h1 : Lists size (if has w .rep n = true then Lcat A (Lstar A) else A) (if has w .rep n = true then often rows rows size else rows) := by
    cases has w .rep n
    · exact h
    · exact often_lists h h
  unfold wrapL wrapM
  cases has w .opt n
  · exact h1
  · refine short_lists h1 ⟨by simp, fun x => ?_⟩
    rw [List.mem_singleton]
    exact ⟨fun e => ⟨e, by rw [e]; exact Nat.zero_le _⟩, fun e => e.1⟩
theorem meant_lists (ev : Cnd → Bool) (w : Prs) (size : Nat) : ∀ t : Pt, Lists size (ML ev w t) (meant ev w size t)
  | .act n nm => wrapM_lists ⟨nodup_short _ _, fun x => by rw [mem_short, List.mem_singleton]⟩
  | .sil n => wrapM_lists ⟨by simp, fun x => by
      rw [List.mem_singleton]
      exact ⟨fun e => ⟨e, by rw [e]; exact Nat.zero_le _⟩, fun e => e.1⟩⟩
  | .wh n c a => by
    refine wrapM_lists ?_
    have ih := meant_lists ev w size a
    by_cases h : has w .unc n = true ∨ ev c = true
    · rw [if_pos h]
      exact ih.congr fun x _ => ⟨fun z => ⟨h, z⟩, fun z => z.2⟩
    · rw [if_neg h]
      exact ⟨List.nodup_nil, fun x => ⟨fun z => by simp at z, fun z => (h z.1.1).elim⟩⟩
  | .bin k n a b => by
    refine wrapM_lists ?_
    have ha := meant_lists ev w size a
    have hb := meant_lists ev w size b
    by_cases h1 : k = .cho
    · rw [if_pos h1, if_pos h1]
      exact short_lists ha hb
    · rw [if_neg h1, if_neg h1]
      by_cases h2 : k = .par ∨ has w .uno n = true
      · rw [if_pos h2, if_pos h2]
        exact blends_lists ha hb
      · rw [if_neg h2, if_neg h2]
        cases k with
        | seq => exact chains_lists ha hb
        | cho => exact absurd rfl h1
        | par => exact absurd (.inl rfl) h2
        | loop => exact often_lists ha (chains_lists hb ha)
/-- THE PLAIN LAW -/
theorem plain_law (ev : Cnd → Bool) (w : Prs) (size : Nat) (t : Pt) (hu : UnOk w t) {due : List Wd} (hp : due.Perm (meant ev w size t)) (hs : due.Pairwise fun a b => ¬ ord b a) : due = runs (restOf ev (changed w t)) size := by
  have M := meant_lists ev w size t
  have nd : due.Nodup := hp.nodup_iff.mpr M.nd
  refine runs_eq (fun x => ?_) ?_
  · rw [hp.mem_iff, M.mem, restOf_L, changed_L ev w t hu]
  · refine (hs.and nd).imp fun {a b} h => ?_
    rcases ord_total a b with e | e | e
    · exact absurd e h.2
    · exact e
    · exact absurd e h.1
end Tf

/-! The text by places, what is known of the module, defs and their promises, trees and rests over the abstract heap. -/
namespace Tf
open PySem PySem.Spec PyProof.Rows L2
def top (i : Nat) : Stmt := PySem.Challenge.pw_tracefit_k58_whole_runs_after_edits.main.body.getD i (.Pass ⟨0, 0, 0, 0⟩)

/-- the built-ins that no name of the module hides; DONE -/
structure Mo (K : PySem.W.Frag) (mg : PySem.Str → Option Value) : Prop where
  len : mg "len" = none
  abs : mg "abs" = none
  max : mg "max" = none
  min : mg "min" = none
  any : mg "any" = none
  sorted : mg "sorted" = none
  isinstance : mg "isinstance" = none
  enumerate : mg "enumerate" = none
  range : mg "range" = none
  int_ : mg "int" = none
  tuple_ : mg "tuple" = none
  list_ : mg "list" = none
  set_ : mg "set" = none
  str_ : mg "str" = none
  bool_ : mg "bool" = none
  done : mg "DONE" = some (.ref (He.ga K "DONE"))
  doneT : ∀ H : Hp, SqT K H (He.ga K "DONE") [.str "done"]
/-- a def as it stands behind the top -/
structure Dfn (K : PySem.W.Frag) (mg : PySem.Str → Option Value) (n : PySem.Str) (st : Stmt) : Prop where
  ex : ∃ f fd, FunD K n n (defArgs st) (defBody st) (defScope st) [] [] f fd ∧ mg n = some (.ref f)
/-- a def that keeps a promise -/
structure Callee (P : Program) (w : World) (K : PySem.W.Frag) (mg : PySem.Str → Option Value) (base : Heap) (k : Nat) (n : PySem.Str) (ps : List PySem.Str) (sp : Sp) : Prop where
  ex : ∃ f fd, FnOk P w K mg base CX0 k f fd ps sp ∧ mg n = some (.ref f) ∧ PySem.W.keepIn K (.ref f) = true ∧ Binds K fd ps []
section
variable {P : Program} {w : World} {K : PySem.W.Frag} {mg : PySem.Str → Option Value} {base : Heap} {k j : Nat} {n : PySem.Str} {ps N : List PySem.Str} {sp : Sp} {st : Stmt}
theorem Callee.mono (C : Callee P w K mg base j n ps sp) (h : j ≤ k) : Callee P w K mg base k n ps sp := by
  obtain ⟨f, fd, F, r⟩ := C.ex
  exact ⟨f, fd, F.mono h, r⟩
theorem Callee.imp {sp' : Sp} (C : Callee P w K mg base k n ps sp) (h : ∀ vs H Q E, sp' vs H Q E → sp vs H Q E) : Callee P w K mg base k n ps sp' := by
  obtain ⟨f, fd, F, r⟩ := C.ex
  exact ⟨f, fd, F.imp h, r⟩
/-- none can be asked of it -/
theorem Dfn.none (D : Dfn K mg n st) (hb : ∀ (kV doc pm : Value) (an : Option Addr) (cdv ct : Value) (us : List Value), us.length = ps.length → bindArgs (PySem.W.fnOf n n (defArgs st) (defBody st) (defScope st) .none kV doc pm an cdv ct) ⟨us, []⟩ = pure (ps.zip us))
    (no : ∀ vs H Q E, ¬ sp vs H Q E) : Callee P w K mg base k n ps sp := by
  obtain ⟨f, fd, F, g⟩ := D.ex
  exact ⟨f, fd, ⟨fun vs H Q E h => absurd h (no vs H Q E), fun A outer s H args us vs Q E _ _ _ _ h => absurd h (no vs H Q E)⟩, g, F.kp, F.bindsN hb⟩
/-- a def by its body -/
theorem Dfn.ok (D : Dfn K mg n st) (hb : ∀ (kV doc pm : Value) (an : Option Addr) (cdv ct : Value) (us : List Value), us.length = ps.length → bindArgs (PySem.W.fnOf n n (defArgs st) (defBody st) (defScope st) .none kV doc pm an cdv ct) ⟨us, []⟩ = pure (ps.zip us))
    (S : FnScope N ps (defScope st)) (len : ∀ vs H Q E, sp vs H Q E → vs.length = ps.length)
    (body : ∀ (f : Addr) (cdv : Value) (A : Around) (outer : List Env) (s : Shared) (H : Hp) (vs : List V) (Q : VK) (E : XK), Room k (A.deeper (envOfC n (defScope st) s.heap.objs.size f cdv)) → sp vs H Q E →
      ∃ t, PSs (cxOf CX0 P w K mg base N n (defScope st) f cdv A outer s H E).nox (defBody st) t ∧ t { nx := fun _ H' => Q .non H', rt := Q } (start N vs) H) : Callee P w K mg base (k + 1) n ps sp := by
  obtain ⟨f, fd, F, g⟩ := D.ex
  refine ⟨f, fd, F.ok S len fun cdv A outer s H vs Q E hr hsp => ?_, g, F.kp, F.bindsN hb⟩
  obtain ⟨t, h, q⟩ := body f cdv A outer s H vs Q E hr hsp
  exact ⟨t, h.nox, q⟩
end
theorem pe_callC {X : Cx} {k : Nat} {x : PySem.Str} {ps : List PySem.Str} {sp : Sp} {p pos : Pos} {e : Expr} {es : List Expr} {t : TA} (C : Callee X.prog X.w X.K X.mg X.base k x ps sp) (hr : Room k X.A) (hg : Gl X x) (ha : PA X (e :: es) t)
    (hdb : (x == ("__debug__" : PySem.Str)) = false := by decide) (he : starEach (e :: es) X.env = (false, eval e X.env) :: starEach es X.env := by rfl) (hpl : (backTo pos (starEach es X.env)).any (·.1) = false := by rfl) :
    PE X (.Call (.Name x p) (e :: es) [] pos) (tCall sp [] E0 t) := by
  obtain ⟨f, fd, F, hm, hk, hb⟩ := C.ex
  exact pe_call F hr hg hm hk hb .nil pass0 ha hdb he hpl
theorem hu_D {A : Around} {k : Nat} (hr : Room k A) : A.units + 65 < cLine := by
  have := hr.un
  omega

/-! ### what stays -/
/-- tuples (and what is locked) stay -/
structure Tk (H H' : Hp) : Prop where
  tup : ∀ a xs, H a = some (.tup xs) → H' a = some (.tup xs)
  frz : ∀ a o u, H a = some (.frz o u) → H' a = some (.frz o u)
theorem Tk.refl (H : Hp) : Tk H H := ⟨fun _ _ h => h, fun _ _ _ h => h⟩
theorem Tk.trans {H H1 H2 : Hp} (a : Tk H H1) (b : Tk H1 H2) : Tk H H2 := ⟨fun x xs h => b.tup x xs (a.tup x xs h), fun x o u h => b.frz x o u (a.frz x o u h)⟩
theorem te_same {H H' : Hp} (h : Same H H') : Tk H H' := ⟨fun a xs e => h a _ e, fun a o u e => h a _ e⟩
theorem Tk.sq {K : PySem.W.Frag} {H H' : Hp} {a : Addr} {xs : List V} (e : Tk H H') (h : SqT K H a xs) : SqT K H' a xs := by
  rcases h with (h | ⟨o, h⟩) | h
  · exact .inl (.inl (e.tup _ _ h))
  · exact .inl (.inr ⟨o, e.frz _ _ _ h⟩)
  · exact .inr h
theorem same_tup {K : PySem.W.Frag} {H H' : Hp} {a : Addr} {xs : List V} (e : Same H H') (h : SqT K H a xs) : SqT K H' a xs := (te_same e).sq h
theorem same_upd {H : Hp} {p : Addr} {o : HO} (h : H p = none) : Same H (upd H p o) := fun b x e => by
  rw [upd_ne (ne_of_none e h)]
  exact e
theorem same_mut {H H' : Hp} {p : Addr} {o : HO} (e : Same H H') (h : H p = none) : Same H (upd H' p o) := fun b x hb => by
  rw [upd_ne (ne_of_none hb h)]
  exact e b x hb
/-- a list is written: tuples stay -/
theorem te_lst {H : Hp} {p : Addr} {xs : List V} {o : HO} (h : H p = some (.lst xs)) : Tk H (upd H p o) := by
  constructor
  · intro a ys e
    have : a ≠ p := fun z => by
      rw [z, h] at e
      cases e
    rw [upd_ne this]
    exact e
  · intro a o u e
    have : a ≠ p := fun z => by
      rw [z, h] at e
      cases e
    rw [upd_ne this]
    exact e
theorem te_new {H : Hp} {p : Addr} {o : HO} (h : H p = none) : Tk H (upd H p o) := te_same (same_upd h)
theorem tupS {K : PySem.W.Frag} {H : Hp} {a : Addr} {xs : List V} (h : H a = some (.tup xs)) : SqT K H a xs := .inl (.inl h)
theorem lstS {K : PySem.W.Frag} {H : Hp} {a : Addr} {xs : List V} (h : H a = some (.lst xs)) : SqL K H a xs := .inl (.inl h)
theorem sz {n : Nat} (h : n ≤ 100000) : n ≤ sizeLine := Nat.le_trans h (by decide)
theorem szl {n : Nat} (h : n < 100000) : n < sizeLine := Nat.lt_of_lt_of_le h (by decide)

/-! ### rests -/
def Kd.nm : Kd → PySem.Str
  | .seq => "sequence"
  | .cho => "choice"
  | .par => "parallel"
  | .loop => "loop"
def RepR (K : PySem.W.Frag) (H : Hp) : R → V → Prop
  | .step n, v => ∃ a, v = .ref a ∧ SqT K H a [.str "step", .int n]
  | .done, v => ∃ a, v = .ref a ∧ SqT K H a [.str "done"]
  | .bin k l r, v => ∃ a x y, v = .ref a ∧ SqT K H a [.str k.nm, x, y] ∧ RepR K H l x ∧ RepR K H r y
theorem RepR.te {K : PySem.W.Frag} {H H' : Hp} (e : Tk H H') : ∀ {r : R} {v : V}, RepR K H r v → RepR K H' r v
  | .step n, v, ⟨a, hv, h⟩ => ⟨a, hv, e.sq h⟩
  | .done, v, ⟨a, hv, h⟩ => ⟨a, hv, e.sq h⟩
  | .bin k l r, v, ⟨a, x, y, hv, h, h1, h2⟩ => ⟨a, x, y, hv, e.sq h, RepR.te e h1, RepR.te e h2⟩
theorem RepR.same {K : PySem.W.Frag} {H H' : Hp} {r : R} {v : V} (h : RepR K H r v) (e : Same H H') : RepR K H' r v := h.te (te_same e)
def encR : R → PyData
  | .step n => .tuple [.str "step", .int n]
  | .done => .tuple [.str "done"]
  | .bin k l r => .tuple [.str k.nm, encR l, encR r]
def dpR : R → Nat
  | .step _ => 0
  | .done => 0
  | .bin _ l r => max (dpR l) (dpR r) + 1
theorem RepR.dp {K : PySem.W.Frag} {H : Hp} : ∀ {r : R} {v : V}, RepR K H r v → Dp K H v (encR r)
  | .step n, v, ⟨a, hv, h⟩ => by subst hv; exact .tup h (.cons (.str _) (.cons (.int _) .nil))
  | .done, v, ⟨a, hv, h⟩ => by subst hv; exact .tup h (.cons (.str _) .nil)
  | .bin k l r, v, ⟨a, x, y, hv, h, h1, h2⟩ => by subst hv; exact .tup h (.cons (.str _) (.cons (RepR.dp h1) (.cons (RepR.dp h2) .nil)))
theorem encR_lay : ∀ r : R, (encR r).canLay0 = true
  | .step n => by
    have h : (PyData.str "step").canLay0 = true := by decide +kernel
    simp only [encR, PyData.canLay0, PyData.canLayAll0] at h ⊢
    rw [h]
    rfl
  | .done => by decide +kernel
  | .bin k l r => by
    have h : (PyData.str k.nm).canLay0 = true := by cases k <;> decide +kernel
    simp only [encR, PyData.canLay0, PyData.canLayAll0] at h ⊢
    rw [h, encR_lay l, encR_lay r]
    rfl
theorem encR_depth : ∀ r : R, (encR r).depth = dpR r + 1
  | .step n => by simp [encR, PyData.depth, PyData.depthAll, dpR]
  | .done => by simp [encR, PyData.depth, PyData.depthAll, dpR]
  | .bin k l r => by
    simp only [encR, PyData.depth, PyData.depthAll, encR_depth l, encR_depth r, dpR]
    omega
theorem encR_shaped {r : R} (h : dpR r ≤ 60) : SeqAt.shaped (encR r) = true := by
  unfold SeqAt.shaped
  rw [encR_lay, encR_depth, Bool.true_and]
  exact decide_eq_true (by omega)
theorem nm_inj {a b : Kd} : (a.nm == b.nm) = decide (a = b) := by cases a <;> cases b <;> decide +kernel
theorem eqv_tup (xs ys : List PyData) : PyData.eqv (.tuple xs) (.tuple ys) = PyData.eqvAll xs ys := by simp only [PyData.eqv]
theorem eqv_str (x y : PySem.Str) : PyData.eqv (.str x) (.str y) = (x == y) := by simp only [PyData.eqv]
theorem eqv_int (x y : Int) : PyData.eqv (.int x) (.int y) = decide (x = y) := by
  simp only [PyData.eqv]
  by_cases h : x = y
  · rw [decide_eq_true h, h, beq_self_eq_true]
  · rw [decide_eq_false h, beq_eq_false_iff_ne.mpr h]
theorem eqvA_cons (x y : PyData) (xs ys : List PyData) : PyData.eqvAll (x :: xs) (y :: ys) = (PyData.eqv x y && PyData.eqvAll xs ys) := by simp only [PyData.eqvAll]
theorem eqvA_nil : PyData.eqvAll [] [] = true := by simp only [PyData.eqvAll]
theorem eqvA_nc (y : PyData) (ys : List PyData) : PyData.eqvAll [] (y :: ys) = false := by simp only [PyData.eqvAll]
theorem eqvA_cn (y : PyData) (ys : List PyData) : PyData.eqvAll (y :: ys) [] = false := by simp only [PyData.eqvAll]
theorem encR_eqv (a : R) : ∀ b : R, PyData.eqv (encR a) (encR b) = decide (a = b) := by
  induction a with
  | step n =>
    intro b
    cases b with
    | step m =>
      simp only [encR, eqv_tup, eqvA_cons, eqvA_nil, eqv_str, eqv_int, beq_self_eq_true, Bool.true_and, Bool.and_true, R.step.injEq]
    | done =>
      simp only [encR, eqv_tup, eqvA_cons, eqvA_cn, Bool.and_false]
      exact (decide_eq_false (fun z => by cases z)).symm
    | bin k l r =>
      simp only [encR, eqv_tup, eqvA_cons, eqvA_nc, Bool.and_false]
      exact (decide_eq_false (fun z => by cases z)).symm
  | done =>
    intro b
    cases b with
    | step m =>
      simp only [encR, eqv_tup, eqvA_cons, eqvA_nc, Bool.and_false]
      exact (decide_eq_false (fun z => by cases z)).symm
    | done =>
      simp only [encR, eqv_tup, eqvA_cons, eqvA_nil, eqv_str, beq_self_eq_true, Bool.and_true]
      exact (decide_eq_true (rfl : R.done = R.done)).symm
    | bin k l r =>
      simp only [encR, eqv_tup, eqvA_cons, eqvA_nc, Bool.and_false]
      exact (decide_eq_false (fun z => by cases z)).symm
  | bin k l r il ir =>
    intro b
    cases b with
    | step m =>
      simp only [encR, eqv_tup, eqvA_cons, eqvA_cn, Bool.and_false]
      exact (decide_eq_false (fun z => by cases z)).symm
    | done =>
      simp only [encR, eqv_tup, eqvA_cons, eqvA_cn, Bool.and_false]
      exact (decide_eq_false (fun z => by cases z)).symm
    | bin k' l' r' =>
      simp only [encR, eqv_tup, eqvA_cons, eqvA_nil, eqv_str, nm_inj, il l', ir r', Bool.and_true, R.bin.injEq]
      rw [← Bool.decide_and, ← Bool.decide_and]
/-- a list of things, each told -/
abbrev Rows {β : Type} (F : β → V → Prop) (xs : List V) (bs : List β) : Prop := Paired (fun v b => F b v) xs bs
theorem Rows.len {β : Type} {F : β → V → Prop} {xs : List V} {bs : List β} (h : Rows F xs bs) : xs.length = bs.length := Paired.length h
theorem Rows.imp {β : Type} {F G : β → V → Prop} {xs : List V} {bs : List β} (h : Rows F xs bs) (f : ∀ b v, F b v → G b v) : Rows G xs bs := L2.Paired.mapP h fun v b => f b v
theorem Rows.append {β : Type} {F : β → V → Prop} : ∀ {xs ys : List V} {bs cs : List β}, Rows F xs bs → Rows F ys cs → Rows F (xs ++ ys) (bs ++ cs)
  | _, _, _, _, .nil, h => h
  | _, _, _, _, .cons a t, h => .cons a (Rows.append t h)
theorem Rows.one {β : Type} {F : β → V → Prop} {v : V} {b : β} (h : F b v) : Rows F [v] [b] := .cons h .nil
theorem Rows.get {β : Type} {F : β → V → Prop} : ∀ {xs : List V} {bs : List β} {i : Nat} {x : V}, Rows F xs bs → xs[i]? = some x → ∃ b, bs[i]? = some b ∧ F b x
  | _, _, _, _, .nil, e => by simp at e
  | _, _, 0, _, .cons a t, e => by
    cases e
    exact ⟨_, rfl, a⟩
  | _, _, i + 1, _, .cons a t, e => Rows.get (i := i) t e
theorem Rows.take {β : Type} {F : β → V → Prop} : ∀ {xs : List V} {bs : List β} (i : Nat), Rows F xs bs → Rows F (xs.take i) (bs.take i)
  | _, _, 0, _ => .nil
  | _, _, _ + 1, .nil => .nil
  | _, _, i + 1, .cons a t => .cons a (Rows.take i t)
theorem Rows.dp {K : PySem.W.Frag} {H : Hp} : ∀ {xs : List V} {rs : List R}, Rows (RepR K H) xs rs → DpAll K H xs (rs.map encR)
  | _, _, .nil => .nil
  | _, _, .cons a t => .cons (RepR.dp a) (Rows.dp t)
theorem take_succ {α : Type} {l : List α} {i : Nat} {x : α} (h : l[i]? = some x) : l.take (i + 1) = l.take i ++ [x] := by
  rw [List.take_add_one, h]
  rfl
/-! ### tests -/
theorem ifT {c A B : Prop} [Decidable c] (hc : c) (h : A) : if decide c = true then A else B := by
  rw [decide_eq_true hc]
  exact iteT h
theorem ifF {c A B : Prop} [Decidable c] (hc : ¬ c) (h : B) : if decide c = true then A else B := by
  rw [decide_eq_false hc]
  exact iteF h
theorem ifB {b : Bool} {A B : Prop} (h1 : b = true → A) (h2 : b = false → B) : if b = true then A else B := by
  cases b
  · exact iteF (h2 rfl)
  · exact iteT (h1 rfl)
theorem ifEnc {a b : R} {A B : Prop} (h1 : a = b → A) (h2 : a ≠ b → B) : if PyData.eqv (encR a) (encR b) = true then A else B := by
  rw [encR_eqv]
  by_cases h : a = b
  · exact ifT h (h1 h)
  · exact ifF h (h2 h)
theorem Mo.rep {K : PySem.W.Frag} {mg : PySem.Str → Option Value} (M : Mo K mg) (H : Hp) : RepR K H .done (.ref (He.ga K "DONE")) := ⟨_, rfl, M.doneT H⟩
theorem tup2 : 2 ≤ sizeLine := by decide
theorem tup3 : 3 ≤ sizeLine := by decide
theorem at0 {x : V} {xs : List V} : atI (x :: xs) 0 = some x := atI_nat (j := 0) rfl
theorem at1 {x y : V} {xs : List V} : atI (x :: y :: xs) 1 = some y := atI_nat (j := 1) rfl
theorem at2 {x y z : V} {xs : List V} : atI (x :: y :: z :: xs) 2 = some z := atI_nat (j := 2) rfl
theorem at3 {x y z u : V} {xs : List V} : atI (x :: y :: z :: u :: xs) 3 = some u := atI_nat (j := 3) rfl
end Tf

/-! Comprehensions over lists of told things; bounds of rests. -/
namespace Tf
open PySem PySem.Spec PyProof.Rows L2
/-- a relation that leans on tuples alone -/
def Stays {β : Type} (F : Hp → β → V → Prop) : Prop := ∀ H H' b v, Tk H H' → F H b v → F H' b v
theorem stays_R (K : PySem.W.Frag) : Stays (RepR K) := fun _ _ _ _ e h => h.te e
theorem Rows.te {β : Type} {F : Hp → β → V → Prop} (s : Stays F) {H H' : Hp} {xs : List V} {bs : List β} (e : Tk H H') (h : Rows (F H) xs bs) : Rows (F H') xs bs := h.imp fun b v => s H H' b v e
theorem Rows.same {β : Type} {F : Hp → β → V → Prop} (s : Stays F) {H H' : Hp} {xs : List V} {bs : List β} (e : Same H H') (h : Rows (F H) xs bs) : Rows (F H') xs bs := h.te s (te_same e)
theorem yes_of {σ : L2.St} {H : Hp} {Q : Bool → Hp → Prop} (h : Q true H) : tYes σ H Q := h
section
variable {K : PySem.W.Frag} {β γ : Type}
/-- [f(x) for x in xs]: each element by its own reading -/
theorem lc_map {a : Addr} {xs : List V} {bs : List β} {g : TG} {te : TE} {vs : List Nat} {σ : L2.St} {H1 : Hp} {D : Addr} {Qd : Hp → Prop} {j : Nat} (F : Hp → β → V → Prop) (G : Hp → γ → V → Prop) (sF : Stays F) (sG : Stays G) (f : β → γ)
    (hg : g = gName j) (hS : SqL K H1 a xs) (hb : Rows (F H1) xs bs) (hD : H1 D = none) (hz : bs.length ≤ sizeLine) (hw : ∀ x : V, wipe ((wipe σ vs).set j (some x)) vs = wipe σ vs)
    (turn : ∀ (i : Nat) (x : V) (b : β) (Hc : Hp), bs[i]? = some b → F Hc b x → Same H1 Hc → ∀ Q : VK, (∀ y H4, Same Hc H4 → G H4 (f b) y → Q y H4) → te ((wipe σ vs).set j (some x)) Hc Q)
    (done : ∀ Hd ys, Same H1 Hd → Hd D = some (.lst ys) → Rows (G Hd) ys (bs.map f) → Qd Hd) :
    ∃ W : Nat → Nat → Hp → Prop, (∃ m, W 0 m (upd H1 D (.lst []))) ∧ ∀ i m H, W i m H →
      ((Itl K a).stop i H ∧ Qd H) ∨ ((Itl K a).go i H ∧ ∃ Nx : Hp → Prop, (∀ H', Nx H' → ∃ m', m' < m ∧ W (i + 1) m' H') ∧ ∀ x H', (Itl K a).yld i H x H' → g x (wipe σ vs) H' fun σ2 H2 => wipe σ2 vs = wipe σ vs ∧ tYes σ2 H2 fun b H3 =>
        if b = true then te σ2 H3 fun y H4 => ∃ acc, H4 D = some (.lst acc) ∧ acc.length < sizeLine ∧ Nx (upd H4 D (.lst (acc ++ [y]))) else Nx H3) := by
  subst hg
  have hlen := hb.len
  refine lc_list (xs := xs) (fun i H => ∃ ys, Same H1 H ∧ H D = some (.lst ys) ∧ Rows (G H) ys ((bs.take i).map f)) ⟨[], same_upd hD, upd_same, .nil⟩ (fun i H _ ⟨ys, e, _⟩ => e.seq hS) (fun i x H hx ⟨ys, e, hy, hr⟩ => ?_) (fun H ⟨ys, e, hy, hr⟩ => ?_)
  · obtain ⟨b, hbi, hF⟩ := hb.get hx
    refine ⟨hw x, ?_⟩
    refine yes_of ?_
    rw [if_pos rfl]
    refine turn i x b H hbi (sF _ _ _ _ (te_same e) hF) e _ fun y H4 e4 hG => ⟨ys, e4 _ _ hy, ?_, _, same_mut (e.trans e4) hD, upd_same, ?_⟩
    · have h1 := hr.len
      rw [List.length_map, List.length_take] at h1
      have h2 := (List.getElem?_eq_some_iff.mp hbi).1
      omega
    · have t1 : Tk H4 (upd H4 D (.lst (ys ++ [y]))) := te_lst (e4 _ _ hy)
      rw [take_succ hbi, List.map_append]
      exact (Rows.te sG ((te_same e4).trans t1) hr).append (.one (sG _ _ _ _ t1 hG))
  · refine done H ys e hy ?_
    rw [hlen, List.take_length] at hr
    exact hr
/-- [x for x in xs if test(x)] -/
theorem lc_filter {a : Addr} {xs : List V} {bs : List β} {g : TG} {te : TE} {tt : TT} {vs : List Nat} {σ : L2.St} {H1 : Hp} {D : Addr} {Qd : Hp → Prop} {j : Nat} (F : Hp → β → V → Prop) (sF : Stays F) (p : β → Bool)
    (hg : g = gName j) (hte : te = tVar j) (hS : SqL K H1 a xs) (hb : Rows (F H1) xs bs) (hD : H1 D = none) (hz : bs.length ≤ sizeLine) (hw : ∀ x : V, wipe ((wipe σ vs).set j (some x)) vs = wipe σ vs) (hj : j < (wipe σ vs).length)
    (turn : ∀ (i : Nat) (x : V) (b : β) (Hc : Hp), bs[i]? = some b → F Hc b x → Same H1 Hc → ∀ Q : Bool → Hp → Prop, (∀ H4, Same Hc H4 → Q (p b) H4) → tt ((wipe σ vs).set j (some x)) Hc Q)
    (done : ∀ Hd ys, Same H1 Hd → Hd D = some (.lst ys) → Rows (F Hd) ys (bs.filter p) → Qd Hd) :
    ∃ W : Nat → Nat → Hp → Prop, (∃ m, W 0 m (upd H1 D (.lst []))) ∧ ∀ i m H, W i m H →
      ((Itl K a).stop i H ∧ Qd H) ∨ ((Itl K a).go i H ∧ ∃ Nx : Hp → Prop, (∀ H', Nx H' → ∃ m', m' < m ∧ W (i + 1) m' H') ∧ ∀ x H', (Itl K a).yld i H x H' → g x (wipe σ vs) H' fun σ2 H2 => wipe σ2 vs = wipe σ vs ∧ tt σ2 H2 fun b H3 =>
        if b = true then te σ2 H3 fun y H4 => ∃ acc, H4 D = some (.lst acc) ∧ acc.length < sizeLine ∧ Nx (upd H4 D (.lst (acc ++ [y]))) else Nx H3) := by
  subst hg
  subst hte
  have hlen := hb.len
  refine lc_list (xs := xs) (fun i H => ∃ ys, Same H1 H ∧ H D = some (.lst ys) ∧ Rows (F H) ys ((bs.take i).filter p)) ⟨[], same_upd hD, upd_same, .nil⟩ (fun i H _ ⟨ys, e, _⟩ => e.seq hS) (fun i x H hx ⟨ys, e, hy, hr⟩ => ?_) (fun H ⟨ys, e, hy, hr⟩ => ?_)
  · obtain ⟨b, hbi, hF⟩ := hb.get hx
    refine ⟨hw x, turn i x b H hbi (sF _ _ _ _ (te_same e) hF) e _ fun H4 e4 => ifB (fun hp => ?_) (fun hp => ?_)⟩
    · refine ⟨x, by rw [List.getElem?_set_self hj], ys, e4 _ _ hy, ?_, _, same_mut (e.trans e4) hD, upd_same, ?_⟩
      · have h1 := hr.len
        have h0 := List.length_filter_le p (bs.take i)
        rw [List.length_take] at h0
        have h2 := (List.getElem?_eq_some_iff.mp hbi).1
        omega
      · have t1 : Tk H4 (upd H4 D (.lst (ys ++ [x]))) := te_lst (e4 _ _ hy)
        rw [take_succ hbi, List.filter_append, List.filter_cons, if_pos hp]
        exact (Rows.te sF ((te_same e4).trans t1) hr).append (.one (sF _ _ _ _ ((te_same e).trans ((te_same e4).trans t1)) hF))
    · refine ⟨ys, e.trans e4, e4 _ _ hy, ?_⟩
      rw [take_succ hbi, List.filter_append, List.filter_cons, if_neg (by rw [hp]; exact Bool.false_ne_true), List.filter_nil, List.append_nil]
      exact Rows.te sF (te_same e4) hr
  · refine done H ys e hy ?_
    rw [hlen, List.take_length] at hr
    exact hr
end

/-! ### bounds of rests -/
def lvR : R → Nat
  | .step _ => 1
  | .done => 0
  | .bin _ l r => lvR l + lvR r
theorem dp_joined (k : Kd) (l r : R) : dpR (joined k l r) ≤ max (dpR l) (dpR r) + 1 := by
  unfold joined
  split
  · split
    · omega
    · split
      · omega
      · exact Nat.le_refl _
  · exact Nat.le_refl _
theorem lv_joined (k : Kd) (l r : R) : lvR (joined k l r) ≤ lvR l + lvR r := by
  unfold joined
  split
  · split
    · omega
    · split
      · omega
      · exact Nat.le_refl _
  · exact Nat.le_refl _
theorem dp_again (a b : R) : dpR (again a b) ≤ dpR (.bin .loop a b) + 2 := by
  have h := dp_joined .seq b (.bin .loop a b)
  simp only [again, dpR] at h ⊢
  omega
theorem after_dp : ∀ (r : R) (s : Int) (x : R), x ∈ afterStep r s → dpR x ≤ dpR r + 3
  | .step n, s, x, h => by
    simp only [afterStep] at h
    split at h
    · rw [List.mem_singleton.mp h]
      exact Nat.zero_le _
    · simp at h
  | .done, s, x, h => by simp [afterStep] at h
  | .bin .loop a b, s, x, h => by
    simp only [afterStep] at h
    rcases List.mem_append.mp (mem_ded.mp h) with h | h
    · obtain ⟨p, hp, rfl⟩ := List.mem_map.mp h
      have h1 := after_dp a s p hp
      have h2 := dp_joined .seq p (again a b)
      have h3 := dp_again a b
      simp only [dpR] at h3 ⊢
      omega
    · split at h
      · obtain ⟨p, hp, rfl⟩ := List.mem_map.mp h
        have h1 := after_dp b s p hp
        have h2 := dp_joined .seq p (.bin .loop a b)
        simp only [dpR] at h2 ⊢
        omega
      · simp at h
  | .bin .cho a b, s, x, h => by
    simp only [afterStep] at h
    simp only [dpR]
    rcases List.mem_append.mp (mem_ded.mp h) with h | h
    · have h1 := after_dp a s x h
      omega
    · have h1 := after_dp b s x h
      omega
  | .bin .par a b, s, x, h => by
    simp only [afterStep] at h
    simp only [dpR]
    rcases List.mem_append.mp (mem_ded.mp h) with h | h
    · obtain ⟨p, hp, rfl⟩ := List.mem_map.mp h
      have h1 := after_dp a s p hp
      have h2 := dp_joined .par p b
      omega
    · obtain ⟨p, hp, rfl⟩ := List.mem_map.mp h
      have h1 := after_dp b s p hp
      have h2 := dp_joined .par a p
      omega
  | .bin .seq a b, s, x, h => by
    simp only [afterStep] at h
    simp only [dpR]
    rcases List.mem_append.mp (mem_ded.mp h) with h | h
    · obtain ⟨p, hp, rfl⟩ := List.mem_map.mp h
      have h1 := after_dp a s p hp
      have h2 := dp_joined .seq p b
      omega
    · split at h
      · have h1 := after_dp b s x h
        omega
      · simp at h
theorem len_if {α : Type} {c : Bool} (l : List α) : (if c = true then l else []).length ≤ l.length := by
  cases c
  · exact Nat.zero_le _
  · exact Nat.le_refl _
theorem after_len : ∀ (r : R) (s : Int), (afterStep r s).length ≤ lvR r
  | .step n, s => by
    simp only [afterStep, lvR]
    split
    · exact Nat.le_refl _
    · exact Nat.zero_le _
  | .done, s => Nat.le_refl _
  | .bin .loop a b, s => by
    have h1 := after_len a s
    have h2 := after_len b s
    have h3 := @len_if R (canEnd a) ((afterStep b s).map fun p => joined .seq p (.bin .loop a b))
    simp only [afterStep, lvR]
    refine Nat.le_trans (length_ded _) ?_
    rw [List.length_append, List.length_map]
    rw [List.length_map] at h3
    omega
  | .bin .cho a b, s => by
    have h1 := after_len a s
    have h2 := after_len b s
    simp only [afterStep, lvR]
    refine Nat.le_trans (length_ded _) ?_
    rw [List.length_append]
    omega
  | .bin .par a b, s => by
    have h1 := after_len a s
    have h2 := after_len b s
    simp only [afterStep, lvR]
    refine Nat.le_trans (length_ded _) ?_
    rw [List.length_append, List.length_map, List.length_map]
    omega
  | .bin .seq a b, s => by
    have h1 := after_len a s
    have h2 := after_len b s
    have h3 := @len_if R (canEnd a) (afterStep b s)
    simp only [afterStep, lvR]
    refine Nat.le_trans (length_ded _) ?_
    rw [List.length_append, List.length_map]
    omega
theorem first_len : ∀ r : R, (firstSteps r).length ≤ lvR r
  | .step n => Nat.le_refl _
  | .done => Nat.le_refl _
  | .bin .loop a b => by
    have h1 := first_len a
    have h2 := first_len b
    have h3 := @len_if Int (canEnd a) (firstSteps b)
    simp only [firstSteps, lvR, List.length_append]
    omega
  | .bin .seq a b => by
    have h1 := first_len a
    have h2 := first_len b
    have h3 := @len_if Int (canEnd a) (firstSteps b)
    simp only [firstSteps, lvR, List.length_append]
    omega
  | .bin .cho a b => by
    have h1 := first_len a
    have h2 := first_len b
    simp only [firstSteps, lvR, List.length_append]
    omega
  | .bin .par a b => by
    have h1 := first_len a
    have h2 := first_len b
    simp only [firstSteps, lvR, List.length_append]
    omega
theorem short_len : ∀ r : R, (shortest r).length ≤ lvR r
  | .step n => Nat.le_refl _
  | .done => Nat.le_refl _
  | .bin .loop a b => by
    have h1 := short_len a
    simp only [shortest, lvR]
    omega
  | .bin .seq a b => by
    have h1 := short_len a
    have h2 := short_len b
    simp only [shortest, lvR, List.length_append]
    omega
  | .bin .par a b => by
    have h1 := short_len a
    have h2 := short_len b
    simp only [shortest, lvR, List.length_append]
    omega
  | .bin .cho a b => by
    have h1 := short_len a
    have h2 := short_len b
    simp only [shortest, lvR]
    split <;> omega
/-- membership, over lists of rests -/
theorem any_enc (r : R) : ∀ l : List R, ((l.map encR).any fun z => PyData.eqv z (encR r)) = decide (r ∈ l)
  | [] => rfl
  | x :: l => by
    rw [List.map_cons, List.any_cons, encR_eqv, any_enc r l]
    by_cases h : x = r
    · subst h
      simp
    · have h' : ¬ r = x := fun z => h z.symm
      simp [h, h']
theorem layAll : ∀ l : List R, PyData.canLayAll0 (l.map encR) = true
  | [] => rfl
  | x :: l => by
    simp only [List.map_cons, PyData.canLayAll0, encR_lay, layAll l, Bool.and_self]
theorem depthAll_le : ∀ (l : List R), (∀ x ∈ l, dpR x ≤ 60) → PyData.depthAll (l.map encR) ≤ 61
  | [], _ => Nat.zero_le _
  | x :: l, h => by
    have h1 := h x List.mem_cons_self
    have h2 := depthAll_le l fun y hy => h y (List.mem_cons_of_mem _ hy)
    simp only [List.map_cons, PyData.depthAll, encR_depth]
    omega
theorem shapedL {l : List R} (h : ∀ x ∈ l, dpR x ≤ 60) : SeqAt.shaped (.list (l.map encR)) = true := by
  unfold SeqAt.shaped
  have h1 := depthAll_le l h
  simp only [PyData.canLay0, PyData.depth, layAll, Bool.true_and]
  exact decide_eq_true (by omega)
theorem ded_snoc {α : Type} [DecidableEq α] (l : List α) (x : α) : ded (l ++ [x]) = dedT (ded l) x := by
  unfold ded
  rw [List.foldl_append]
  rfl
end Tf

/-! Rules with the class table told by name: for the inner scopes. -/
namespace Tf
open PySem PySem.Spec PyProof.Rows L2
section
variable {X : Cx} {K : PySem.W.Frag}
def rLenS (K : PySem.W.Frag) : List V → Hp → VK → Prop := fun xs H Q => ∃ p ys, xs = [V.ref p] ∧ (SqL K H p ys ∨ SqT K H p ys) ∧ Q (V.int ys.length) H
theorem cr_lenK (h : X.K = K) : CallR X (.builtin "len") (rLenS K) := by
  subst h
  exact call_len_seq
theorem ix_listK (h : X.K = K) : IxR X (rIxL K) := by
  subst h
  exact ix_list
theorem ix_tupK (h : X.K = K) : IxR X (rIxT K) := by
  subst h
  exact ix_tup
theorem sl_listK (h : X.K = K) : SlR X (rSlL K) := by
  subst h
  exact sl_list
theorem sl_tupK (h : X.K = K) : SlR X (rSlA K) := by
  subst h
  exact sl_tupA
theorem op_catK (h : X.K = K) : OpR X (binaryOp .Add) (rCatA K) := by
  subst h
  exact op_catA
theorem pg_tupK (h : X.K = K) {es : List Expr} {k : Nat} {pos : Pos} {t : TGs} {n : Nat} (hc : X.calm = true) (ht : PGs X es t)
    (hn : (assignEach es X.env).length = n := by rfl) (hst : (assignEach es X.env).findIdx? (·.1) = none := by rfl) : PG X (.Tuple es k pos) (gTup K n t) := by
  subst h
  exact pg_tup hc ht hn hst
theorem op_inDK (h : X.K = K) (hu : X.A.units + 65 < cLine) : OpR X (compareOp .In) (rInD K) := by
  subst h
  exact op_inD hu
end
end Tf

namespace Tf
open PySem PySem.Spec PyProof.Rows L2
section
variable {P : Program} {w : World} {K : PySem.W.Frag} {mg : PySem.Str → Option Value} {base : Heap}
/-! ### joined -/
abbrev s_joined : Stmt := top 17
abbrev nm_joined : List PySem.Str := ["kind", "left", "right"]
theorem sc_joined : FnScope nm_joined ["kind", "left", "right"] (defScope s_joined) := ⟨rfl, rfl, rfl, by decide +kernel, rfl, by decide +kernel, by decide +kernel⟩
def spJoined (K : PySem.W.Frag) : Sp := fun vs H Q _ => ∃ (k : Kd) (l r : R) (x y : V), vs = [.str k.nm, x, y] ∧ RepR K H l x ∧ RepR K H r y ∧ dpR l ≤ 60 ∧ dpR r ≤ 60 ∧ ∀ v H', Same H H' → RepR K H' (joined k l r) v → Q v H'
theorem ok_joined (D : Dfn K mg "joined" s_joined) (M : Mo K mg) : Callee P w K mg base 1 "joined" ["kind", "left", "right"] (spJoined K) := by
  refine D.ok (fun _ _ _ _ _ _ us hl => match us, hl with | [_, _, _], _ => rfl) sc_joined (fun vs H Q E h => ?_) (fun f cdv A outer s H vs Q E hr h => ?_)
  · obtain ⟨k, l, r, x, y, rfl, _⟩ := h
    rfl
  obtain ⟨k, l, r, x, y, rfl, hl, hr', dl, dr, q⟩ := h
  refine ⟨_, (pss_cons (ps_if (PW.pt (pw_or (pt_cmpR op_eq (pv 0) pe_str (nomark _)) (pw_or1 (pt_cmpR op_eq (pv 0) pe_str (nomark _))))) (pss_cons (ps_if (pt_cmpR (op_eqD hr.units) (pv 1) (pe_glob (v := .ref (He.ga K "DONE")) (by rfl) M.done rfl) (nomark _)) (pss_one (ps_ret (pv 2))) pss_nil)
    (pss_one (ps_if (pt_cmpR (op_eqD hr.units) (pv 2) (pe_glob (v := .ref (He.ga K "DONE")) (by rfl) M.done rfl) (nomark _)) (pss_one (ps_ret (pv 1))) pss_nil))) pss_nil)
    (pss_one (ps_ret (pe_tup (pa_cons (pv 0) (pa_cons (pv 1) (pa_cons (pv 2) pa_nil))))))), ?_⟩
  have last : ∀ (D : Ends), D.rt = Q → ¬ ((k = .seq ∨ k = .par) ∧ (l = .done ∨ r = .done)) → tRet (tTup (tCons (tVar 0) (tCons (tVar 1) (tCons (tVar 2) tNil)))) D [some (.str k.nm), some x, some y] H := by
    intro D eD hn
    refine ⟨_, rfl, _, rfl, _, rfl, tup3, fun p np => ?_⟩
    rw [eD]
    refine q _ _ (same_upd np) ?_
    have e : joined k l r = .bin k l r := by
      unfold joined
      split
      · rename_i hk
        rw [if_neg fun z => hn ⟨hk, .inl z⟩, if_neg fun z => hn ⟨hk, .inr z⟩]
      · rfl
    rw [e]
    exact ⟨p, x, y, rfl, tupS upd_same, hl.same (same_upd np), hr'.same (same_upd np)⟩
  have two : k = .seq ∨ k = .par → ∀ (D : Ends), D.rt = Q → (tSeq (tIfS (tTest (tOp (rEqD K) (tVar 1) (tC (.ref (He.ga K "DONE"))))) (tRet (tVar 2)) tNext) (tIfS (tTest (tOp (rEqD K) (tVar 2) (tC (.ref (He.ga K "DONE"))))) (tRet (tVar 1)) tNext))
      { D with nx := tRet (tTup (tCons (tVar 0) (tCons (tVar 1) (tCons (tVar 2) tNil)))) D } [some (.str k.nm), some x, some y] H := by
    intro hk D eD
    refine ⟨_, rfl, _, _, hl.dp, (M.rep H).dp, encR_shaped dl, encR_shaped (by decide), _, rfl, ifEnc (fun e => ?_) (fun e => ?_)⟩
    · refine ⟨_, rfl, ?_⟩
      show D.rt _ _
      rw [eD]
      refine q _ _ (Same.refl H) ?_
      unfold joined
      rw [if_pos hk, if_pos e]
      exact hr'
    · refine ⟨_, rfl, _, _, hr'.dp, (M.rep H).dp, encR_shaped dr, encR_shaped (by decide), _, rfl, ifEnc (fun e2 => ?_) (fun e2 => ?_)⟩
      · refine ⟨_, rfl, ?_⟩
        show D.rt _ _
        rw [eD]
        refine q _ _ (Same.refl H) ?_
        unfold joined
        rw [if_pos hk, if_neg e, if_pos e2]
        exact hl
      · exact last D eD fun z => z.2.elim e e2
  cases k with
  | seq => exact ⟨_, rfl, rfl, _, rfl, ifT (by decide +kernel) (iteT (two (.inl rfl) _ rfl))⟩
  | par => exact ⟨_, rfl, rfl, _, rfl, ifF (by decide +kernel) ⟨_, rfl, rfl, _, rfl, ifT (by decide +kernel) (two (.inr rfl) _ rfl)⟩⟩
  | cho => exact ⟨_, rfl, rfl, _, rfl, ifF (by decide +kernel) ⟨_, rfl, rfl, _, rfl, ifF (by decide +kernel) (last _ rfl fun z => by rcases z.1 with h | h <;> cases h)⟩⟩
  | loop => exact ⟨_, rfl, rfl, _, rfl, ifF (by decide +kernel) ⟨_, rfl, rfl, _, rfl, ifF (by decide +kernel) (last _ rfl fun z => by rcases z.1 with h | h <;> cases h)⟩⟩
/-! ### can_end -/
abbrev s_can_end : Stmt := top 20
abbrev nm_can_end : List PySem.Str := ["rest", "kind"]
theorem sc_can_end : FnScope nm_can_end ["rest"] (defScope s_can_end) := ⟨rfl, rfl, rfl, by decide +kernel, rfl, by decide +kernel, by decide +kernel⟩
def spCan (K : PySem.W.Frag) (d : Nat) : Sp := fun vs H Q _ => ∃ (r : R) (x : V), vs = [x] ∧ RepR K H r x ∧ dpR r < d ∧ ∀ H', Same H H' → Q (.bl (canEnd r)) H'
theorem can_end_none (D : Dfn K mg "can_end" s_can_end) : Callee P w K mg base 0 "can_end" ["rest"] (spCan K 0) :=
  D.none (fun _ _ _ _ _ _ us hl => match us, hl with | [_], _ => rfl) fun vs H Q E h => by
    obtain ⟨r, x, _, _, hd, _⟩ := h
    omega
theorem can_end_step {d : Nat} (D : Dfn K mg "can_end" s_can_end) (C_can_end : Callee P w K mg base d "can_end" ["rest"] (spCan K d)) : Callee P w K mg base (d + 1) "can_end" ["rest"] (spCan K (d + 1)) := by
  refine D.ok (fun _ _ _ _ _ _ us hl => match us, hl with | [_], _ => rfl) sc_can_end (fun vs H Q E h => ?_) (fun f cdv A outer s H vs Q E hr h => ?_)
  · obtain ⟨r, x, rfl, _⟩ := h
    rfl
  obtain ⟨r, x, rfl, hx, hd, q⟩ := h
  refine ⟨_, (pss_cons (ps_set (i := 1) sc_can_end.nd rfl (by first | exact Or.inl rfl | exact Or.inr rfl) (pe_ix ix_tup (pv 0) pe_int (fun _ _ => rfl)))
    (pss_cons (ps_if (pt_cmpR op_eq (pv 1) pe_str (nomark _)) (pss_one (ps_ret pe_bl)) pss_nil)
    (pss_cons (ps_if (pt_cmpR op_eq (pv 1) pe_str (nomark _)) (pss_one (ps_ret pe_bl)) pss_nil)
    (pss_cons (ps_if (pt_cmpR op_eq (pv 1) pe_str (nomark _)) (pss_one (ps_ret (pe_callC C_can_end (hr.mono (by omega)) (by rfl) (pa_cons (pe_ix ix_tup (pv 0) pe_int (fun _ _ => rfl)) pa_nil)))) pss_nil)
    (pss_cons (ps_if (pt_cmpR op_eq (pv 1) pe_str (nomark _)) (pss_one (ps_ret (pe_or (pe_callC C_can_end (hr.mono (by omega)) (by rfl) (pa_cons (pe_ix ix_tup (pv 0) pe_int (fun _ _ => rfl)) pa_nil)) (pe_one (pe_callC C_can_end (hr.mono (by omega)) (by rfl) (pa_cons (pe_ix ix_tup (pv 0) pe_int (fun _ _ => rfl)) pa_nil)))))) pss_nil)
    (pss_one (ps_ret (pe_and (pe_callC C_can_end (hr.mono (by omega)) (by rfl) (pa_cons (pe_ix ix_tup (pv 0) pe_int (fun _ _ => rfl)) pa_nil)) (pe_one (pe_callC C_can_end (hr.mono (by omega)) (by rfl) (pa_cons (pe_ix ix_tup (pv 0) pe_int (fun _ _ => rfl)) pa_nil))))))))))), ?_⟩
  cases r with
  | step n =>
    obtain ⟨a, rfl, ha⟩ := hx
    refine ⟨_, rfl, a, _, _, _, rfl, rfl, ha, at0, ?_⟩
    refine ⟨_, rfl, rfl, _, rfl, ifT (by decide +kernel) ?_⟩
    exact q H (Same.refl H)
  | done =>
    obtain ⟨a, rfl, ha⟩ := hx
    refine ⟨_, rfl, a, _, _, _, rfl, rfl, ha, at0, ?_⟩
    refine ⟨_, rfl, rfl, _, rfl, ifF (by decide +kernel) ?_⟩
    refine ⟨_, rfl, rfl, _, rfl, ifT (by decide +kernel) ?_⟩
    exact q H (Same.refl H)
  | bin k l r =>
    obtain ⟨a, u, v, rfl, ha, hu, hv⟩ := hx
    have dl : dpR l < d := by simp only [dpR] at hd; omega
    have dr : dpR r < d := by simp only [dpR] at hd; omega
    refine ⟨_, rfl, a, _, _, _, rfl, rfl, ha, at0, ?_⟩
    cases k with
    | loop =>
      refine ⟨_, rfl, rfl, _, rfl, ifF (by decide +kernel) ⟨_, rfl, rfl, _, rfl, ifF (by decide +kernel) ⟨_, rfl, rfl, _, rfl, ifT (by decide +kernel) ?_⟩⟩⟩
      exact ⟨_, rfl, a, _, _, _, rfl, rfl, ha, at1, l, _, rfl, hu, dl, fun H' e => q H' e⟩
    | cho =>
      refine ⟨_, rfl, rfl, _, rfl, ifF (by decide +kernel) ⟨_, rfl, rfl, _, rfl, ifF (by decide +kernel) ⟨_, rfl, rfl, _, rfl, ifF (by decide +kernel) ⟨_, rfl, rfl, _, rfl, ifT (by decide +kernel) ?_⟩⟩⟩⟩
      refine ⟨_, rfl, a, _, _, _, rfl, rfl, ha, at1, l, _, rfl, hu, dl, fun H1 e1 => ⟨_, rfl, ?_⟩⟩
      refine ifB (fun h1 => ?_) (fun h1 => ?_)
      · have z := q H1 e1
        simp only [canEnd, h1, Bool.true_or] at z
        exact z
      · refine ⟨_, rfl, a, _, _, _, rfl, rfl, same_tup e1 ha, at2, r, _, rfl, hv.same e1, dr, fun H2 e2 => ?_⟩
        have z := q H2 (e1.trans e2)
        simp only [canEnd, h1, Bool.false_or] at z
        exact z
    | seq =>
      refine ⟨_, rfl, rfl, _, rfl, ifF (by decide +kernel) ⟨_, rfl, rfl, _, rfl, ifF (by decide +kernel) ⟨_, rfl, rfl, _, rfl, ifF (by decide +kernel) ⟨_, rfl, rfl, _, rfl, ifF (by decide +kernel) ?_⟩⟩⟩⟩
      refine ⟨_, rfl, a, _, _, _, rfl, rfl, ha, at1, l, _, rfl, hu, dl, fun H1 e1 => ⟨_, rfl, ?_⟩⟩
      refine ifB (fun h1 => ?_) (fun h1 => ?_)
      · refine ⟨_, rfl, a, _, _, _, rfl, rfl, same_tup e1 ha, at2, r, _, rfl, hv.same e1, dr, fun H2 e2 => ?_⟩
        have z := q H2 (e1.trans e2)
        simp only [canEnd, h1, Bool.true_and] at z
        exact z
      · have z := q H1 e1
        simp only [canEnd, h1, Bool.false_and] at z
        exact z
    | par =>
      refine ⟨_, rfl, rfl, _, rfl, ifF (by decide +kernel) ⟨_, rfl, rfl, _, rfl, ifF (by decide +kernel) ⟨_, rfl, rfl, _, rfl, ifF (by decide +kernel) ⟨_, rfl, rfl, _, rfl, ifF (by decide +kernel) ?_⟩⟩⟩⟩
      refine ⟨_, rfl, a, _, _, _, rfl, rfl, ha, at1, l, _, rfl, hu, dl, fun H1 e1 => ⟨_, rfl, ?_⟩⟩
      refine ifB (fun h1 => ?_) (fun h1 => ?_)
      · refine ⟨_, rfl, a, _, _, _, rfl, rfl, same_tup e1 ha, at2, r, _, rfl, hv.same e1, dr, fun H2 e2 => ?_⟩
        have z := q H2 (e1.trans e2)
        simp only [canEnd, h1, Bool.true_and] at z
        exact z
      · have z := q H1 e1
        simp only [canEnd, h1, Bool.false_and] at z
        exact z
theorem ok_can_end (D : Dfn K mg "can_end" s_can_end) : ∀ d : Nat, Callee P w K mg base d "can_end" ["rest"] (spCan K d)
  | 0 => can_end_none D
  | d + 1 => can_end_step D (ok_can_end D d)
end
end Tf

namespace Tf
open PySem PySem.Spec PyProof.Rows L2
section
variable {P : Program} {w : World} {K : PySem.W.Frag} {mg : PySem.Str → Option Value} {base : Heap}
/-- a new list of rests is handed back -/
def NewR (K : PySem.W.Frag) (H : Hp) (rs : List R) (Q : VK) : Prop := ∀ H' p ys, Same H H' → H p = none → H' p = some (.lst ys) → Rows (RepR K H') ys rs → Q (.ref p) H'
/-! ### distinct -/
abbrev s_distinct : Stmt := top 19
abbrev nm_distinct : List PySem.Str := ["rests", "found", "rest"]
theorem sc_distinct : FnScope nm_distinct ["rests"] (defScope s_distinct) := ⟨rfl, rfl, rfl, by decide +kernel, rfl, by decide +kernel, by decide +kernel⟩
def spDistinct (K : PySem.W.Frag) : Sp := fun vs H Q _ => ∃ (a : Addr) (xs : List V) (rs : List R), vs = [.ref a] ∧ SqL K H a xs ∧ Rows (RepR K H) xs rs ∧ rs.length ≤ sizeLine ∧ (∀ r ∈ rs, dpR r ≤ 60) ∧ NewR K H (ded rs) Q
theorem ok_distinct (D : Dfn K mg "distinct" s_distinct) (M : Mo K mg) : Callee P w K mg base 1 "distinct" ["rests"] (spDistinct K) := by
  refine D.ok (fun _ _ _ _ _ _ us hl => match us, hl with | [_], _ => rfl) sc_distinct (fun vs H Q E h => ?_) (fun f cdv A outer s H vs Q E hr h => ?_)
  · obtain ⟨a, xs, rs, rfl, _⟩ := h
    rfl
  obtain ⟨a, xs, rs, rfl, hS, hb, hz, hd, q⟩ := h
  refine ⟨_, (pss_cons (ps_set (i := 1) sc_distinct.nd rfl (by first | exact Or.inl rfl | exact Or.inr rfl) (pe_lst pa_nil))
    (pss_cons (ps_for PassesOwn.never rfl (pi_list (pv 0)) (pg_name (i := 2) sc_distinct.nd rfl (by first | exact Or.inl rfl | exact Or.inr rfl)) (pss_one (ps_if (pt_cmpR (op_notInD (hu_D hr)) (pv 2) (pv 1) (by rfl)) (pss_one (ps_expr (pe_bm PySem.F.plainAttrs_list PySem.F.slot_list_append PySem.F.type_list_append mt_append (pv 1) (pa_cons (pv 2) pa_nil)))) pss_nil)))
    (pss_one (ps_ret (pv 1))))), ?_⟩
  refine ⟨Nat.zero_le _, fun p np => ?_⟩
  have hlen := hb.len
  refine ⟨_, rfl, a, rfl, ⟨_, (same_upd np).seq hS⟩, for_list (xs := xs) (fun i σ H1 => ∃ y ys, σ = [some (.ref a), some (.ref p), y] ∧ Same H H1 ∧ H1 p = some (.lst ys) ∧ Rows (RepR K H1) ys (ded (rs.take i)))
    ⟨_, [], rfl, same_upd np, upd_same, .nil⟩ (fun i σ H1 _ ⟨_, _, _, e, _⟩ => e.seq hS) (fun i x σ H1 hx ⟨y, ys, es, e, hp, hr⟩ => ?_) (fun σ H1 ⟨y, ys, es, e, hp, hr⟩ => ?_)⟩
  · subst es
    obtain ⟨r, hri, hF⟩ := hb.get hx
    have hF1 := RepR.same hF e
    have hdr := hd r (List.mem_of_getElem? hri)
    have hmem : ∀ z ∈ ded (rs.take i), dpR z ≤ 60 := fun z hz => hd z (List.mem_of_mem_take (mem_ded.mp hz))
    refine ⟨_, rfl, _, rfl, _, _, hF1.dp, .lst (lstS hp) hr.dp, encR_shaped hdr, shapedL hmem, _, rfl, ?_⟩
    have et : ded (rs.take (i + 1)) = dedT (ded (rs.take i)) r := by rw [take_succ hri, ded_snoc]
    rw [any_enc]
    by_cases hm : r ∈ ded (rs.take i)
    · rw [decide_eq_true hm]
      refine iteF ⟨_, ys, rfl, e, hp, ?_⟩
      rw [et, dedT, if_pos hm]
      exact hr
    · rw [decide_eq_false hm]
      refine iteT ⟨_, rfl, .inl ⟨rfl, _, lstS hp⟩, _, rfl, p, ys, x, rfl, rfl, hp, ?_, _, ys ++ [x], rfl, same_mut e np, upd_same, ?_⟩
      · have h1 := hr.len
        have h2 := length_ded (rs.take i)
        rw [List.length_take] at h2
        have h3 := (List.getElem?_eq_some_iff.mp hri).1
        omega
      · rw [et, dedT, if_neg hm]
        have t1 := te_lst (o := .lst (ys ++ [x])) hp
        exact (Rows.te (stays_R K) t1 hr).append (.one (hF1.te t1))
  · subst es
    refine ⟨_, rfl, q H1 p ys e np hp ?_⟩
    rw [hlen, List.take_length] at hr
    exact hr
/-! ### after_step, after_step_of_loop -/
abbrev s_after_step_of_loop : Stmt := top 21
abbrev nm_after_step_of_loop : List PySem.Str := ["loop", "step", "again", "found", "part"]
theorem sc_after_step_of_loop : FnScope nm_after_step_of_loop ["loop", "step"] (defScope s_after_step_of_loop) := ⟨rfl, rfl, rfl, by decide +kernel, rfl, by decide +kernel, by decide +kernel⟩
abbrev s_after_step : Stmt := top 22
abbrev nm_after_step : List PySem.Str := ["rest", "step", "kind", "left", "right", "found", "part"]
theorem sc_after_step : FnScope nm_after_step ["rest", "step"] (defScope s_after_step) := ⟨rfl, rfl, rfl, by decide +kernel, rfl, by decide +kernel, by decide +kernel⟩
def spAfter (K : PySem.W.Frag) (d : Nat) : Sp := fun vs H Q _ => ∃ (r : R) (s : Int) (x : V), vs = [x, .int s] ∧ RepR K H r x ∧ dpR r < d ∧ dpR r ≤ 50 ∧ lvR r ≤ 1000000 ∧ NewR K H (afterStep r s) Q
def loopAfter (a b : R) (s : Int) : List R := (afterStep a s).map (fun p => joined .seq p (again a b)) ++ if canEnd a = true then (afterStep b s).map (fun p => joined .seq p (.bin .loop a b)) else []
def spLoopA (K : PySem.W.Frag) (d : Nat) : Sp := fun vs H Q _ => ∃ (a b : R) (s : Int) (x : V), vs = [x, .int s] ∧ RepR K H (.bin .loop a b) x ∧ dpR a < d ∧ dpR b < d ∧ dpR (.bin .loop a b) ≤ 50 ∧ lvR (.bin .loop a b) ≤ 1000000 ∧ NewR K H (loopAfter a b s) Q
theorem szM {n : Nat} (h : n ≤ 1000000) : n ≤ sizeLine := Nat.le_trans h (by decide)
theorem ok_after_loop {d k : Nat} (D : Dfn K mg "after_step_of_loop" s_after_step_of_loop) (M : Mo K mg) (hk : 60 ≤ k) (C_after_step : Callee P w K mg base k "after_step" ["rest", "step"] (spAfter K d)) (C_joined : Callee P w K mg base 1 "joined" ["kind", "left", "right"] (spJoined K))
    (C_can_end : Callee P w K mg base 60 "can_end" ["rest"] (spCan K 60)) : Callee P w K mg base (k + 1) "after_step_of_loop" ["loop", "step"] (spLoopA K d) := by
  refine D.ok (fun _ _ _ _ _ _ us hl => match us, hl with | [_, _], _ => rfl) sc_after_step_of_loop (fun vs H Q E h => ?_) (fun f cdv A outer s H vs Q E hr h => ?_)
  · obtain ⟨a, b, s, x, rfl, _⟩ := h
    rfl
  obtain ⟨a, b, st, x, rfl, hx, da, db, dd, hlv, q⟩ := h
  have h50 := dd
  simp only [dpR] at dd
  simp only [lvR] at hlv
  obtain ⟨t, u, v, rfl, ht, hu, hv⟩ := id hx
  refine ⟨_, (pss_cons (ps_set (i := 2) sc_after_step_of_loop.nd rfl (by first | exact Or.inl rfl | exact Or.inr rfl) (pe_tup (pa_cons pe_str (pa_cons (pe_glob (v := .ref (He.ga K "DONE")) (by rfl) M.done rfl) (pa_cons (pe_callC C_joined (hr.mono (by omega)) (by rfl) (pa_cons pe_str (pa_cons (pe_ix ix_tup (pv 0) pe_int (fun _ _ => rfl)) (pa_cons (pv 0) pa_nil)))) pa_nil)))))
    (pss_cons (ps_setLc (i := 3) (own := [("part", 4)]) rfl sc_after_step_of_loop.nd rfl rfl (sw_true rfl rfl rfl (by decide +kernel)) (pi_list (pe_callC C_after_step (hr.mono (by omega)) (by rfl) (pa_cons (pe_ix ix_tup (pv 0) pe_int (fun _ _ => rfl)) (pa_cons (pv 1) pa_nil)))) (blkOk_by (own := [("part", 4)]) (N := nm_after_step_of_loop) (sc := defScope s_after_step_of_loop) (by decide +kernel)) (fun _ _ _ _ _ => (pg_name (i := 4) sc_after_step_of_loop.nd rfl (by first | exact Or.inl rfl | exact Or.inr rfl))) (fun _ _ _ _ _ => pts_nil) (fun _ _ _ _ _ => (pe_callC C_joined (hr.mono (by omega)) (by rfl) (pa_cons pe_str (pa_cons (pv 4) (pa_cons (pv 2) pa_nil))))))
    (pss_cons (ps_if (pt_val (pe_callC C_can_end (hr.mono (by omega)) (by rfl) (pa_cons (pe_ix ix_tup (pv 0) pe_int (fun _ _ => rfl)) pa_nil))) (pss_one (ps_expr (pe_bm PySem.F.plainAttrs_list PySem.F.slot_list_extend PySem.F.type_list_extend mt_extend (pv 3) (pa_cons (pe_lc (own := [("part", 4)]) rfl sc_after_step_of_loop.nd (pi_list (pe_callC C_after_step (hr.mono (by omega)) (by rfl) (pa_cons (pe_ix ix_tup (pv 0) pe_int (fun _ _ => rfl)) (pa_cons (pv 1) pa_nil)))) (blkOk_by (own := [("part", 4)]) (N := nm_after_step_of_loop) (sc := defScope s_after_step_of_loop) (by decide +kernel)) (fun _ _ _ _ _ => (pg_name (i := 4) sc_after_step_of_loop.nd rfl (by first | exact Or.inl rfl | exact Or.inr rfl))) (fun _ _ _ _ _ => pts_nil) (fun _ _ _ _ _ => (pe_callC C_joined (hr.mono (by omega)) (by rfl) (pa_cons pe_str (pa_cons (pv 4) (pa_cons (pv 0) pa_nil)))))) pa_nil)))) pss_nil)
    (pss_one (ps_ret (pv 3)))))), ?_⟩
  -- again
  refine ⟨_, rfl, t, _, _, _, rfl, rfl, ht, at2, _, rfl, .seq, b, .bin .loop a b, v, _, rfl, hv, hx, by omega, by omega, fun jv H1 e1 hj => ?_⟩
  refine ⟨tup3, fun ag nag => ?_⟩
  have e2 : Same H (upd H1 ag (.tup [.str "choice", .ref (He.ga K "DONE"), jv])) := e1.trans (same_upd nag)
  have hag : RepR K (upd H1 ag (.tup [.str "choice", .ref (He.ga K "DONE"), jv])) (again a b) (.ref ag) := ⟨ag, _, _, rfl, tupS upd_same, M.rep _, hj.same (same_upd nag)⟩
  generalize upd H1 ag (.tup [.str "choice", .ref (He.ga K "DONE"), jv]) = H2 at e2 hag
  have dag := dp_again a b
  simp only [dpR] at dag
  -- found
  refine ⟨_, rfl, t, _, _, _, rfl, rfl, same_tup e2 ht, at1, _, rfl, a, st, u, rfl, hu.same e2, da, by omega, by omega, fun H3 p ys e3 np hp hys => ?_⟩
  have la := after_len a st
  refine ⟨p, rfl, ⟨_, lstS hp⟩, fun D1 nD1 => ?_⟩
  have e23 := e2.trans e3
  refine lc_map (bs := afterStep a st) (RepR K) (RepR K) (stays_R K) (stays_R K) (fun p => joined .seq p (again a b)) rfl (lstS hp) hys nD1 (szM (by omega)) (fun _ => rfl) (fun i y pr Hc hpr hF eH Q1 hQ => ?_) (fun H4 zs e4 hD1 hz => ?_)
  · have dpr := after_dp a st pr (List.mem_of_getElem? hpr)
    refine ⟨_, rfl, _, rfl, .seq, pr, again a b, y, _, rfl, hF, hag.same (e3.trans eH), by omega, by omega, fun jv2 H4 e4 hj2 => hQ jv2 H4 e4 hj2⟩
  have e4' : Same H H4 := e23.trans e4
  -- if can_end(loop[1])
  refine ⟨_, rfl, t, _, _, _, rfl, rfl, same_tup e4' ht, at1, a, _, rfl, hu.same e4', by omega, fun H5 e5 => ⟨_, rfl, ifB (fun hc => ?_) (fun hc => ?_)⟩⟩
  · have e5' := e4'.trans e5
    refine ⟨_, rfl, .inl ⟨rfl, _, lstS (e5 _ _ hD1)⟩, ?_⟩
    refine ⟨_, rfl, t, _, _, _, rfl, rfl, same_tup e5' ht, at2, _, rfl, b, st, v, rfl, hv.same e5', db, by omega, by omega, fun H6 p2 ys2 e6 np2 hp2 hys2 => ?_⟩
    have lb := after_len b st
    have e6' := e5'.trans e6
    refine ⟨p2, rfl, ⟨_, lstS hp2⟩, fun D2 nD2 => ?_⟩
    refine lc_map (bs := afterStep b st) (RepR K) (RepR K) (stays_R K) (stays_R K) (fun p => joined .seq p (.bin .loop a b)) rfl (lstS hp2) hys2 nD2 (szM (by omega)) (fun _ => rfl) (fun i y pr Hc hpr hF eH Q1 hQ => ?_) (fun H7 ws e7 hD2 hw => ?_)
    · have dpr := after_dp b st pr (List.mem_of_getElem? hpr)
      refine ⟨_, rfl, _, rfl, .seq, pr, .bin .loop a b, y, _, rfl, hF, hx.same (e6'.trans eH), by omega, by omega, fun jv2 H8 e8 hj2 => hQ jv2 H8 e8 hj2⟩
    have hz7 : H7 D1 = some (.lst zs) := e7 _ _ (e6 _ _ (e5 _ _ hD1))
    have lz := hz.len
    have lw := hw.len
    rw [List.length_map] at lz lw
    refine ⟨D1, D2, zs, ws, rfl, rfl, hz7, hD2, szM (by omega), ?_⟩
    have np1 : H D1 = none := e23.free nD1
    have t1 := te_lst (o := .lst (zs ++ ws)) hz7
    refine ⟨_, rfl, q _ D1 (zs ++ ws) (same_mut (e6'.trans e7) np1) np1 upd_same ?_⟩
    unfold loopAfter
    rw [if_pos hc]
    exact (Rows.te (stays_R K) ((te_same (e5.trans (e6.trans e7))).trans t1) hz).append (Rows.te (stays_R K) t1 hw)
  · refine ⟨_, rfl, q H5 D1 zs (e4'.trans e5) (e23.free nD1) (e5 _ _ hD1) ?_⟩
    unfold loopAfter
    rw [if_neg (by rw [hc]; exact Bool.false_ne_true), List.append_nil]
    exact Rows.same (stays_R K) e5 hz
end
end Tf

namespace Tf
open PySem PySem.Spec PyProof.Rows L2
section
variable {P : Program} {w : World} {K : PySem.W.Frag} {mg : PySem.Str → Option Value} {base : Heap}
theorem NewR.mono {H H1 : Hp} {rs : List R} {Q : VK} (e : Same H H1) (q : NewR K H rs Q) : NewR K H1 rs Q := fun H' p ys e' np hp hr => q H' p ys (e.trans e') (e.free np) hp hr
/-- a tuple put behind a tuple -/
theorem catA {H : Hp} {a b : Addr} {xs ys : List V} {Q : VK} (ha : SqT K H a xs) (hb : SqT K H b ys) (hz : xs.length + ys.length ≤ sizeLine) (q : ∀ p H', Same H H' → SqT K H' p (xs ++ ys) → Q (.ref p) H') : rCatA K (.ref a) (.ref b) H Q := by
  refine ⟨a, b, xs, ys, rfl, rfl, ha, hb, hz, fun e => ?_, fun _ e => ?_, fun _ _ p np => q p _ (same_upd np) (tupS upd_same)⟩
  · subst e
    exact q b H (Same.refl H) hb
  · subst e
    refine q a H (Same.refl H) ?_
    rw [List.append_nil]
    exact ha
/-- a list put behind a list -/
theorem catL {H : Hp} {a b : Addr} {xs ys : List V} {Q : VK} (ha : H a = some (.lst xs)) (hb : H b = some (.lst ys)) (hz : xs.length + ys.length ≤ sizeLine) (q : ∀ p H', Same H H' → H p = none → H' p = some (.lst (xs ++ ys)) → Q (.ref p) H') : rCat (.ref a) (.ref b) H Q :=
  ⟨a, b, xs, ys, rfl, rfl, ha, hb, hz, fun p np => q p _ (same_upd np) np upd_same⟩
theorem after_step_none (D : Dfn K mg "after_step" s_after_step) : Callee P w K mg base 60 "after_step" ["rest", "step"] (spAfter K 0) :=
  D.none (fun _ _ _ _ _ _ us hl => match us, hl with | [_, _], _ => rfl) fun vs H Q E h => by
    obtain ⟨r, s, x, _, _, hd, _⟩ := h
    omega
theorem after_step_step {d k : Nat} (D : Dfn K mg "after_step" s_after_step) (M : Mo K mg) (hk : 60 ≤ k) (C_after_step : Callee P w K mg base k "after_step" ["rest", "step"] (spAfter K d)) (C_after_step_of_loop : Callee P w K mg base (k + 1) "after_step_of_loop" ["loop", "step"] (spLoopA K d))
    (C_distinct : Callee P w K mg base 1 "distinct" ["rests"] (spDistinct K)) (C_joined : Callee P w K mg base 1 "joined" ["kind", "left", "right"] (spJoined K)) (C_can_end : Callee P w K mg base 60 "can_end" ["rest"] (spCan K 60)) :
    Callee P w K mg base (k + 2) "after_step" ["rest", "step"] (spAfter K (d + 1)) := by
  refine D.ok (fun _ _ _ _ _ _ us hl => match us, hl with | [_, _], _ => rfl) sc_after_step (fun vs H Q E h => ?_) (fun f cdv A outer s H vs Q E hr h => ?_)
  · obtain ⟨r, s, x, rfl, _⟩ := h
    rfl
  obtain ⟨r, st, x, rfl, hx, hd, h50, hlv, q⟩ := h
  refine ⟨_, (pss_cons (ps_set (i := 2) sc_after_step.nd rfl (by first | exact Or.inl rfl | exact Or.inr rfl) (pe_ix ix_tup (pv 0) pe_int (fun _ _ => rfl)))
    (pss_cons (ps_if (pt_cmpR op_eq (pv 2) pe_str (nomark _)) (pss_one (ps_ret (pe_ifExp (pt_cmpR op_eq (pe_ix ix_tup (pv 0) pe_int (fun _ _ => rfl)) (pv 1) (nomark _)) (pe_lst (pa_cons (pe_glob (v := .ref (He.ga K "DONE")) (by rfl) M.done rfl) pa_nil)) (pe_lst pa_nil)))) pss_nil)
    (pss_cons (ps_if (pt_cmpR op_eq (pv 2) pe_str (nomark _)) (pss_one (ps_ret (pe_lst pa_nil))) pss_nil)
    (pss_cons (ps_if (pt_cmpR op_eq (pv 2) pe_str (nomark _)) (pss_one (ps_ret (pe_callC C_distinct (hr.mono (by omega)) (by rfl) (pa_cons (pe_callC C_after_step_of_loop (hr.mono (by omega)) (by rfl) (pa_cons (pv 0) (pa_cons (pv 1) pa_nil))) pa_nil)))) pss_nil)
    (pss_cons (ps_set (i := 3) sc_after_step.nd rfl (by first | exact Or.inl rfl | exact Or.inr rfl) (pe_ix ix_tup (pv 0) pe_int (fun _ _ => rfl)))
    (pss_cons (ps_set (i := 4) sc_after_step.nd rfl (by first | exact Or.inl rfl | exact Or.inr rfl) (pe_ix ix_tup (pv 0) pe_int (fun _ _ => rfl)))
    (pss_cons (ps_if (pt_cmpR op_eq (pv 2) pe_str (nomark _)) (pss_one (ps_ret (pe_callC C_distinct (hr.mono (by omega)) (by rfl) (pa_cons (pe_op op_cat (pe_callC C_after_step (hr.mono (by omega)) (by rfl) (pa_cons (pv 3) (pa_cons (pv 1) pa_nil))) (pe_callC C_after_step (hr.mono (by omega)) (by rfl) (pa_cons (pv 4) (pa_cons (pv 1) pa_nil)))) pa_nil)))) pss_nil)
    (pss_cons (ps_setLc (i := 5) (own := [("part", 6)]) rfl sc_after_step.nd rfl rfl (sw_true rfl rfl rfl (by decide +kernel)) (pi_list (pe_callC C_after_step (hr.mono (by omega)) (by rfl) (pa_cons (pv 3) (pa_cons (pv 1) pa_nil)))) (blkOk_by (own := [("part", 6)]) (N := nm_after_step) (sc := defScope s_after_step) (by decide +kernel)) (fun _ _ _ _ _ => (pg_name (i := 6) sc_after_step.nd rfl (by first | exact Or.inl rfl | exact Or.inr rfl))) (fun _ _ _ _ _ => pts_nil) (fun _ _ _ _ _ => (pe_callC C_joined (hr.mono (by omega)) (by rfl) (pa_cons (pv 2) (pa_cons (pv 6) (pa_cons (pv 4) pa_nil))))))
    (pss_cons (ps_if (pt_cmpR op_eq (pv 2) pe_str (nomark _)) (pss_one (ps_expr (pe_bm PySem.F.plainAttrs_list PySem.F.slot_list_extend PySem.F.type_list_extend mt_extend (pv 5) (pa_cons (pe_lc (own := [("part", 6)]) rfl sc_after_step.nd (pi_list (pe_callC C_after_step (hr.mono (by omega)) (by rfl) (pa_cons (pv 4) (pa_cons (pv 1) pa_nil)))) (blkOk_by (own := [("part", 6)]) (N := nm_after_step) (sc := defScope s_after_step) (by decide +kernel)) (fun _ _ _ _ _ => (pg_name (i := 6) sc_after_step.nd rfl (by first | exact Or.inl rfl | exact Or.inr rfl))) (fun _ _ _ _ _ => pts_nil) (fun _ _ _ _ _ => (pe_callC C_joined (hr.mono (by omega)) (by rfl) (pa_cons (pv 2) (pa_cons (pv 3) (pa_cons (pv 6) pa_nil)))))) pa_nil)))) (pss_one (ps_if (pt_val (pe_callC C_can_end (hr.mono (by omega)) (by rfl) (pa_cons (pv 3) pa_nil))) (pss_one (ps_expr (pe_bm PySem.F.plainAttrs_list PySem.F.slot_list_extend PySem.F.type_list_extend mt_extend (pv 5) (pa_cons (pe_callC C_after_step (hr.mono (by omega)) (by rfl) (pa_cons (pv 4) (pa_cons (pv 1) pa_nil))) pa_nil)))) pss_nil)))
    (pss_one (ps_ret (pe_callC C_distinct (hr.mono (by omega)) (by rfl) (pa_cons (pv 5) pa_nil))))))))))))), ?_⟩
  cases r with
  | step n =>
    obtain ⟨a, rfl, ha⟩ := hx
    refine ⟨_, rfl, a, _, _, _, rfl, rfl, ha, at0, ?_⟩
    refine ⟨_, rfl, rfl, _, rfl, ifT (by decide +kernel) ?_⟩
    refine ⟨_, rfl, a, _, _, _, rfl, rfl, ha, at1, _, rfl, rfl, _, rfl, ?_⟩
    by_cases hn : n = st
    · refine ifT (by rw [hn]) ⟨szM (by simp only [List.length_cons, List.length_nil]; omega), fun p np => q _ p _ (same_upd np) np upd_same ?_⟩
      simp only [afterStep, if_pos hn]
      exact .one (M.rep _)
    · refine ifF (by intro z; cases z; exact hn rfl) ⟨szM (by decide), fun p np => q _ p _ (same_upd np) np upd_same ?_⟩
      simp only [afterStep, if_neg hn]
      exact .nil
  | done =>
    obtain ⟨a, rfl, ha⟩ := hx
    refine ⟨_, rfl, a, _, _, _, rfl, rfl, ha, at0, ?_⟩
    refine ⟨_, rfl, rfl, _, rfl, ifF (by decide +kernel) ⟨_, rfl, rfl, _, rfl, ifT (by decide +kernel) ?_⟩⟩
    exact ⟨szM (by decide), fun p np => q _ p _ (same_upd np) np upd_same .nil⟩
  | bin k l r =>
    obtain ⟨a, u, v, rfl, ha, hu, hv⟩ := id hx
    have hd' := hd
    have h50' := h50
    have hlv' := hlv
    simp only [dpR] at hd' h50'
    simp only [lvR] at hlv'
    have hall : ∀ z ∈ afterStep (.bin k l r) st, dpR z ≤ 60 := fun z hz => by
      have := after_dp _ _ _ hz
      omega
    have la := after_len l st
    have lb := after_len r st
    refine ⟨_, rfl, a, _, _, _, rfl, rfl, ha, at0, ?_⟩
    cases k with
    | loop =>
      refine ⟨_, rfl, rfl, _, rfl, ifF (by decide +kernel) ⟨_, rfl, rfl, _, rfl, ifF (by decide +kernel) ⟨_, rfl, rfl, _, rfl, ifT (by decide +kernel) ?_⟩⟩⟩
      refine ⟨_, rfl, _, rfl, l, r, st, _, rfl, hx, by omega, by omega, h50, hlv, fun H1 p ys e1 np hp hys => ?_⟩
      have e : afterStep (.bin .loop l r) st = ded (loopAfter l r st) := by simp only [afterStep, loopAfter]
      rw [e] at q hall
      refine ⟨p, ys, loopAfter l r st, rfl, lstS hp, hys, ?_, fun z hz => hall z (mem_ded.mpr hz), q.mono e1⟩
      have h3 := @len_if R (canEnd l) ((afterStep r st).map fun p => joined .seq p (.bin .loop l r))
      unfold loopAfter
      rw [List.length_append, List.length_map]
      rw [List.length_map] at h3
      exact szM (by omega)
    | cho =>
      refine ⟨_, rfl, rfl, _, rfl, ifF (by decide +kernel) ⟨_, rfl, rfl, _, rfl, ifF (by decide +kernel) ⟨_, rfl, rfl, _, rfl, ifF (by decide +kernel) ?_⟩⟩⟩
      refine ⟨_, rfl, a, _, _, _, rfl, rfl, ha, at1, _, rfl, a, _, _, _, rfl, rfl, ha, at2, ?_⟩
      refine ⟨_, rfl, rfl, _, rfl, ifT (by decide +kernel) ?_⟩
      refine ⟨_, rfl, _, rfl, l, st, u, rfl, hu, by omega, by omega, by omega, fun H1 p ys e1 np hp hys => ?_⟩
      refine ⟨_, rfl, _, rfl, r, st, v, rfl, hv.same e1, by omega, by omega, by omega, fun H2 p2 ys2 e2 np2 hp2 hys2 => ?_⟩
      have l1 := hys.len
      have l2 := hys2.len
      refine catL (e2 _ _ hp) hp2 (szM (by omega)) fun p3 H3 e3 np3 hp3 => ?_
      have e : afterStep (.bin .cho l r) st = ded (afterStep l st ++ afterStep r st) := by simp only [afterStep]
      rw [e] at q hall
      refine ⟨p3, _, afterStep l st ++ afterStep r st, rfl, lstS hp3, (Rows.same (stays_R K) (e2.trans e3) hys).append (Rows.same (stays_R K) e3 hys2), ?_, fun z hz => hall z (mem_ded.mpr hz), q.mono ((e1.trans e2).trans e3)⟩
      rw [List.length_append]
      exact szM (by omega)
    | par =>
      refine ⟨_, rfl, rfl, _, rfl, ifF (by decide +kernel) ⟨_, rfl, rfl, _, rfl, ifF (by decide +kernel) ⟨_, rfl, rfl, _, rfl, ifF (by decide +kernel) ?_⟩⟩⟩
      refine ⟨_, rfl, a, _, _, _, rfl, rfl, ha, at1, _, rfl, a, _, _, _, rfl, rfl, ha, at2, ?_⟩
      refine ⟨_, rfl, rfl, _, rfl, ifF (by decide +kernel) ?_⟩
      refine ⟨_, rfl, _, rfl, l, st, u, rfl, hu, by omega, by omega, by omega, fun H1 p ys e1 np hp hys => ?_⟩
      refine ⟨p, rfl, ⟨_, lstS hp⟩, fun D1 nD1 => ?_⟩
      refine lc_map (bs := afterStep l st) (RepR K) (RepR K) (stays_R K) (stays_R K) (fun z => joined .par z r) rfl (lstS hp) hys nD1 (szM (by omega)) (fun _ => rfl) (fun i y pr Hc hpr hF eH Q1 hQ => ?_) (fun H4 zs e4 hD1 hz => ?_)
      · have dpr := after_dp l st pr (List.mem_of_getElem? hpr)
        exact ⟨_, rfl, _, rfl, _, rfl, .par, pr, r, y, v, rfl, hF, hv.same (e1.trans eH), by omega, by omega, fun jv H4 e4 hj => hQ jv H4 e4 hj⟩
      have e4' := e1.trans e4
      refine ⟨_, rfl, rfl, _, rfl, ifT (by decide +kernel) ?_⟩
      refine ⟨_, rfl, .inl ⟨rfl, _, lstS hD1⟩, ?_⟩
      refine ⟨_, rfl, _, rfl, r, st, v, rfl, hv.same e4', by omega, by omega, by omega, fun H6 p2 ys2 e6 np2 hp2 hys2 => ?_⟩
      refine ⟨p2, rfl, ⟨_, lstS hp2⟩, fun D2 nD2 => ?_⟩
      refine lc_map (bs := afterStep r st) (RepR K) (RepR K) (stays_R K) (stays_R K) (fun z => joined .par l z) rfl (lstS hp2) hys2 nD2 (szM (by omega)) (fun _ => rfl) (fun i y pr Hc hpr hF eH Q1 hQ => ?_) (fun H7 ws e7 hD2 hw => ?_)
      · have dpr := after_dp r st pr (List.mem_of_getElem? hpr)
        exact ⟨_, rfl, _, rfl, _, rfl, .par, l, pr, u, y, rfl, hu.same ((e4'.trans e6).trans eH), hF, by omega, by omega, fun jv H4 e4 hj => hQ jv H4 e4 hj⟩
      have hz7 : H7 D1 = some (.lst zs) := e7 _ _ (e6 _ _ hD1)
      have lz := hz.len
      have lw := hw.len
      rw [List.length_map] at lz lw
      refine ⟨D1, D2, zs, ws, rfl, rfl, hz7, hD2, szM (by omega), ?_⟩
      have np1 : H D1 = none := e1.free nD1
      have t1 := te_lst (o := .lst (zs ++ ws)) hz7
      have e : afterStep (.bin .par l r) st = ded ((afterStep l st).map (fun z => joined .par z r) ++ (afterStep r st).map (fun z => joined .par l z)) := by simp only [afterStep]
      rw [e] at q hall
      refine ⟨_, rfl, D1, _, _, rfl, lstS upd_same, (Rows.te (stays_R K) ((te_same (e6.trans e7)).trans t1) hz).append (Rows.te (stays_R K) t1 hw), ?_, fun z hz => hall z (mem_ded.mpr hz), q.mono (same_mut ((e4'.trans e6).trans e7) np1)⟩
      rw [List.length_append, List.length_map, List.length_map]
      exact szM (by omega)
    | seq =>
      refine ⟨_, rfl, rfl, _, rfl, ifF (by decide +kernel) ⟨_, rfl, rfl, _, rfl, ifF (by decide +kernel) ⟨_, rfl, rfl, _, rfl, ifF (by decide +kernel) ?_⟩⟩⟩
      refine ⟨_, rfl, a, _, _, _, rfl, rfl, ha, at1, _, rfl, a, _, _, _, rfl, rfl, ha, at2, ?_⟩
      refine ⟨_, rfl, rfl, _, rfl, ifF (by decide +kernel) ?_⟩
      refine ⟨_, rfl, _, rfl, l, st, u, rfl, hu, by omega, by omega, by omega, fun H1 p ys e1 np hp hys => ?_⟩
      refine ⟨p, rfl, ⟨_, lstS hp⟩, fun D1 nD1 => ?_⟩
      refine lc_map (bs := afterStep l st) (RepR K) (RepR K) (stays_R K) (stays_R K) (fun z => joined .seq z r) rfl (lstS hp) hys nD1 (szM (by omega)) (fun _ => rfl) (fun i y pr Hc hpr hF eH Q1 hQ => ?_) (fun H4 zs e4 hD1 hz => ?_)
      · have dpr := after_dp l st pr (List.mem_of_getElem? hpr)
        exact ⟨_, rfl, _, rfl, _, rfl, .seq, pr, r, y, v, rfl, hF, hv.same (e1.trans eH), by omega, by omega, fun jv H4 e4 hj => hQ jv H4 e4 hj⟩
      have e4' := e1.trans e4
      have lz := hz.len
      rw [List.length_map] at lz
      have np1 : H D1 = none := e1.free nD1
      refine ⟨_, rfl, rfl, _, rfl, ifF (by decide +kernel) ?_⟩
      refine ⟨_, rfl, l, u, rfl, hu.same e4', by omega, fun H5 e5 => ⟨_, rfl, ifB (fun hc => ?_) (fun hc => ?_)⟩⟩
      · have e5' := e4'.trans e5
        have hz5 : H5 D1 = some (.lst zs) := e5 _ _ hD1
        refine ⟨_, rfl, .inl ⟨rfl, _, lstS hz5⟩, ?_⟩
        refine ⟨_, rfl, _, rfl, r, st, v, rfl, hv.same e5', by omega, by omega, by omega, fun H6 p2 ys2 e6 np2 hp2 hys2 => ?_⟩
        have hz6 : H6 D1 = some (.lst zs) := e6 _ _ hz5
        have lw := hys2.len
        refine ⟨D1, p2, zs, ys2, rfl, rfl, hz6, hp2, szM (by omega), ?_⟩
        have t1 := te_lst (o := .lst (zs ++ ys2)) hz6
        have e : afterStep (.bin .seq l r) st = ded ((afterStep l st).map (fun z => joined .seq z r) ++ afterStep r st) := by simp only [afterStep, hc, if_true]
        rw [e] at q hall
        refine ⟨_, rfl, D1, _, _, rfl, lstS upd_same, (Rows.te (stays_R K) ((te_same (e5.trans e6)).trans t1) hz).append (Rows.te (stays_R K) t1 hys2), ?_, fun z hz => hall z (mem_ded.mpr hz), q.mono (same_mut (e5'.trans e6) np1)⟩
        rw [List.length_append, List.length_map]
        exact szM (by omega)
      · have e : afterStep (.bin .seq l r) st = ded ((afterStep l st).map (fun z => joined .seq z r)) := by simp only [afterStep, hc, Bool.false_eq_true, if_false, List.append_nil]
        rw [e] at q hall
        refine ⟨_, rfl, D1, zs, _, rfl, lstS (e5 _ _ hD1), Rows.same (stays_R K) e5 hz, ?_, fun z hz => hall z (mem_ded.mpr hz), q.mono (e4'.trans e5)⟩
        rw [List.length_map]
        exact szM (by omega)
theorem ok_after_step (D1 : Dfn K mg "after_step" s_after_step) (D2 : Dfn K mg "after_step_of_loop" s_after_step_of_loop) (M : Mo K mg)
    (C_distinct : Callee P w K mg base 1 "distinct" ["rests"] (spDistinct K)) (C_joined : Callee P w K mg base 1 "joined" ["kind", "left", "right"] (spJoined K)) (C_can_end : Callee P w K mg base 60 "can_end" ["rest"] (spCan K 60)) :
    ∀ d : Nat, Callee P w K mg base (60 + 2 * d) "after_step" ["rest", "step"] (spAfter K d)
  | 0 => after_step_none D1
  | d + 1 => after_step_step D1 M (Nat.le_add_right _ _) (ok_after_step D1 D2 M C_distinct C_joined C_can_end d) (ok_after_loop D2 M (Nat.le_add_right _ _) (ok_after_step D1 D2 M C_distinct C_joined C_can_end d) C_joined C_can_end) C_distinct C_joined C_can_end
end
end Tf

namespace Tf
open PySem PySem.Spec PyProof.Rows L2
theorem after_lv : ∀ (r : R) (s : Int) (x : R), x ∈ afterStep r s → lvR x ≤ lvR r * (1 + 2 * dpR r)
  | .step n, s, x, h => by
    simp only [afterStep] at h
    split at h
    · rw [List.mem_singleton.mp h]
      exact Nat.zero_le _
    · simp at h
  | .done, s, x, h => by simp [afterStep] at h
  | .bin k a b, s, x, h => by
    have ha : ∀ y ∈ afterStep a s, lvR y ≤ lvR a * (1 + 2 * max (dpR a) (dpR b)) := fun y hy => Nat.le_trans (after_lv a s y hy) (Nat.mul_le_mul_left _ (by omega))
    have hb : ∀ y ∈ afterStep b s, lvR y ≤ lvR b * (1 + 2 * max (dpR a) (dpR b)) := fun y hy => Nat.le_trans (after_lv b s y hy) (Nat.mul_le_mul_left _ (by omega))
    have hm : lvR (.bin k a b) * (1 + 2 * dpR (.bin k a b)) = lvR a * (1 + 2 * max (dpR a) (dpR b)) + lvR b * (1 + 2 * max (dpR a) (dpR b)) + 2 * lvR a + 2 * lvR b := by
      simp only [lvR, dpR]
      generalize max (dpR a) (dpR b) = d
      rw [show 1 + 2 * (d + 1) = (1 + 2 * d) + 2 by omega, Nat.mul_add, Nat.add_mul]
      omega
    have la : lvR a ≤ lvR a * (1 + 2 * max (dpR a) (dpR b)) := Nat.le_mul_of_pos_right _ (by omega)
    have lb : lvR b ≤ lvR b * (1 + 2 * max (dpR a) (dpR b)) := Nat.le_mul_of_pos_right _ (by omega)
    rw [hm]
    generalize lvR a * (1 + 2 * max (dpR a) (dpR b)) = X at ha la
    generalize lvR b * (1 + 2 * max (dpR a) (dpR b)) = Y at hb lb
    cases k with
    | loop =>
      simp only [afterStep] at h
      rcases List.mem_append.mp (mem_ded.mp h) with h | h
      · obtain ⟨p, hp, rfl⟩ := List.mem_map.mp h
        have h1 := ha p hp
        have h2 := lv_joined .seq p (again a b)
        have h3 := lv_joined .seq b (.bin .loop a b)
        simp only [again, lvR] at h2 h3
        simp only [again]
        omega
      · split at h
        · obtain ⟨p, hp, rfl⟩ := List.mem_map.mp h
          have h1 := hb p hp
          have h2 := lv_joined .seq p (.bin .loop a b)
          simp only [lvR] at h2
          omega
        · simp at h
    | cho =>
      simp only [afterStep] at h
      rcases List.mem_append.mp (mem_ded.mp h) with h | h
      · have := ha _ h
        omega
      · have := hb _ h
        omega
    | par =>
      simp only [afterStep] at h
      rcases List.mem_append.mp (mem_ded.mp h) with h | h
      · obtain ⟨p, hp, rfl⟩ := List.mem_map.mp h
        have h1 := ha p hp
        have h2 := lv_joined .par p b
        omega
      · obtain ⟨p, hp, rfl⟩ := List.mem_map.mp h
        have h1 := hb p hp
        have h2 := lv_joined .par a p
        omega
    | seq =>
      simp only [afterStep] at h
      rcases List.mem_append.mp (mem_ded.mp h) with h | h
      · obtain ⟨p, hp, rfl⟩ := List.mem_map.mp h
        have h1 := ha p hp
        have h2 := lv_joined .seq p b
        omega
      · split at h
        · have := hb _ h
          omega
        · simp at h
/-- few rests, none deep -/
structure Small (rs : List R) : Prop where
  len : rs.length ≤ 100000
  dp : ∀ r ∈ rs, dpR r ≤ 50
  sum : (rs.map lvR).sum ≤ 4000
  few : ∃ L : List Int, L.length < 64 ∧ ∀ r ∈ rs, ∀ s ∈ firstSteps r, s ∈ L
theorem mem_sum {α : Type} (f : α → Nat) : ∀ {l : List α} {x : α}, x ∈ l → f x ≤ (l.map f).sum
  | y :: l, x, h => by
    rw [List.map_cons, List.sum_cons]
    rcases List.mem_cons.mp h with rfl | h
    · omega
    · have := mem_sum f h
      omega
theorem flat_len {α β : Type} (g : α → List β) (f : α → Nat) : ∀ (l : List α), (∀ x ∈ l, (g x).length ≤ f x) → (l.flatMap g).length ≤ (l.map f).sum
  | [], _ => Nat.zero_le _
  | y :: l, h => by
    rw [List.flatMap_cons, List.length_append, List.map_cons, List.sum_cons]
    have h1 := h y List.mem_cons_self
    have h2 := flat_len g f l fun x hx => h x (List.mem_cons_of_mem _ hx)
    omega
theorem sum_take {α : Type} (f : α → Nat) (i : Nat) (l : List α) : ((l.take i).map f).sum ≤ (l.map f).sum := by
  have : (l.map f).sum = ((l.take i).map f).sum + ((l.drop i).map f).sum := by rw [← List.sum_append, ← List.map_append, List.take_append_drop]
  omega
theorem flat_take {α β : Type} (g : α → List β) {i : Nat} {l : List α} {x : α} (h : l[i]? = some x) : (l.take (i + 1)).flatMap g = (l.take i).flatMap g ++ g x := by
  rw [take_succ h, List.flatMap_append, List.flatMap_cons, List.flatMap_nil, List.append_nil]
theorem Small.lv {rs : List R} (h : Small rs) {r : R} (hr : r ∈ rs) : lvR r ≤ 4000 := Nat.le_trans (mem_sum lvR hr) h.sum
theorem mem_afterMore {rs : List R} {s : Int} {x : R} : x ∈ afterMore rs s ↔ ∃ r ∈ rs, x ∈ afterStep r s := by
  unfold afterMore
  rw [mem_ded, List.mem_flatMap]
/-- all but p stays -/
def Ex (p : Addr) (H H' : Hp) : Prop := ∀ b x, b ≠ p → H b = some x → H' b = some x
theorem Ex.refl {p : Addr} (H : Hp) : Ex p H H := fun _ _ _ h => h
theorem Ex.trans {p : Addr} {H H1 H2 : Hp} (a : Ex p H H1) (b : Ex p H1 H2) : Ex p H H2 := fun x y hx h => b x y hx (a x y hx h)
theorem Ex.of {p : Addr} {H H' : Hp} (e : Same H H') : Ex p H H' := fun b x _ h => e b x h
theorem Ex.upd {p : Addr} {H : Hp} {o : HO} : Ex p H (upd H p o) := fun b x hb h => by
  rw [upd_ne hb]
  exact h
theorem Ex.tk {p : Addr} {H H' : Hp} {xs : List V} (e : Ex p H H') (hp : H p = some (.lst xs)) : Tk H H' := by
  constructor
  · intro a ys h
    refine e a _ (fun z => ?_) h
    rw [z, hp] at h
    cases h
  · intro a o u h
    refine e a _ (fun z => ?_) h
    rw [z, hp] at h
    cases h
section
variable {P : Program} {w : World} {K : PySem.W.Frag} {mg : PySem.Str → Option Value} {base : Heap}
/-- a new list of numbers is handed back -/
def NewI (H : Hp) (ns : List Int) (Q : VK) : Prop := ∀ H' p, Same H H' → H p = none → H' p = some (.lst (ns.map V.int)) → Q (.ref p) H'
theorem NewI.mono {H H1 : Hp} {ns : List Int} {Q : VK} (e : Same H H1) (q : NewI H ns Q) : NewI H1 ns Q := fun H' p e' np hp => q H' p (e.trans e') (e.free np) hp
/-! ### after_one_more -/
abbrev s_after_one_more : Stmt := top 23
abbrev nm_after_one_more : List PySem.Str := ["rests", "step", "found", "rest"]
theorem sc_after_one_more : FnScope nm_after_one_more ["rests", "step"] (defScope s_after_one_more) := ⟨rfl, rfl, rfl, by decide +kernel, rfl, by decide +kernel, by decide +kernel⟩
def spMore (K : PySem.W.Frag) : Sp := fun vs H Q _ => ∃ (a : Addr) (xs : List V) (rs : List R) (s : Int), vs = [.ref a, .int s] ∧ SqL K H a xs ∧ Rows (RepR K H) xs rs ∧ Small rs ∧ NewR K H (afterMore rs s) Q
theorem ok_more {k : Nat} (D : Dfn K mg "after_one_more" s_after_one_more) (hk : 1 ≤ k) (C_after_step : Callee P w K mg base k "after_step" ["rest", "step"] (spAfter K 51)) (C_distinct : Callee P w K mg base 1 "distinct" ["rests"] (spDistinct K)) :
    Callee P w K mg base (k + 1) "after_one_more" ["rests", "step"] (spMore K) := by
  refine D.ok (fun _ _ _ _ _ _ us hl => match us, hl with | [_, _], _ => rfl) sc_after_one_more (fun vs H Q E h => ?_) (fun f cdv A outer s H vs Q E hr h => ?_)
  · obtain ⟨a, xs, rs, s, rfl, _⟩ := h
    rfl
  obtain ⟨a, xs, rs, st, rfl, hS, hb, hz, q⟩ := h
  refine ⟨_, (pss_cons (ps_set (i := 2) sc_after_one_more.nd rfl (by first | exact Or.inl rfl | exact Or.inr rfl) (pe_lst pa_nil))
    (pss_cons (ps_for PassesOwn.never rfl (pi_list (pv 0)) (pg_name (i := 3) sc_after_one_more.nd rfl (by first | exact Or.inl rfl | exact Or.inr rfl)) (pss_one (ps_expr (pe_bm PySem.F.plainAttrs_list PySem.F.slot_list_extend PySem.F.type_list_extend mt_extend (pv 2) (pa_cons (pe_callC C_after_step (hr.mono (by omega)) (by rfl) (pa_cons (pv 3) (pa_cons (pv 1) pa_nil))) pa_nil)))))
    (pss_one (ps_ret (pe_callC C_distinct (hr.mono (by omega)) (by rfl) (pa_cons (pv 2) pa_nil)))))), ?_⟩
  refine ⟨Nat.zero_le _, fun p np => ?_⟩
  have hlen := hb.len
  have hle : ∀ i : Nat, ((rs.take i).flatMap fun r => afterStep r st).length ≤ 4000 := fun i =>
    Nat.le_trans (flat_len _ lvR _ fun r _ => after_len r st) (Nat.le_trans (sum_take lvR i rs) hz.sum)
  refine ⟨_, rfl, a, rfl, ⟨_, (same_upd np).seq hS⟩, for_list (xs := xs) (fun i σ H1 => ∃ y ys, σ = [some (.ref a), some (.int st), some (.ref p), y] ∧ Same H H1 ∧ H1 p = some (.lst ys) ∧ Rows (RepR K H1) ys ((rs.take i).flatMap fun r => afterStep r st))
    ⟨_, [], rfl, same_upd np, upd_same, .nil⟩ (fun i σ H1 _ ⟨_, _, _, e, _⟩ => e.seq hS) (fun i x σ H1 hx ⟨y, ys, es, e, hp, hr⟩ => ?_) (fun σ H1 ⟨y, ys, es, e, hp, hr⟩ => ?_)⟩
  · subst es
    obtain ⟨r, hri, hF⟩ := hb.get hx
    have hm := List.mem_of_getElem? hri
    refine ⟨_, rfl, .inl ⟨rfl, _, lstS hp⟩, ?_⟩
    refine ⟨_, rfl, _, rfl, r, st, x, rfl, RepR.same hF e, by have := hz.dp r hm; omega, hz.dp r hm, by have := hz.lv hm; omega, fun H2 p2 ys2 e2 np2 hp2 hys2 => ?_⟩
    have h1 := hr.len
    have h2 := hle i
    have h3 := hys2.len
    have h4 := after_len r st
    have h5 := hz.lv hm
    have hp2' := e2 _ _ hp
    have t1 := te_lst (o := .lst (ys ++ ys2)) hp2'
    refine ⟨p, p2, ys, ys2, rfl, rfl, hp2', hp2, sz (by omega), _, ys ++ ys2, rfl, same_mut (e.trans e2) np, upd_same, ?_⟩
    rw [flat_take _ hri]
    exact (Rows.te (stays_R K) ((te_same e2).trans t1) hr).append (Rows.te (stays_R K) t1 hys2)
  · subst es
    rw [hlen, List.take_length] at hr
    have h2 := hle rs.length
    rw [List.take_length] at h2
    refine ⟨_, rfl, p, ys, _, rfl, lstS hp, hr, sz (by omega), fun z hz' => ?_, q.mono e⟩
    obtain ⟨r, hm, hr'⟩ := List.mem_flatMap.mp hz'
    have := after_dp _ _ _ hr'
    have := hz.dp r hm
    omega
/-! ### first_steps -/
abbrev s_first_steps : Stmt := top 24
abbrev nm_first_steps : List PySem.Str := ["rest", "kind", "found"]
theorem sc_first_steps : FnScope nm_first_steps ["rest"] (defScope s_first_steps) := ⟨rfl, rfl, rfl, by decide +kernel, rfl, by decide +kernel, by decide +kernel⟩
def spFirst (K : PySem.W.Frag) (d : Nat) : Sp := fun vs H Q _ => ∃ (r : R) (x : V), vs = [x] ∧ RepR K H r x ∧ dpR r < d ∧ dpR r ≤ 50 ∧ lvR r ≤ 1000000 ∧ NewI H (firstSteps r) Q
theorem first_none (D : Dfn K mg "first_steps" s_first_steps) : Callee P w K mg base 60 "first_steps" ["rest"] (spFirst K 0) :=
  D.none (fun _ _ _ _ _ _ us hl => match us, hl with | [_], _ => rfl) fun vs H Q E h => by
    obtain ⟨r, x, _, _, hd, _⟩ := h
    omega
theorem first_step {d : Nat} (D : Dfn K mg "first_steps" s_first_steps) (C_first_steps : Callee P w K mg base (60 + d) "first_steps" ["rest"] (spFirst K d)) (C_can_end : Callee P w K mg base 60 "can_end" ["rest"] (spCan K 60)) :
    Callee P w K mg base (60 + d + 1) "first_steps" ["rest"] (spFirst K (d + 1)) := by
  refine D.ok (fun _ _ _ _ _ _ us hl => match us, hl with | [_], _ => rfl) sc_first_steps (fun vs H Q E h => ?_) (fun f cdv A outer s H vs Q E hr h => ?_)
  · obtain ⟨r, x, rfl, _⟩ := h
    rfl
  obtain ⟨r, x, rfl, hx, hd, h50, hlv, q⟩ := h
  refine ⟨_, (pss_cons (ps_set (i := 1) sc_first_steps.nd rfl (by first | exact Or.inl rfl | exact Or.inr rfl) (pe_ix ix_tup (pv 0) pe_int (fun _ _ => rfl)))
    (pss_cons (ps_if (pt_cmpR op_eq (pv 1) pe_str (nomark _)) (pss_one (ps_ret (pe_lst (pa_cons (pe_ix ix_tup (pv 0) pe_int (fun _ _ => rfl)) pa_nil)))) pss_nil)
    (pss_cons (ps_if (pt_cmpR op_eq (pv 1) pe_str (nomark _)) (pss_one (ps_ret (pe_lst pa_nil))) pss_nil)
    (pss_cons (ps_set (i := 2) sc_first_steps.nd rfl (by first | exact Or.inl rfl | exact Or.inr rfl) (pe_callC C_first_steps (hr.mono (by omega)) (by rfl) (pa_cons (pe_ix ix_tup (pv 0) pe_int (fun _ _ => rfl)) pa_nil)))
    (pss_cons (ps_if (PW.pt (pw_or (pt_cmpR op_eq (pv 1) pe_str (nomark _)) (pw_or (pt_cmpR op_eq (pv 1) pe_str (nomark _)) (pw_or1 (pt_val (pe_callC C_can_end (hr.mono (by omega)) (by rfl) (pa_cons (pe_ix ix_tup (pv 0) pe_int (fun _ _ => rfl)) pa_nil))))))) (pss_one (ps_set (i := 2) sc_first_steps.nd rfl (by first | exact Or.inl rfl | exact Or.inr rfl) (pe_op op_cat (pv 2) (pe_callC C_first_steps (hr.mono (by omega)) (by rfl) (pa_cons (pe_ix ix_tup (pv 0) pe_int (fun _ _ => rfl)) pa_nil))))) pss_nil)
    (pss_one (ps_ret (pv 2)))))))), ?_⟩
  cases r with
  | step n =>
    obtain ⟨a, rfl, ha⟩ := hx
    refine ⟨_, rfl, a, _, _, _, rfl, rfl, ha, at0, ?_⟩
    refine ⟨_, rfl, rfl, _, rfl, ifT (by decide +kernel) ?_⟩
    exact ⟨_, rfl, a, _, _, _, rfl, rfl, ha, at1, sz (by simp only [List.length_cons, List.length_nil]; omega), fun p np => q _ p (same_upd np) np upd_same⟩
  | done =>
    obtain ⟨a, rfl, ha⟩ := hx
    refine ⟨_, rfl, a, _, _, _, rfl, rfl, ha, at0, ?_⟩
    refine ⟨_, rfl, rfl, _, rfl, ifF (by decide +kernel) ⟨_, rfl, rfl, _, rfl, ifT (by decide +kernel) ?_⟩⟩
    exact ⟨Nat.zero_le _, fun p np => q _ p (same_upd np) np upd_same⟩
  | bin k l r =>
    obtain ⟨a, u, v, rfl, ha, hu, hv⟩ := id hx
    simp only [dpR] at hd h50
    simp only [lvR] at hlv
    have la := first_len l
    have lb := first_len r
    refine ⟨_, rfl, a, _, _, _, rfl, rfl, ha, at0, ?_⟩
    refine ⟨_, rfl, rfl, _, rfl, ifF (by cases k <;> decide +kernel) ⟨_, rfl, rfl, _, rfl, ifF (by cases k <;> decide +kernel) ?_⟩⟩
    refine ⟨_, rfl, a, _, _, _, rfl, rfl, ha, at1, l, u, rfl, hu, by omega, by omega, by omega, fun H1 p e1 np hp => ?_⟩
    cases k with
    | cho =>
      refine ⟨_, rfl, rfl, _, rfl, ifT (by decide +kernel) (iteT ?_)⟩
      refine ⟨_, rfl, _, rfl, a, _, _, _, rfl, rfl, same_tup e1 ha, at2, r, v, rfl, hv.same e1, by omega, by omega, by omega, fun H2 p2 e2 np2 hp2 => ?_⟩
      refine catL (e2 _ _ hp) hp2 (by rw [List.length_map, List.length_map]; exact szM (by omega)) fun p3 H3 e3 np3 hp3 => ?_
      refine ⟨_, rfl, q H3 p3 ((e1.trans e2).trans e3) ((e1.trans e2).free np3) ?_⟩
      simp only [firstSteps]
      rw [List.map_append]
      exact hp3
    | par =>
      refine ⟨_, rfl, rfl, _, rfl, ifF (by decide +kernel) ⟨_, rfl, rfl, _, rfl, ifT (by decide +kernel) (iteT ?_)⟩⟩
      refine ⟨_, rfl, _, rfl, a, _, _, _, rfl, rfl, same_tup e1 ha, at2, r, v, rfl, hv.same e1, by omega, by omega, by omega, fun H2 p2 e2 np2 hp2 => ?_⟩
      refine catL (e2 _ _ hp) hp2 (by rw [List.length_map, List.length_map]; exact szM (by omega)) fun p3 H3 e3 np3 hp3 => ?_
      refine ⟨_, rfl, q H3 p3 ((e1.trans e2).trans e3) ((e1.trans e2).free np3) ?_⟩
      simp only [firstSteps]
      rw [List.map_append]
      exact hp3
    | seq =>
      refine ⟨_, rfl, rfl, _, rfl, ifF (by decide +kernel) ⟨_, rfl, rfl, _, rfl, ifF (by decide +kernel) ?_⟩⟩
      refine ⟨_, rfl, a, _, _, _, rfl, rfl, same_tup e1 ha, at1, l, u, rfl, hu.same e1, by omega, fun H4 e4 => ⟨_, rfl, ifB (fun hc => ?_) (fun hc => ?_)⟩⟩
      · have e4' := e1.trans e4
        refine ⟨_, rfl, _, rfl, a, _, _, _, rfl, rfl, same_tup e4' ha, at2, r, v, rfl, hv.same e4', by omega, by omega, by omega, fun H2 p2 e2 np2 hp2 => ?_⟩
        refine catL (e2 _ _ (e4 _ _ hp)) hp2 (by rw [List.length_map, List.length_map]; exact szM (by omega)) fun p3 H3 e3 np3 hp3 => ?_
        refine ⟨_, rfl, q H3 p3 ((e4'.trans e2).trans e3) ((e4'.trans e2).free np3) ?_⟩
        simp only [firstSteps, hc, if_true]
        rw [List.map_append]
        exact hp3
      · refine ⟨_, rfl, q H4 p (e1.trans e4) np ?_⟩
        simp only [firstSteps, hc, Bool.false_eq_true, if_false, List.append_nil]
        exact e4 _ _ hp
    | loop =>
      refine ⟨_, rfl, rfl, _, rfl, ifF (by decide +kernel) ⟨_, rfl, rfl, _, rfl, ifF (by decide +kernel) ?_⟩⟩
      refine ⟨_, rfl, a, _, _, _, rfl, rfl, same_tup e1 ha, at1, l, u, rfl, hu.same e1, by omega, fun H4 e4 => ⟨_, rfl, ifB (fun hc => ?_) (fun hc => ?_)⟩⟩
      · have e4' := e1.trans e4
        refine ⟨_, rfl, _, rfl, a, _, _, _, rfl, rfl, same_tup e4' ha, at2, r, v, rfl, hv.same e4', by omega, by omega, by omega, fun H2 p2 e2 np2 hp2 => ?_⟩
        refine catL (e2 _ _ (e4 _ _ hp)) hp2 (by rw [List.length_map, List.length_map]; exact szM (by omega)) fun p3 H3 e3 np3 hp3 => ?_
        refine ⟨_, rfl, q H3 p3 ((e4'.trans e2).trans e3) ((e4'.trans e2).free np3) ?_⟩
        simp only [firstSteps, hc, if_true]
        rw [List.map_append]
        exact hp3
      · refine ⟨_, rfl, q H4 p (e1.trans e4) np ?_⟩
        simp only [firstSteps, hc, Bool.false_eq_true, if_false, List.append_nil]
        exact e4 _ _ hp
theorem ok_first (D : Dfn K mg "first_steps" s_first_steps) (C_can_end : Callee P w K mg base 60 "can_end" ["rest"] (spCan K 60)) : ∀ d : Nat, Callee P w K mg base (60 + d) "first_steps" ["rest"] (spFirst K d)
  | 0 => first_none D
  | d + 1 => first_step D (ok_first D C_can_end d) C_can_end
end
end Tf

namespace Tf
open PySem PySem.Spec PyProof.Rows L2
section
variable {P : Program} {w : World} {K : PySem.W.Frag} {mg : PySem.Str → Option Value} {base : Heap}
/-! ### next_steps -/
abbrev s_next_steps : Stmt := top 25
abbrev nm_next_steps : List PySem.Str := ["rests", "found", "rest"]
theorem sc_next_steps : FnScope nm_next_steps ["rests"] (defScope s_next_steps) := ⟨rfl, rfl, rfl, by decide +kernel, rfl, by decide +kernel, by decide +kernel⟩
def spNext (K : PySem.W.Frag) : Sp := fun vs H Q _ => ∃ (a : Addr) (xs : List V) (rs : List R), vs = [.ref a] ∧ SqL K H a xs ∧ Rows (RepR K H) xs rs ∧ Small rs ∧ NewI H (nextSteps rs) Q
theorem first_le {rs : List R} (h : Small rs) (i : Nat) : ((rs.take i).flatMap firstSteps).length ≤ 4000 :=
  Nat.le_trans (flat_len _ lvR _ fun r _ => first_len r) (Nat.le_trans (sum_take lvR i rs) h.sum)
theorem ok_next {k : Nat} (D : Dfn K mg "next_steps" s_next_steps) (M : Mo K mg) (C_first_steps : Callee P w K mg base k "first_steps" ["rest"] (spFirst K 51)) :
    Callee P w K mg base (k + 1) "next_steps" ["rests"] (spNext K) := by
  refine D.ok (fun _ _ _ _ _ _ us hl => match us, hl with | [_], _ => rfl) sc_next_steps (fun vs H Q E h => ?_) (fun f cdv A outer s H vs Q E hr h => ?_)
  · obtain ⟨a, xs, rs, rfl, _⟩ := h
    rfl
  obtain ⟨a, xs, rs, rfl, hS, hb, hz, q⟩ := h
  refine ⟨_, (pss_cons (ps_set (i := 1) sc_next_steps.nd rfl (by first | exact Or.inl rfl | exact Or.inr rfl) (pe_lst pa_nil))
    (pss_cons (ps_for PassesOwn.never rfl (pi_list (pv 0)) (pg_name (i := 2) sc_next_steps.nd rfl (by first | exact Or.inl rfl | exact Or.inr rfl)) (pss_one (ps_expr (pe_bm PySem.F.plainAttrs_list PySem.F.slot_list_extend PySem.F.type_list_extend mt_extend (pv 1) (pa_cons (pe_callC C_first_steps (hr.mono (by omega)) (by rfl) (pa_cons (pv 2) pa_nil)) pa_nil)))))
    (pss_one (ps_ret (pe_callB (cr_sortedSet rfl) (by rfl) M.sorted (by decide +kernel) (pa_cons (pe_callTy (cr_setL rfl) (by rfl) M.set_ (by decide +kernel) (pa_cons (pv 1) pa_nil)) pa_nil)))))), ?_⟩
  refine ⟨Nat.zero_le _, fun p np => ?_⟩
  have hlen := hb.len
  refine ⟨_, rfl, a, rfl, ⟨_, (same_upd np).seq hS⟩, for_list (xs := xs) (fun i σ H1 => ∃ y, σ = [some (.ref a), some (.ref p), y] ∧ Same H H1 ∧ H1 p = some (.lst (((rs.take i).flatMap firstSteps).map V.int)))
    ⟨_, rfl, same_upd np, upd_same⟩ (fun i σ H1 _ ⟨_, _, e, _⟩ => e.seq hS) (fun i x σ H1 hx ⟨y, es, e, hp⟩ => ?_) (fun σ H1 ⟨y, es, e, hp⟩ => ?_)⟩
  · subst es
    obtain ⟨r, hri, hF⟩ := hb.get hx
    have hm := List.mem_of_getElem? hri
    have hdr := hz.dp r hm
    have hlr := hz.lv hm
    refine ⟨_, rfl, .inl ⟨rfl, _, lstS hp⟩, ?_⟩
    refine ⟨_, rfl, r, x, rfl, RepR.same hF e, by omega, hdr, by omega, fun H2 p2 e2 np2 hp2 => ?_⟩
    have h2 := first_le hz i
    have h4 := first_len r
    have hp2' := e2 _ _ hp
    refine ⟨p, p2, _, _, rfl, rfl, hp2', hp2, by rw [List.length_map, List.length_map]; exact sz (by omega), _, rfl, same_mut (e.trans e2) np, ?_⟩
    rw [flat_take _ hri, List.map_append]
    exact upd_same
  · subst es
    rw [hlen, List.take_length] at hp
    have h2 := first_le hz rs.length
    rw [List.take_length] at h2
    obtain ⟨L, hL, hin⟩ := hz.few
    have hb2 : (rs.flatMap firstSteps).length + 1 < scanBound := Nat.lt_of_le_of_lt (Nat.succ_le_succ h2) (by decide +kernel)
    refine ⟨_, rfl, p, rs.flatMap firstSteps, rfl, lstS hp, hb2, fun sa n na hn => ⟨sa, _, n, rfl, upd_same, ?_, fun ns p2 pw mem len np2 => ?_⟩⟩
    · refine Nat.lt_of_le_of_lt (hn L fun k hk => ?_) hL
      obtain ⟨r, hr1, hr2⟩ := List.mem_flatMap.mp hk
      exact hin r hr1 k hr2
    · have en : ns = nextSteps rs := by
        unfold nextSteps
        refine sortD_unique pw fun z => ?_
        rw [mem z]
        exact decide_eq_true_iff
      rw [en]
      have e2 : Same H (upd (upd H1 sa (SetO w sa (fun j => decide (j ∈ rs.flatMap firstSteps)) n)) p2 (.lst ((nextSteps rs).map V.int))) := e.trans ((same_upd na).trans (same_upd np2))
      exact q _ p2 e2 ((e.trans (same_upd na)).free np2) upd_same
/-! ### shortest -/
abbrev s_shortest : Stmt := top 26
abbrev nm_shortest : List PySem.Str := ["rest", "kind", "left", "right"]
theorem sc_shortest : FnScope nm_shortest ["rest"] (defScope s_shortest) := ⟨rfl, rfl, rfl, by decide +kernel, rfl, by decide +kernel, by decide +kernel⟩
def spShort (K : PySem.W.Frag) (d : Nat) : Sp := fun vs H Q _ => ∃ (r : R) (x : V), vs = [x] ∧ RepR K H r x ∧ dpR r < d ∧ lvR r ≤ 1000000 ∧ ∀ p H', Same H H' → SqT K H' p ((shortest r).map V.int) → Q (.ref p) H'
theorem short_none (D : Dfn K mg "shortest" s_shortest) : Callee P w K mg base 0 "shortest" ["rest"] (spShort K 0) :=
  D.none (fun _ _ _ _ _ _ us hl => match us, hl with | [_], _ => rfl) fun vs H Q E h => by
    obtain ⟨r, x, _, _, hd, _⟩ := h
    omega
theorem short_step {d : Nat} (D : Dfn K mg "shortest" s_shortest) (M : Mo K mg) (C_shortest : Callee P w K mg base d "shortest" ["rest"] (spShort K d)) :
    Callee P w K mg base (d + 1) "shortest" ["rest"] (spShort K (d + 1)) := by
  refine D.ok (fun _ _ _ _ _ _ us hl => match us, hl with | [_], _ => rfl) sc_shortest (fun vs H Q E h => ?_) (fun f cdv A outer s H vs Q E hr h => ?_)
  · obtain ⟨r, x, rfl, _⟩ := h
    rfl
  obtain ⟨r, x, rfl, hx, hd, hlv, q⟩ := h
  refine ⟨_, (pss_cons (ps_set (i := 1) sc_shortest.nd rfl (by first | exact Or.inl rfl | exact Or.inr rfl) (pe_ix ix_tup (pv 0) pe_int (fun _ _ => rfl)))
    (pss_cons (ps_if (pt_cmpR op_eq (pv 1) pe_str (nomark _)) (pss_one (ps_ret (pe_tup (pa_cons (pe_ix ix_tup (pv 0) pe_int (fun _ _ => rfl)) pa_nil)))) pss_nil)
    (pss_cons (ps_if (pt_cmpR op_eq (pv 1) pe_str (nomark _)) (pss_one (ps_ret (pe_tup pa_nil))) pss_nil)
    (pss_cons (ps_set (i := 2) sc_shortest.nd rfl (by first | exact Or.inl rfl | exact Or.inr rfl) (pe_callC C_shortest (hr.mono (by omega)) (by rfl) (pa_cons (pe_ix ix_tup (pv 0) pe_int (fun _ _ => rfl)) pa_nil)))
    (pss_cons (ps_if (pt_cmpR op_eq (pv 1) pe_str (nomark _)) (pss_one (ps_ret (pv 2))) pss_nil)
    (pss_cons (ps_set (i := 3) sc_shortest.nd rfl (by first | exact Or.inl rfl | exact Or.inr rfl) (pe_callC C_shortest (hr.mono (by omega)) (by rfl) (pa_cons (pe_ix ix_tup (pv 0) pe_int (fun _ _ => rfl)) pa_nil)))
    (pss_cons (ps_if (pt_cmpR op_eq (pv 1) pe_str (nomark _)) (pss_one (ps_ret (pe_minLen rfl (by rfl) M.min (by rfl) M.len (pa_cons (pe_lst (pa_cons (pv 2) (pa_cons (pv 3) pa_nil))) pa_nil)))) pss_nil)
    (pss_one (ps_ret (pe_op op_catA (pv 2) (pv 3))))))))))), ?_⟩
  cases r with
  | step n =>
    obtain ⟨a, rfl, ha⟩ := hx
    refine ⟨_, rfl, a, _, _, _, rfl, rfl, ha, at0, ?_⟩
    refine ⟨_, rfl, rfl, _, rfl, ifT (by decide +kernel) ?_⟩
    exact ⟨_, rfl, a, _, _, _, rfl, rfl, ha, at1, sz (by simp only [List.length_cons, List.length_nil]; omega), fun p np => q p _ (same_upd np) (tupS upd_same)⟩
  | done =>
    obtain ⟨a, rfl, ha⟩ := hx
    refine ⟨_, rfl, a, _, _, _, rfl, rfl, ha, at0, ?_⟩
    refine ⟨_, rfl, rfl, _, rfl, ifF (by decide +kernel) ⟨_, rfl, rfl, _, rfl, ifT (by decide +kernel) ?_⟩⟩
    exact ⟨Nat.zero_le _, fun p np => q p _ (same_upd np) (tupS upd_same)⟩
  | bin k l r =>
    obtain ⟨a, u, v, rfl, ha, hu, hv⟩ := id hx
    simp only [dpR] at hd
    simp only [lvR] at hlv
    have la := short_len l
    have lb := short_len r
    refine ⟨_, rfl, a, _, _, _, rfl, rfl, ha, at0, ?_⟩
    refine ⟨_, rfl, rfl, _, rfl, ifF (by cases k <;> decide +kernel) ⟨_, rfl, rfl, _, rfl, ifF (by cases k <;> decide +kernel) ?_⟩⟩
    refine ⟨_, rfl, a, _, _, _, rfl, rfl, ha, at1, l, u, rfl, hu, by omega, by omega, fun p H1 e1 hp => ?_⟩
    have h2 : SqT K H1 a [.str k.nm, u, v] := same_tup e1 ha
    cases k with
    | loop =>
      refine ⟨_, rfl, rfl, _, rfl, ifT (by decide +kernel) ?_⟩
      exact ⟨_, rfl, q p H1 e1 hp⟩
    | cho =>
      refine ⟨_, rfl, rfl, _, rfl, ifF (by decide +kernel) ?_⟩
      refine ⟨_, rfl, a, _, _, _, rfl, rfl, h2, at2, r, v, rfl, hv.same e1, by omega, by omega, fun p2 H2 e2 hp2 => ?_⟩
      refine ⟨_, rfl, rfl, _, rfl, ifT (by decide +kernel) ?_⟩
      refine ⟨_, rfl, _, rfl, sz (by simp only [List.length_cons, List.length_nil]; omega), fun p3 np3 => ?_⟩
      refine ⟨p3, p, p2, _, _, rfl, upd_same, same_tup (e2.trans (same_upd np3)) hp, same_tup (same_upd np3) hp2, ?_⟩
      refine q _ _ ((e1.trans e2).trans (same_upd np3)) ?_
      simp only [shortest, List.length_map]
      split
      · exact same_tup (same_upd np3) hp2
      · exact same_tup (e2.trans (same_upd np3)) hp
    | seq =>
      refine ⟨_, rfl, rfl, _, rfl, ifF (by decide +kernel) ?_⟩
      refine ⟨_, rfl, a, _, _, _, rfl, rfl, h2, at2, r, v, rfl, hv.same e1, by omega, by omega, fun p2 H2 e2 hp2 => ?_⟩
      refine ⟨_, rfl, rfl, _, rfl, ifF (by decide +kernel) ?_⟩
      refine ⟨_, rfl, _, rfl, catA (same_tup e2 hp) hp2 (by rw [List.length_map, List.length_map]; exact szM (by omega)) fun p3 H3 e3 hp3 => q p3 H3 ((e1.trans e2).trans e3) ?_⟩
      simp only [shortest, List.map_append]
      exact hp3
    | par =>
      refine ⟨_, rfl, rfl, _, rfl, ifF (by decide +kernel) ?_⟩
      refine ⟨_, rfl, a, _, _, _, rfl, rfl, h2, at2, r, v, rfl, hv.same e1, by omega, by omega, fun p2 H2 e2 hp2 => ?_⟩
      refine ⟨_, rfl, rfl, _, rfl, ifF (by decide +kernel) ?_⟩
      refine ⟨_, rfl, _, rfl, catA (same_tup e2 hp) hp2 (by rw [List.length_map, List.length_map]; exact szM (by omega)) fun p3 H3 e3 hp3 => q p3 H3 ((e1.trans e2).trans e3) ?_⟩
      simp only [shortest, List.map_append]
      exact hp3
theorem ok_short (D : Dfn K mg "shortest" s_shortest) (M : Mo K mg) : ∀ d : Nat, Callee P w K mg base d "shortest" ["rest"] (spShort K d)
  | 0 => short_none D
  | d + 1 => short_step D M (ok_short D M d)
/-! ### longer -/
def RepL (K : PySem.W.Frag) (H : Hp) : Wd × List R → V → Prop := fun q v => ∃ (a p b : Addr) (zs : List V), v = .ref a ∧ SqT K H a [.ref p, .ref b] ∧ SqT K H p (q.1.map V.int) ∧ H b = some (.lst zs) ∧ Rows (RepR K H) zs q.2
def RepN (K : PySem.W.Frag) (n : Addr) (H : Hp) : Wd × List R → V → Prop := fun q v => ∃ (a p b : Addr) (zs : List V), v = .ref a ∧ SqT K H a [.ref p, .ref b] ∧ SqT K H p (q.1.map V.int) ∧ b ≠ n ∧ H b = some (.lst zs) ∧ Rows (RepR K H) zs q.2
theorem RepL.same {H H' : Hp} {q : Wd × List R} {v : V} (e : Same H H') : RepL K H q v → RepL K H' q v := fun ⟨a, p, b, zs, hv, ha, hp, hb, hz⟩ => ⟨a, p, b, zs, hv, same_tup e ha, same_tup e hp, e _ _ hb, Rows.same (stays_R K) e hz⟩
theorem RepN.ex {H H' : Hp} {n : Addr} {ys : List V} {q : Wd × List R} {v : V} (e : Ex n H H') (hn : H n = some (.lst ys)) : RepN K n H q v → RepN K n H' q v := fun ⟨a, p, b, zs, hv, ha, hp, hne, hb, hz⟩ => ⟨a, p, b, zs, hv, (e.tk hn).sq ha, (e.tk hn).sq hp, hne, e _ _ hne hb, Rows.te (stays_R K) (e.tk hn) hz⟩
theorem RepN.l {H : Hp} {n : Addr} {q : Wd × List R} {v : V} : RepN K n H q v → RepL K H q v := fun ⟨a, p, b, zs, hv, ha, hp, _, hb, hz⟩ => ⟨a, p, b, zs, hv, ha, hp, hb, hz⟩
theorem Rows.ex {H H' : Hp} {n : Addr} {ys xs : List V} {qs : List (Wd × List R)} (e : Ex n H H') (hn : H n = some (.lst ys)) (h : Rows (RepN K n H) xs qs) : Rows (RepN K n H') xs qs := h.imp fun b v => RepN.ex e hn
abbrev s_longer : Stmt := top 28
abbrev nm_longer : List PySem.Str := ["level", "room", "found", "steps", "rests", "step", "left", "rest"]
theorem sc_longer : FnScope nm_longer ["level", "room"] (defScope s_longer) := ⟨rfl, rfl, rfl, by decide +kernel, rfl, by decide +kernel, by decide +kernel⟩
def spLonger (K : PySem.W.Frag) : Sp := fun vs H Q _ => ∃ (a : Addr) (xs : List V) (lv : Lev) (room : Nat), vs = [.ref a, .int room] ∧ SqL K H a xs ∧ Rows (RepL K H) xs lv ∧ (∀ q ∈ lv, Small q.2 ∧ q.1.length ≤ 1000) ∧ (longer lv room).length ≤ 100000 ∧
  ∀ H' p ys, Same H H' → H p = none → H' p = some (.lst ys) → Rows (RepL K H') ys (longer lv room) → Q (.ref p) H'
theorem longer_take {lv : Lev} {room i : Nat} {q : Wd × List R} (h : lv[i]? = some q) : longer (lv.take (i + 1)) room = longer (lv.take i) room ++ (nextSteps q.2).filterMap (goOn q.1 q.2 room) := flat_take _ h
theorem longer_le (lv : Lev) (room i : Nat) : (longer (lv.take i) room).length ≤ (longer lv room).length := by
  have : longer lv room = longer (lv.take i) room ++ longer (lv.drop i) room := by
    unfold longer
    rw [← List.flatMap_append, List.take_append_drop]
  rw [this, List.length_append]
  omega
theorem fm_le {α β : Type} (g : α → Option β) (l : List α) (i : Nat) : ((l.take i).filterMap g).length ≤ (l.filterMap g).length := by
  have : l.filterMap g = (l.take i).filterMap g ++ (l.drop i).filterMap g := by rw [← List.filterMap_append, List.take_append_drop]
  rw [this, List.length_append]
  omega
theorem ok_longer {k : Nat} (D : Dfn K mg "longer" s_longer) (M : Mo K mg) (hk : 61 ≤ k) (C_next_steps : Callee P w K mg base k "next_steps" ["rests"] (spNext K)) (C_after_one_more : Callee P w K mg base k "after_one_more" ["rests", "step"] (spMore K))
    (C_shortest : Callee P w K mg base 61 "shortest" ["rest"] (spShort K 61)) : Callee P w K mg base (k + 1) "longer" ["level", "room"] (spLonger K) := by
  refine D.ok (fun _ _ _ _ _ _ us hl => match us, hl with | [_, _], _ => rfl) sc_longer (fun vs H Q E h => ?_) (fun f cdv A outer s H vs Q E hr h => ?_)
  · obtain ⟨a, xs, lv, room, rfl, _⟩ := h
    rfl
  obtain ⟨a, xs, lv, room, rfl, hS, hb, hz, htot, q⟩ := h
  refine ⟨_, (pss_cons (ps_set (i := 2) sc_longer.nd rfl (by first | exact Or.inl rfl | exact Or.inr rfl) (pe_lst pa_nil))
    (pss_cons (ps_for PassesOwn.never rfl (pi_list (pv 0)) (pg_tup rfl (pgs_cons (pg_name (i := 3) sc_longer.nd rfl (by first | exact Or.inl rfl | exact Or.inr rfl)) (pgs_cons (pg_name (i := 4) sc_longer.nd rfl (by first | exact Or.inl rfl | exact Or.inr rfl)) pgs_nil))) (pss_one (ps_for PassesOwn.never rfl (pi_list (pe_callC C_next_steps (hr.mono (by omega)) (by rfl) (pa_cons (pv 4) pa_nil))) (pg_name (i := 5) sc_longer.nd rfl (by first | exact Or.inl rfl | exact Or.inr rfl)) (pss_cons (ps_setLc (i := 6) (own := [("rest", 7)]) rfl sc_longer.nd rfl rfl (sw_true rfl rfl rfl (by decide +kernel)) (pi_list (pe_callC C_after_one_more (hr.mono (by omega)) (by rfl) (pa_cons (pv 4) (pa_cons (pv 5) pa_nil)))) (blkOk_by (own := [("rest", 7)]) (N := nm_longer) (sc := defScope s_longer) (by decide +kernel)) (fun _ _ _ _ _ => (pg_name (i := 7) sc_longer.nd rfl (by first | exact Or.inl rfl | exact Or.inr rfl))) (fun _ _ _ _ _ => (pts_one (pt_cmpR op_le (pe_callB (cr_lenK (K := K) rfl) (by rfl) M.len PySem.boot_len (pa_cons (pe_callC C_shortest (hr.mono (by omega)) (by rfl) (pa_cons (pv 7) pa_nil)) pa_nil)) (pv 1) (nomark _)))) (fun _ _ _ _ _ => (pv 7)))
    (pss_one (ps_if (pt_truth (pv 6) (by intro _; rfl)) (pss_one (ps_expr (pe_bm PySem.F.plainAttrs_list PySem.F.slot_list_append PySem.F.type_list_append mt_append (pv 2) (pa_cons (pe_tup (pa_cons (pe_op op_catA (pv 3) (pe_tup (pa_cons (pv 5) pa_nil))) (pa_cons (pv 6) pa_nil))) pa_nil)))) pss_nil))))))
    (pss_one (ps_ret (pv 2))))), ?_⟩
  refine ⟨Nat.zero_le _, fun p np => ?_⟩
  have hlen := hb.len
  refine ⟨_, rfl, a, rfl, ⟨_, (same_upd np).seq hS⟩, for_list (xs := xs) (fun i σ H1 => ∃ y3 y4 y5 y6 y7 ys, σ = [some (.ref a), some (.int room), some (.ref p), y3, y4, y5, y6, y7] ∧ Same H H1 ∧ H1 p = some (.lst ys) ∧ Rows (RepN K p H1) ys (longer (lv.take i) room))
    ⟨_, _, _, _, _, [], rfl, same_upd np, upd_same, .nil⟩ (fun i σ H1 _ ⟨_, _, _, _, _, _, _, e, _⟩ => e.seq hS) (fun i x σ H1 hx ⟨y3, y4, y5, y6, y7, ys, es, e, hp, hr⟩ => ?_) (fun σ H1 ⟨y3, y4, y5, y6, y7, ys, es, e, hp, hr⟩ => ?_)⟩
  · subst es
    obtain ⟨⟨u, rs⟩, hqi, hF⟩ := hb.get hx
    have hm := List.mem_of_getElem? hqi
    obtain ⟨hsm, hul⟩ := hz _ hm
    obtain ⟨c, pu, b, zs, rfl, hc, hpu, hbz, hzs⟩ := hF
    have hbne : b ≠ p := ne_of_none hbz np
    replace hc := same_tup e hc
    replace hpu := same_tup e hpu
    replace hbz := e _ _ hbz
    replace hzs := Rows.same (stays_R K) e hzs
    refine ⟨c, _, rfl, hc, rfl, _, _, rfl, _, _, rfl, rfl, ?_⟩
    refine ⟨_, rfl, b, zs, rs, rfl, lstS hbz, hzs, hsm, fun H2 p2 e2 np2 hp2 => ?_⟩
    have hpne : p2 ≠ p := fun z => by
      rw [z, hp] at np2
      cases np2
    have hp2p := e2 _ _ hp
    have hr2 := Rows.ex (Ex.of (p := p) e2) hp hr
    refine ⟨p2, rfl, ⟨_, lstS hp2⟩, for_list (xs := (nextSteps rs).map V.int) (fun j σ H3 => ∃ y5 y6 y7 ws, σ = [some (.ref a), some (.int room), some (.ref p), some (.ref pu), some (.ref b), y5, y6, y7] ∧ Ex p H2 H3 ∧ Same H H3 ∧ H3 p = some (.lst ws) ∧ Rows (RepN K p H3) ws (longer (lv.take i) room ++ ((nextSteps rs).take j).filterMap (goOn u rs room)))
      ⟨_, _, _, ys, rfl, Ex.refl H2, e.trans e2, hp2p, by rw [List.take_zero, List.filterMap_nil, List.append_nil]; exact hr2⟩ (fun j σ H3 _ ⟨_, _, _, _, _, ex, _⟩ => lstS (ex _ _ hpne hp2)) (fun j x σ H3 hx ⟨y5, y6, y7, ws, es, ex, e3, hp3, hr3⟩ => ?_) (fun σ H3 ⟨y5, y6, y7, ws, es, ex, e3, hp3, hr3⟩ => ?_)⟩
    · subst es
      rw [List.getElem?_map] at hx
      obtain ⟨st, hst, rfl⟩ := Option.map_eq_some_iff.mp hx
      have ex13 : Ex p H1 H3 := (Ex.of e2).trans ex
      have hb3 := ex13 _ _ hbne hbz
      have hzs3 := Rows.te (stays_R K) (ex13.tk hp) hzs
      refine ⟨_, rfl, _, rfl, b, zs, rs, st, rfl, lstS hb3, hzs3, hsm, fun H4 p4 ys4 e4 np4 hp4 hys4 => ?_⟩
      refine ⟨p4, rfl, ⟨_, lstS hp4⟩, fun D4 nD4 => ?_⟩
      have hafter : ∀ z ∈ afterMore rs st, dpR z ≤ 53 ∧ lvR z ≤ 1000000 := fun z hz => by
        obtain ⟨r, hm, hr'⟩ := mem_afterMore.mp hz
        have h1 := after_dp _ _ _ hr'
        have h2 := hsm.dp r hm
        have h3 := after_lv _ _ _ hr'
        have h4 := hsm.lv hm
        have h5 : lvR r * (1 + 2 * dpR r) ≤ 4000 * 101 := Nat.mul_le_mul h4 (by omega)
        omega
      have hal : (afterMore rs st).length ≤ 4000 := by
        unfold afterMore
        exact Nat.le_trans (length_ded _) (Nat.le_trans (flat_len _ lvR _ fun r _ => after_len r st) hsm.sum)
      refine lc_filter (bs := afterMore rs st) (RepR K) (stays_R K) (fun r => decide ((shortest r).length ≤ room)) rfl rfl (lstS hp4) hys4 nD4 (sz (by omega)) (fun _ => rfl) (by exact (by decide : (7 : Nat) < 8)) (fun i x r Hc hri hF eH Q1 hQ => ?_) (fun H5 ls e5 hD5 hls => ?_)
      · obtain ⟨hd1, hd2⟩ := hafter r (List.mem_of_getElem? hri)
        refine ⟨_, rfl, r, x, rfl, hF, by omega, hd2, fun p5 H5 e5 hp5 => ?_⟩
        refine ⟨p5, _, rfl, .inr hp5, _, rfl, _, _, rfl, rfl, _, rfl, ?_⟩
        have z := hQ H5 e5
        simp only [List.length_map, Int.ofNat_le]
        exact z
      have ex5 : Ex p H3 H5 := Ex.of (e4.trans e5)
      have e35 := e3.trans (e4.trans e5)
      have hp5 := (e4.trans e5) _ _ hp3
      have hr5 := Rows.ex ex5 hp3 hr3
      have hall : longer lv room = longer (lv.take i) room ++ ((nextSteps rs).filterMap (goOn u rs room) ++ longer (lv.drop (i + 1)) room) := by
        have z : longer lv room = longer (lv.take (i + 1)) room ++ longer (lv.drop (i + 1)) room := by
          unfold longer
          rw [← List.flatMap_append, List.take_append_drop]
        rw [z, longer_take hqi, List.append_assoc]
      have hfm := take_succ hst
      have hle := fm_le (goOn u rs room) (nextSteps rs) (j + 1)
      have htl : (longer lv room).length = (longer (lv.take i) room).length + (((nextSteps rs).filterMap (goOn u rs room)).length + (longer (lv.drop (i + 1)) room).length) := by rw [hall, List.length_append, List.length_append]
      rw [hfm, List.filterMap_append, List.length_append] at hle
      by_cases hlo : leftOf rs room st = []
      · have ego : goOn u rs room st = none := by
          unfold goOn
          rw [if_pos hlo]
        have els : ls = [] := by
          have := hls.len
          rw [show (afterMore rs st).filter (fun r => decide ((shortest r).length ≤ room)) = leftOf rs room st from rfl, hlo] at this
          exact List.length_eq_zero_iff.mp this
        refine ⟨_, rfl, _, .inl ⟨ls, lstS hD5, rfl⟩, ?_⟩
        rw [els]
        refine iteF ⟨_, _, _, ws, rfl, ex.trans ex5, e35, hp5, ?_⟩
        rw [hfm, List.filterMap_append, List.filterMap_cons, ego, List.filterMap_nil, List.append_nil]
        exact hr5
      · have ego : goOn u rs room st = some (u ++ [st], leftOf rs room st) := by
          unfold goOn
          rw [if_neg hlo]
        have els : (!ls.isEmpty) = true := by
          cases ls with
          | nil =>
            have := hls.len
            exact absurd (List.length_eq_zero_iff.mp this.symm) hlo
          | cons _ _ => rfl
        rw [List.filterMap_cons, ego, List.filterMap_nil] at hle
        refine ⟨_, rfl, _, .inl ⟨ls, lstS hD5, rfl⟩, ?_⟩
        rw [els]
        refine iteT ⟨_, rfl, .inl ⟨rfl, _, lstS hp5⟩, ?_⟩
        have hpu5 := same_tup (e2 : Same H1 H2) hpu
        have hpu3 : SqT K H3 pu (u.map V.int) := (ex.tk hp2p).sq hpu5
        have hpu4 := same_tup (e4.trans e5) hpu3
        refine ⟨_, rfl, _, rfl, sz (by simp only [List.length_cons, List.length_nil]; omega), fun pt npt => ?_⟩
        refine catA (ys := [V.int st]) (same_tup (same_upd npt) hpu4) (tupS upd_same) (by rw [List.length_map]; exact sz (by simp only [List.length_cons, List.length_nil]; simp only at hul; omega)) fun pc H6 e6 hpc => ?_
        refine ⟨_, rfl, tup2, fun pn npn => ?_⟩
        have e57 := (same_upd (o := .tup [V.int st]) npt).trans (e6.trans (same_upd (o := .tup [V.ref pc, V.ref D4]) npn))
        have hp7 := e57 _ _ hp5
        have hl5 := hr5.len
        rw [List.length_append] at hl5
        simp only [List.length_cons, List.length_nil] at hle
        have t1 := te_lst (o := .lst (ws ++ [V.ref pn])) hp7
        have hDne : D4 ≠ p := fun z => by
          rw [z] at nD4
          rw [e4 _ _ hp3] at nD4
          cases nD4
        refine ⟨p, ws, .ref pn, rfl, rfl, hp7, szl (by omega), _, _, _, ws ++ [V.ref pn], rfl, ex.trans (ex5.trans ((Ex.of e57).trans Ex.upd)), same_mut (e35.trans e57) np, upd_same, ?_⟩
        rw [hfm, List.filterMap_append, List.filterMap_cons, ego, List.filterMap_nil, ← List.append_assoc]
        refine (Rows.ex (Ex.upd) hp7 (Rows.ex (Ex.of e57) hp5 hr5)).append (.one ?_)
        refine ⟨pn, pc, D4, ls, rfl, t1.sq (tupS upd_same), ?_, hDne, ?_, Rows.te (stays_R K) ((te_same e57).trans t1) hls⟩
        · rw [List.map_append]
          exact t1.sq (same_tup (same_upd npn) hpc)
        · rw [upd_ne hDne]
          exact e57 _ _ hD5
    · subst es
      have hl := hlen
      refine ⟨_, _, _, _, _, ws, rfl, e3, hp3, ?_⟩
      rw [longer_take hqi]
      rw [List.length_map, List.take_length] at hr3
      exact hr3
  · subst es
    refine ⟨_, rfl, q H1 p ys e np hp ?_⟩
    rw [hlen, List.take_length] at hr
    exact hr.imp fun b v => RepN.l
end
end Tf

namespace Tf
open PySem PySem.Spec PyProof.Rows L2
section
variable {K : PySem.W.Frag} {β γ : Type}
/-- [f(x) for x in a tuple] -/
theorem lc_mapT {a : Addr} {xs : List V} {bs : List β} {g : TG} {te : TE} {vs : List Nat} {σ : L2.St} {H1 : Hp} {D : Addr} {Qd : Hp → Prop} {j : Nat} (F : Hp → β → V → Prop) (G : Hp → γ → V → Prop) (sF : Stays F) (sG : Stays G) (f : β → γ)
    (hg : g = gName j) (hS : SqT K H1 a xs) (hb : Rows (F H1) xs bs) (hD : H1 D = none) (hz : bs.length ≤ sizeLine) (hw : ∀ x : V, wipe ((wipe σ vs).set j (some x)) vs = wipe σ vs)
    (turn : ∀ (i : Nat) (x : V) (b : β) (Hc : Hp), bs[i]? = some b → F Hc b x → Same H1 Hc → ∀ Q : VK, (∀ y H4, Same Hc H4 → G H4 (f b) y → Q y H4) → te ((wipe σ vs).set j (some x)) Hc Q)
    (done : ∀ Hd ys, Same H1 Hd → Hd D = some (.lst ys) → Rows (G Hd) ys (bs.map f) → Qd Hd) :
    ∃ W : Nat → Nat → Hp → Prop, (∃ m, W 0 m (upd H1 D (.lst []))) ∧ ∀ i m H, W i m H →
      ((Itt K a).stop i H ∧ Qd H) ∨ ((Itt K a).go i H ∧ ∃ Nx : Hp → Prop, (∀ H', Nx H' → ∃ m', m' < m ∧ W (i + 1) m' H') ∧ ∀ x H', (Itt K a).yld i H x H' → g x (wipe σ vs) H' fun σ2 H2 => wipe σ2 vs = wipe σ vs ∧ tYes σ2 H2 fun b H3 =>
        if b = true then te σ2 H3 fun y H4 => ∃ acc, H4 D = some (.lst acc) ∧ acc.length < sizeLine ∧ Nx (upd H4 D (.lst (acc ++ [y]))) else Nx H3) := by
  subst hg
  have hlen := hb.len
  refine lc_tup (xs := xs) (fun i H => ∃ ys, Same H1 H ∧ H D = some (.lst ys) ∧ Rows (G H) ys ((bs.take i).map f)) ⟨[], same_upd hD, upd_same, .nil⟩ (fun i H _ ⟨ys, e, _⟩ => same_tup e hS) (fun i x H hx ⟨ys, e, hy, hr⟩ => ?_) (fun H ⟨ys, e, hy, hr⟩ => ?_)
  · obtain ⟨b, hbi, hF⟩ := hb.get hx
    refine ⟨hw x, ?_⟩
    refine yes_of ?_
    rw [if_pos rfl]
    refine turn i x b H hbi (sF _ _ _ _ (te_same e) hF) e _ fun y H4 e4 hG => ⟨ys, e4 _ _ hy, ?_, _, same_mut (e.trans e4) hD, upd_same, ?_⟩
    · have h1 := hr.len
      rw [List.length_map, List.length_take] at h1
      have h2 := (List.getElem?_eq_some_iff.mp hbi).1
      omega
    · have t1 : Tk H4 (upd H4 D (.lst (ys ++ [y]))) := te_lst (e4 _ _ hy)
      rw [take_succ hbi, List.map_append]
      exact (Rows.te sG ((te_same e4).trans t1) hr).append (.one (sG _ _ _ _ t1 hG))
  · refine done H ys e hy ?_
    rw [hlen, List.take_length] at hr
    exact hr
end
/-! ### attributes, data, conditions -/
structure At where
  nm : PySem.Str
  lo : Int
  hi : Int
def RepA (K : PySem.W.Frag) (H : Hp) (t : At) (v : V) : Prop := ∃ a w, v = .ref a ∧ SqT K H a [.str t.nm, .int t.lo, .int t.hi, w]
theorem stays_A (K : PySem.W.Frag) : Stays (RepA K) := fun _ _ _ _ e ⟨a, w, hv, h⟩ => ⟨a, w, hv, e.sq h⟩
def Cp.nm : Cp → PySem.Str
  | .lt => "<"
  | .le => "<="
  | .eq => "="
  | .ne => "!="
  | .ge => ">="
  | .gt => ">"
def RepC (K : PySem.W.Frag) (H : Hp) : Cnd → V → Prop
  | .cmp n o i, v => ∃ a, v = .ref a ∧ SqT K H a [.str "compare", .str n, .str o.nm, .int i]
  | .neg c, v => ∃ a x, v = .ref a ∧ SqT K H a [.str "not", x] ∧ RepC K H c x
  | .con c d, v => ∃ a x y, v = .ref a ∧ SqT K H a [.str "and", x, y] ∧ RepC K H c x ∧ RepC K H d y
  | .dis c d, v => ∃ a x y, v = .ref a ∧ SqT K H a [.str "or", x, y] ∧ RepC K H c x ∧ RepC K H d y
theorem RepC.te {K : PySem.W.Frag} {H H' : Hp} (e : Tk H H') : ∀ {c : Cnd} {v : V}, RepC K H c v → RepC K H' c v
  | .cmp n o i, v, ⟨a, hv, h⟩ => ⟨a, hv, e.sq h⟩
  | .neg c, v, ⟨a, x, hv, h, h1⟩ => ⟨a, x, hv, e.sq h, RepC.te e h1⟩
  | .con c d, v, ⟨a, x, y, hv, h, h1, h2⟩ => ⟨a, x, y, hv, e.sq h, RepC.te e h1, RepC.te e h2⟩
  | .dis c d, v, ⟨a, x, y, hv, h, h1, h2⟩ => ⟨a, x, y, hv, e.sq h, RepC.te e h1, RepC.te e h2⟩
theorem RepC.same {K : PySem.W.Frag} {H H' : Hp} {c : Cnd} {v : V} (h : RepC K H c v) (e : Same H H') : RepC K H' c v := h.te (te_same e)
def Cnd.dp : Cnd → Nat
  | .cmp _ _ _ => 0
  | .neg c => c.dp + 1
  | .con c d => max c.dp d.dp + 1
  | .dis c d => max c.dp d.dp + 1
/-- each name told is one of these -/
def Cnd.In (ns : List PySem.Str) : Cnd → Prop
  | .cmp n _ _ => n ∈ ns
  | .neg c => c.In ns
  | .con c d => c.In ns ∧ d.In ns
  | .dis c d => c.In ns ∧ d.In ns
def valOf (ats : List At) (ds : List Int) (n : PySem.Str) : Int := ds.getD ((ats.map (·.nm)).idxOf n) 0
/-- the attributes and the data, as they lie -/
structure Dat (K : PySem.W.Frag) (H : Hp) (pa pd : Addr) (ats : List At) (ds : List Int) : Prop where
  ex : ∃ xs, SqT K H pa xs ∧ Rows (RepA K H) xs ats
  data : SqT K H pd (ds.map V.int)
  len : ats.length = ds.length
  few : ats.length ≤ 1000
theorem Dat.te {K : PySem.W.Frag} {H H' : Hp} {pa pd : Addr} {ats : List At} {ds : List Int} (h : Dat K H pa pd ats ds) (e : Tk H H') : Dat K H' pa pd ats ds :=
  ⟨let ⟨xs, a, b⟩ := h.ex; ⟨xs, e.sq a, Rows.te (stays_A K) e b⟩, e.sq h.data, h.len, h.few⟩
theorem Dat.same {K : PySem.W.Frag} {H H' : Hp} {pa pd : Addr} {ats : List At} {ds : List Int} (h : Dat K H pa pd ats ds) (e : Same H H') : Dat K H' pa pd ats ds := h.te (te_same e)
theorem eqV_str (x y : PySem.Str) : eqV (.str x) (.str y) = (x == y) := rfl
theorem flat_strs (ns : List PySem.Str) : (ns.map V.str).all flatV = true := by
  rw [List.all_eq_true]
  intro x hx
  obtain ⟨y, _, rfl⟩ := List.mem_map.mp hx
  rfl
/-- a new list of strings, read off rows -/
theorem rows_strs {H : Hp} : ∀ {ys : List V} {ns : List PySem.Str}, Rows (fun (n : PySem.Str) v => v = V.str n) ys ns → ys = ns.map V.str
  | _, _, .nil => rfl
  | _, _, .cons a t => by
    rw [List.map_cons, ← rows_strs (H := H) t, a]
theorem stays_str : Stays (fun (_ : Hp) (n : PySem.Str) v => v = V.str n) := fun _ _ _ _ _ h => h
/-- names.index(n) -/
theorem index_str {K : PySem.W.Frag} {H : Hp} {l : Addr} {ns : List PySem.Str} {n : PySem.Str} {Q : VK} (hl : SqL K H l (ns.map V.str)) (hn : n ∈ ns) (q : Q (.int ((ns.idxOf n : Nat) : Int)) H) : rIndex K (.ref l) [.str n] H Q := by
  have hlt := List.idxOf_lt_length_iff.mpr hn
  refine ⟨l, ns.map V.str, .str n, ns.idxOf n, .str n, rfl, rfl, hl, rfl, flat_strs ns, ?_, ?_, fun m z hm hz => ?_, q⟩
  · rw [List.getElem?_map, List.getElem?_eq_getElem hlt, List.getElem_idxOf hlt]
    rfl
  · rw [eqV_str]
    exact beq_self_eq_true n
  · rw [List.getElem?_map] at hz
    obtain ⟨y, hy, rfl⟩ := Option.map_eq_some_iff.mp hz
    rw [eqV_str]
    obtain ⟨hml, hmy⟩ := List.getElem?_eq_some_iff.mp hy
    have := List.not_of_lt_findIdx (xs := ns) (p := (· == n)) hm
    rw [hmy] at this
    simpa using this
theorem index_at {ns : List PySem.Str} {n : PySem.Str} (hn : n ∈ ns) : (ns.map V.str)[ns.idxOf n]? = some (.str n) := by
  have hlt := List.idxOf_lt_length_iff.mpr hn
  rw [List.getElem?_map, List.getElem?_eq_getElem hlt, List.getElem_idxOf hlt]
  rfl
theorem index_no {ns : List PySem.Str} {n : PySem.Str} (m : Nat) (z : V) (hm : m < ns.idxOf n) (hz : (ns.map V.str)[m]? = some z) : eqV z (.str n) = false := by
  rw [List.getElem?_map] at hz
  obtain ⟨y, hy, rfl⟩ := Option.map_eq_some_iff.mp hz
  rw [eqV_str]
  obtain ⟨hml, hmy⟩ := List.getElem?_eq_some_iff.mp hy
  have := List.not_of_lt_findIdx (xs := ns) (p := (· == n)) hm
  rw [hmy] at this
  simpa using this
theorem atNat {xs : List V} {j : Nat} {v : V} (h : xs[j]? = some v) : atI xs (j : Int) = some v := atI_nat h
section
variable {P : Program} {w : World} {K : PySem.W.Frag} {mg : PySem.Str → Option Value} {base : Heap}
/-! ### attribute_index -/
abbrev s_attribute_index : Stmt := top 12
abbrev nm_attribute_index : List PySem.Str := ["attributes", "name", "attribute"]
theorem sc_attribute_index : FnScope nm_attribute_index ["attributes", "name"] (defScope s_attribute_index) := ⟨rfl, rfl, rfl, by decide +kernel, rfl, by decide +kernel, by decide +kernel⟩
def spIndex (K : PySem.W.Frag) : Sp := fun vs H Q _ => ∃ (a : Addr) (xs : List V) (ats : List At) (n : PySem.Str), vs = [.ref a, .str n] ∧ SqT K H a xs ∧ Rows (RepA K H) xs ats ∧ ats.length ≤ 1000 ∧ n ∈ ats.map (·.nm) ∧ ∀ H', Same H H' → Q (.int (((ats.map (·.nm)).idxOf n : Nat) : Int)) H'
theorem ok_index (D : Dfn K mg "attribute_index" s_attribute_index) (M : Mo K mg) : Callee P w K mg base 1 "attribute_index" ["attributes", "name"] (spIndex K) := by
  refine D.ok (fun _ _ _ _ _ _ us hl => match us, hl with | [_, _], _ => rfl) sc_attribute_index (fun vs H Q E h => ?_) (fun f cdv A outer s H vs Q E hr h => ?_)
  · obtain ⟨a, xs, ats, n, rfl, _⟩ := h
    rfl
  obtain ⟨a, xs, ats, n, rfl, hS, hb, hz, hn, q⟩ := h
  refine ⟨_, (pss_one (ps_ret (pe_bm PySem.F.plainAttrs_list PySem.F.slot_list_index PySem.F.type_list_index mt_index (pe_lc (own := [("attribute", 2)]) rfl sc_attribute_index.nd (pi_tup (pv 0)) (blkOk_by (own := [("attribute", 2)]) (N := nm_attribute_index) (sc := defScope s_attribute_index) (by decide +kernel)) (fun _ _ _ _ _ => (pg_name (i := 2) sc_attribute_index.nd rfl (by first | exact Or.inl rfl | exact Or.inr rfl))) (fun _ _ _ _ _ => pts_nil) (fun _ _ _ _ _ => (pe_ix (ix_tupK (K := K) rfl) (pv 2) pe_int (fun _ _ => rfl)))) (pa_cons (pv 1) pa_nil)))), ?_⟩
  refine ⟨_, rfl, a, rfl, ⟨_, hS⟩, fun D1 nD1 => ?_⟩
  refine lc_mapT (bs := ats) (RepA K) (fun (_ : Hp) (n : PySem.Str) v => v = V.str n) (stays_A K) stays_str (fun t => t.nm) rfl hS hb nD1 (sz (by omega)) (fun _ => rfl) (fun i x t Hc hti hF eH Q1 hQ => ?_) (fun Hd ys e hD hr => ?_)
  · obtain ⟨c, w', rfl, hc⟩ := hF
    exact ⟨_, rfl, c, _, _, _, rfl, rfl, hc, at0, hQ _ _ (Same.refl Hc) rfl⟩
  · have hy := rows_strs (H := Hd) hr
    subst hy
    exact ⟨.inl ⟨rfl, _, lstS hD⟩, _, rfl, index_str (lstS hD) hn (q Hd e)⟩
/-! ### compares -/
abbrev s_compares : Stmt := top 13
abbrev nm_compares : List PySem.Str := ["value", "operator", "number"]
theorem sc_compares : FnScope nm_compares ["value", "operator", "number"] (defScope s_compares) := ⟨rfl, rfl, rfl, by decide +kernel, rfl, by decide +kernel, by decide +kernel⟩
def spCompares : Sp := fun vs H Q _ => ∃ (x n : Int) (o : Cp), vs = [.int x, .str o.nm, .int n] ∧ Q (.bl (o.ev x n)) H
theorem ok_compares (D : Dfn K mg "compares" s_compares) (M : Mo K mg) : Callee P w K mg base 1 "compares" ["value", "operator", "number"] spCompares := by
  refine D.ok (fun _ _ _ _ _ _ us hl => match us, hl with | [_, _, _], _ => rfl) sc_compares (fun vs H Q E h => ?_) (fun f cdv A outer s H vs Q E hr h => ?_)
  · obtain ⟨x, n, o, rfl, _⟩ := h
    rfl
  obtain ⟨x, n, o, rfl, q⟩ := h
  refine ⟨_, (pss_cons (ps_if (pt_cmpR op_eq (pv 1) pe_str (nomark _)) (pss_one (ps_ret (pe_cmpR op_lt (pv 0) (pv 2) (nomark _)))) pss_nil)
    (pss_cons (ps_if (pt_cmpR op_eq (pv 1) pe_str (nomark _)) (pss_one (ps_ret (pe_cmpR op_le (pv 0) (pv 2) (nomark _)))) pss_nil)
    (pss_cons (ps_if (pt_cmpR op_eq (pv 1) pe_str (nomark _)) (pss_one (ps_ret (pe_cmpR op_eq (pv 0) (pv 2) (nomark _)))) pss_nil)
    (pss_cons (ps_if (pt_cmpR op_eq (pv 1) pe_str (nomark _)) (pss_one (ps_ret (pe_cmpR op_ne (pv 0) (pv 2) (nomark _)))) pss_nil)
    (pss_cons (ps_if (pt_cmpR op_eq (pv 1) pe_str (nomark _)) (pss_one (ps_ret (pe_cmpR op_ge (pv 0) (pv 2) (nomark _)))) pss_nil)
    (pss_one (ps_ret (pe_cmpR op_gt (pv 0) (pv 2) (nomark _))))))))), ?_⟩
  cases o with
  | lt =>
    refine ⟨_, rfl, rfl, _, rfl, ifT (by decide +kernel) ?_⟩
    exact ⟨_, rfl, _, rfl, _, _, rfl, rfl, q⟩
  | le =>
    refine ⟨_, rfl, rfl, _, rfl, ifF (by decide +kernel) ⟨_, rfl, rfl, _, rfl, ifT (by decide +kernel) ?_⟩⟩
    exact ⟨_, rfl, _, rfl, _, _, rfl, rfl, q⟩
  | eq =>
    refine ⟨_, rfl, rfl, _, rfl, ifF (by decide +kernel) ⟨_, rfl, rfl, _, rfl, ifF (by decide +kernel) ⟨_, rfl, rfl, _, rfl, ifT (by decide +kernel) ?_⟩⟩⟩
    refine ⟨_, rfl, _, rfl, rfl, ?_⟩
    show Q (.bl (decide (V.int x = V.int n))) H
    rw [show decide (V.int x = V.int n) = decide (x = n) by simp]
    exact q
  | ne =>
    refine ⟨_, rfl, rfl, _, rfl, ifF (by decide +kernel) ⟨_, rfl, rfl, _, rfl, ifF (by decide +kernel) ⟨_, rfl, rfl, _, rfl, ifF (by decide +kernel) ⟨_, rfl, rfl, _, rfl, ifT (by decide +kernel) ?_⟩⟩⟩⟩
    refine ⟨_, rfl, _, rfl, rfl, ?_⟩
    show Q (.bl (!decide (V.int x = V.int n))) H
    rw [show decide (V.int x = V.int n) = decide (x = n) by simp]
    exact q
  | ge =>
    refine ⟨_, rfl, rfl, _, rfl, ifF (by decide +kernel) ⟨_, rfl, rfl, _, rfl, ifF (by decide +kernel) ⟨_, rfl, rfl, _, rfl, ifF (by decide +kernel) ⟨_, rfl, rfl, _, rfl, ifF (by decide +kernel) ⟨_, rfl, rfl, _, rfl, ifT (by decide +kernel) ?_⟩⟩⟩⟩⟩
    exact ⟨_, rfl, _, rfl, _, _, rfl, rfl, q⟩
  | gt =>
    refine ⟨_, rfl, rfl, _, rfl, ifF (by decide +kernel) ⟨_, rfl, rfl, _, rfl, ifF (by decide +kernel) ⟨_, rfl, rfl, _, rfl, ifF (by decide +kernel) ⟨_, rfl, rfl, _, rfl, ifF (by decide +kernel) ⟨_, rfl, rfl, _, rfl, ifF (by decide +kernel) ?_⟩⟩⟩⟩⟩
    exact ⟨_, rfl, _, rfl, _, _, rfl, rfl, q⟩
/-! ### holds -/
abbrev s_holds : Stmt := top 14
abbrev nm_holds : List PySem.Str := ["condition", "attributes", "data", "kind", "value"]
theorem sc_holds : FnScope nm_holds ["condition", "attributes", "data"] (defScope s_holds) := ⟨rfl, rfl, rfl, by decide +kernel, rfl, by decide +kernel, by decide +kernel⟩
def spHolds (K : PySem.W.Frag) (d : Nat) : Sp := fun vs H Q _ => ∃ (c : Cnd) (x : V) (pa pd : Addr) (ats : List At) (ds : List Int), vs = [x, .ref pa, .ref pd] ∧ RepC K H c x ∧ c.dp < d ∧ c.In (ats.map (·.nm)) ∧ Dat K H pa pd ats ds ∧ ∀ H', Same H H' → Q (.bl (c.ev (valOf ats ds))) H'
theorem holds_none (D : Dfn K mg "holds" s_holds) : Callee P w K mg base 1 "holds" ["condition", "attributes", "data"] (spHolds K 0) :=
  D.none (fun _ _ _ _ _ _ us hl => match us, hl with | [_, _, _], _ => rfl) fun vs H Q E h => by
    obtain ⟨c, x, pa, pd, ats, ds, _, _, hd, _⟩ := h
    omega
theorem val_at {ats : List At} {ds : List Int} {n : PySem.Str} (hl : ats.length = ds.length) (hn : n ∈ ats.map (·.nm)) : atI (ds.map V.int) (((ats.map (·.nm)).idxOf n : Nat) : Int) = some (.int (valOf ats ds n)) := by
  have hlt := List.idxOf_lt_length_iff.mpr hn
  rw [List.length_map, hl] at hlt
  refine atNat ?_
  rw [List.getElem?_map, List.getElem?_eq_getElem hlt]
  unfold valOf
  rw [List.getD_eq_getElem?_getD, List.getElem?_eq_getElem hlt]
  rfl
theorem holds_step {d : Nat} (D : Dfn K mg "holds" s_holds) (C_holds : Callee P w K mg base (d + 1) "holds" ["condition", "attributes", "data"] (spHolds K d)) (C_compares : Callee P w K mg base 1 "compares" ["value", "operator", "number"] spCompares) (C_attribute_index : Callee P w K mg base 1 "attribute_index" ["attributes", "name"] (spIndex K)) :
    Callee P w K mg base (d + 2) "holds" ["condition", "attributes", "data"] (spHolds K (d + 1)) := by
  refine D.ok (fun _ _ _ _ _ _ us hl => match us, hl with | [_, _, _], _ => rfl) sc_holds (fun vs H Q E h => ?_) (fun f cdv A outer s H vs Q E hr h => ?_)
  · obtain ⟨c, x, pa, pd, ats, ds, rfl, _⟩ := h
    rfl
  obtain ⟨c, x, pa, pd, ats, ds, rfl, hx, hd, hin, hdat, q⟩ := h
  refine ⟨_, (pss_cons (ps_set (i := 3) sc_holds.nd rfl (by first | exact Or.inl rfl | exact Or.inr rfl) (pe_ix ix_tup (pv 0) pe_int (fun _ _ => rfl)))
    (pss_cons (ps_if (pt_cmpR op_eq (pv 3) pe_str (nomark _)) (pss_cons (ps_set (i := 4) sc_holds.nd rfl (by first | exact Or.inl rfl | exact Or.inr rfl) (pe_ix ix_tup (pv 2) (pe_callC C_attribute_index (hr.mono (by omega)) (by rfl) (pa_cons (pv 1) (pa_cons (pe_ix ix_tup (pv 0) pe_int (fun _ _ => rfl)) pa_nil))) (fun _ _ => rfl)))
    (pss_one (ps_ret (pe_callC C_compares (hr.mono (by omega)) (by rfl) (pa_cons (pv 4) (pa_cons (pe_ix ix_tup (pv 0) pe_int (fun _ _ => rfl)) (pa_cons (pe_ix ix_tup (pv 0) pe_int (fun _ _ => rfl)) pa_nil))))))) pss_nil)
    (pss_cons (ps_if (pt_cmpR op_eq (pv 3) pe_str (nomark _)) (pss_one (ps_ret (pe_not (pe_callC C_holds (hr.mono (by omega)) (by rfl) (pa_cons (pe_ix ix_tup (pv 0) pe_int (fun _ _ => rfl)) (pa_cons (pv 1) (pa_cons (pv 2) pa_nil))))))) pss_nil)
    (pss_cons (ps_if (pt_cmpR op_eq (pv 3) pe_str (nomark _)) (pss_one (ps_ret (pe_and (pe_callC C_holds (hr.mono (by omega)) (by rfl) (pa_cons (pe_ix ix_tup (pv 0) pe_int (fun _ _ => rfl)) (pa_cons (pv 1) (pa_cons (pv 2) pa_nil)))) (pe_one (pe_callC C_holds (hr.mono (by omega)) (by rfl) (pa_cons (pe_ix ix_tup (pv 0) pe_int (fun _ _ => rfl)) (pa_cons (pv 1) (pa_cons (pv 2) pa_nil)))))))) pss_nil)
    (pss_one (ps_ret (pe_or (pe_callC C_holds (hr.mono (by omega)) (by rfl) (pa_cons (pe_ix ix_tup (pv 0) pe_int (fun _ _ => rfl)) (pa_cons (pv 1) (pa_cons (pv 2) pa_nil)))) (pe_one (pe_callC C_holds (hr.mono (by omega)) (by rfl) (pa_cons (pe_ix ix_tup (pv 0) pe_int (fun _ _ => rfl)) (pa_cons (pv 1) (pa_cons (pv 2) pa_nil)))))))))))), ?_⟩
  cases c with
  | cmp n o i =>
    obtain ⟨a, rfl, ha⟩ := hx
    obtain ⟨xs, hpa, hrows⟩ := hdat.ex
    refine ⟨_, rfl, a, _, _, _, rfl, rfl, ha, at0, ?_⟩
    refine ⟨_, rfl, rfl, _, rfl, ifT (by decide +kernel) ?_⟩
    refine ⟨_, rfl, _, rfl, _, rfl, a, _, _, _, rfl, rfl, ha, at1, pa, xs, ats, n, rfl, hpa, hrows, hdat.few, hin, fun H1 e1 => ?_⟩
    refine ⟨pd, _, _, _, rfl, rfl, same_tup e1 hdat.data, val_at hdat.len hin, ?_⟩
    refine ⟨_, rfl, _, rfl, a, _, _, _, rfl, rfl, same_tup e1 ha, at2, _, rfl, a, _, _, _, rfl, rfl, same_tup e1 ha, at3, ?_⟩
    exact ⟨_, _, o, rfl, q H1 e1⟩
  | neg c =>
    obtain ⟨a, u, rfl, ha, hu⟩ := hx
    simp only [Cnd.dp] at hd
    refine ⟨_, rfl, a, _, _, _, rfl, rfl, ha, at0, ?_⟩
    refine ⟨_, rfl, rfl, _, rfl, ifF (by decide +kernel) ⟨_, rfl, rfl, _, rfl, ifT (by decide +kernel) ?_⟩⟩
    exact ⟨_, rfl, a, _, _, _, rfl, rfl, ha, at1, _, rfl, _, rfl, c, u, pa, pd, ats, ds, rfl, hu, by omega, hin, hdat, fun H1 e1 => ⟨_, rfl, q H1 e1⟩⟩
  | con c1 c2 =>
    obtain ⟨a, u, v, rfl, ha, hu, hv⟩ := hx
    simp only [Cnd.dp] at hd
    refine ⟨_, rfl, a, _, _, _, rfl, rfl, ha, at0, ?_⟩
    refine ⟨_, rfl, rfl, _, rfl, ifF (by decide +kernel) ⟨_, rfl, rfl, _, rfl, ifF (by decide +kernel) ⟨_, rfl, rfl, _, rfl, ifT (by decide +kernel) ?_⟩⟩⟩
    refine ⟨_, rfl, a, _, _, _, rfl, rfl, ha, at1, _, rfl, _, rfl, c1, u, pa, pd, ats, ds, rfl, hu, by omega, hin.1, hdat, fun H1 e1 => ⟨_, rfl, ifB (fun h1 => ?_) (fun h1 => ?_)⟩⟩
    · refine ⟨_, rfl, a, _, _, _, rfl, rfl, same_tup e1 ha, at2, _, rfl, _, rfl, c2, v, pa, pd, ats, ds, rfl, hv.same e1, by omega, hin.2, hdat.same e1, fun H2 e2 => ?_⟩
      have z := q H2 (e1.trans e2)
      simp only [Cnd.ev, h1, Bool.true_and] at z
      exact z
    · have z := q H1 e1
      simp only [Cnd.ev, h1, Bool.false_and] at z
      exact z
  | dis c1 c2 =>
    obtain ⟨a, u, v, rfl, ha, hu, hv⟩ := hx
    simp only [Cnd.dp] at hd
    refine ⟨_, rfl, a, _, _, _, rfl, rfl, ha, at0, ?_⟩
    refine ⟨_, rfl, rfl, _, rfl, ifF (by decide +kernel) ⟨_, rfl, rfl, _, rfl, ifF (by decide +kernel) ⟨_, rfl, rfl, _, rfl, ifF (by decide +kernel) ?_⟩⟩⟩
    refine ⟨_, rfl, a, _, _, _, rfl, rfl, ha, at1, _, rfl, _, rfl, c1, u, pa, pd, ats, ds, rfl, hu, by omega, hin.1, hdat, fun H1 e1 => ⟨_, rfl, ifB (fun h1 => ?_) (fun h1 => ?_)⟩⟩
    · have z := q H1 e1
      simp only [Cnd.ev, h1, Bool.true_or] at z
      exact z
    · refine ⟨_, rfl, a, _, _, _, rfl, rfl, same_tup e1 ha, at2, _, rfl, _, rfl, c2, v, pa, pd, ats, ds, rfl, hv.same e1, by omega, hin.2, hdat.same e1, fun H2 e2 => ?_⟩
      have z := q H2 (e1.trans e2)
      simp only [Cnd.ev, h1, Bool.false_or] at z
      exact z
theorem ok_holds (D : Dfn K mg "holds" s_holds) (C_compares : Callee P w K mg base 1 "compares" ["value", "operator", "number"] spCompares) (C_attribute_index : Callee P w K mg base 1 "attribute_index" ["attributes", "name"] (spIndex K)) : ∀ d : Nat, Callee P w K mg base (d + 1) "holds" ["condition", "attributes", "data"] (spHolds K d)
  | 0 => holds_none D
  | d + 1 => holds_step D (ok_holds D C_compares C_attribute_index d) C_compares C_attribute_index
/-! ### rest_of -/
def RepT (K : PySem.W.Frag) (H : Hp) : T → V → Prop
  | .act n, v => ∃ a x, v = .ref a ∧ SqT K H a [.str "activity", .int n, x]
  | .sil, v => ∃ a x, v = .ref a ∧ SqT K H a [.str "silent", x]
  | .bin k l r, v => ∃ a z x y, v = .ref a ∧ SqT K H a [.str k.nm, z, x, y] ∧ RepT K H l x ∧ RepT K H r y
  | .wh c t, v => ∃ a z x y, v = .ref a ∧ SqT K H a [.str "when", z, x, y] ∧ RepC K H c x ∧ RepT K H t y
theorem RepT.te {K : PySem.W.Frag} {H H' : Hp} (e : Tk H H') : ∀ {t : T} {v : V}, RepT K H t v → RepT K H' t v
  | .act n, v, ⟨a, x, hv, h⟩ => ⟨a, x, hv, e.sq h⟩
  | .sil, v, ⟨a, x, hv, h⟩ => ⟨a, x, hv, e.sq h⟩
  | .bin k l r, v, ⟨a, z, x, y, hv, h, h1, h2⟩ => ⟨a, z, x, y, hv, e.sq h, RepT.te e h1, RepT.te e h2⟩
  | .wh c t, v, ⟨a, z, x, y, hv, h, h1, h2⟩ => ⟨a, z, x, y, hv, e.sq h, RepC.te e h1, RepT.te e h2⟩
theorem RepT.same {K : PySem.W.Frag} {H H' : Hp} {t : T} {v : V} (h : RepT K H t v) (e : Same H H') : RepT K H' t v := h.te (te_same e)
def T.dp : T → Nat
  | .act _ => 0
  | .sil => 0
  | .bin _ l r => max l.dp r.dp + 1
  | .wh _ t => t.dp + 1
/-- conditions: of these names, none deep -/
def T.Ok (ns : List PySem.Str) : T → Prop
  | .act _ => True
  | .sil => True
  | .bin _ l r => l.Ok ns ∧ r.Ok ns
  | .wh c t => c.In ns ∧ c.dp < 20 ∧ t.Ok ns
def RepO (K : PySem.W.Frag) (H : Hp) : Option R → V → Prop
  | none, v => v = .non
  | some r, v => RepR K H r v
theorem rest_dp (ev : Cnd → Bool) : ∀ (t : T) (r : R), restOf ev t = some r → dpR r ≤ t.dp
  | .act n, r, h => by
    cases h
    exact Nat.le_refl _
  | .sil, r, h => by
    cases h
    exact Nat.le_refl _
  | .wh c t, r, h => by
    simp only [restOf] at h
    split at h
    · exact Nat.le_trans (rest_dp ev t r h) (Nat.le_succ _)
    · cases h
  | .bin k a b, r, h => by
    have ha := rest_dp ev a
    have hb := rest_dp ev b
    simp only [restOf] at h
    simp only [T.dp]
    generalize restOf ev a = oa at h ha
    generalize restOf ev b = ob at h hb
    cases oa with
    | none =>
      simp only [joinO] at h
      split at h
      · have := hb r h
        omega
      · cases h
    | some x =>
      have hx := ha x rfl
      cases ob with
      | none =>
        simp only [joinO] at h
        split at h
        · cases h
          omega
        · cases h
      | some y =>
        have hy := hb y rfl
        simp only [joinO] at h
        cases h
        have := dp_joined k x y
        omega
abbrev s_rest_of : Stmt := top 18
abbrev nm_rest_of : List PySem.Str := ["tree", "attributes", "data", "kind", "left", "right"]
theorem sc_rest_of : FnScope nm_rest_of ["tree", "attributes", "data"] (defScope s_rest_of) := ⟨rfl, rfl, rfl, by decide +kernel, rfl, by decide +kernel, by decide +kernel⟩
def spRest (K : PySem.W.Frag) (d : Nat) : Sp := fun vs H Q _ => ∃ (t : T) (x : V) (pa pd : Addr) (ats : List At) (ds : List Int), vs = [x, .ref pa, .ref pd] ∧ RepT K H t x ∧ t.dp < d ∧ t.dp ≤ 50 ∧ t.Ok (ats.map (·.nm)) ∧ Dat K H pa pd ats ds ∧ ∀ v H', Same H H' → RepO K H' (restOf (Cnd.ev (valOf ats ds)) t) v → Q v H'
theorem rest_none (D : Dfn K mg "rest_of" s_rest_of) : Callee P w K mg base 21 "rest_of" ["tree", "attributes", "data"] (spRest K 0) :=
  D.none (fun _ _ _ _ _ _ us hl => match us, hl with | [_, _, _], _ => rfl) fun vs H Q E h => by
    obtain ⟨c, x, pa, pd, ats, ds, _, _, hd, _⟩ := h
    omega
theorem RepR.non {H : Hp} {r : R} : ¬ RepR K H r .non := by
  cases r with
  | step n => exact fun ⟨a, h, _⟩ => by cases h
  | done => exact fun ⟨a, h, _⟩ => by cases h
  | bin k l r => exact fun ⟨a, x, y, h, _⟩ => by cases h
theorem RepO.te {H H' : Hp} {o : Option R} {v : V} (h : RepO K H o v) (e : Tk H H') : RepO K H' o v := by
  cases o with
  | none => exact h
  | some r => exact RepR.te e h
theorem rest_step {d : Nat} (D : Dfn K mg "rest_of" s_rest_of) (M : Mo K mg) (C_rest_of : Callee P w K mg base (d + 21) "rest_of" ["tree", "attributes", "data"] (spRest K d)) (C_holds : Callee P w K mg base 21 "holds" ["condition", "attributes", "data"] (spHolds K 20)) (C_joined : Callee P w K mg base 1 "joined" ["kind", "left", "right"] (spJoined K)) :
    Callee P w K mg base (d + 22) "rest_of" ["tree", "attributes", "data"] (spRest K (d + 1)) := by
  refine D.ok (fun _ _ _ _ _ _ us hl => match us, hl with | [_, _, _], _ => rfl) sc_rest_of (fun vs H Q E h => ?_) (fun f cdv A outer s H vs Q E hr h => ?_)
  · obtain ⟨c, x, pa, pd, ats, ds, rfl, _⟩ := h
    rfl
  obtain ⟨t, x, pa, pd, ats, ds, rfl, hx, hd, h50, hok, hdat, q⟩ := h
  refine ⟨_, (pss_cons (ps_set (i := 3) sc_rest_of.nd rfl (by first | exact Or.inl rfl | exact Or.inr rfl) (pe_ix ix_tup (pv 0) pe_int (fun _ _ => rfl)))
    (pss_cons (ps_if (pt_cmpR op_eq (pv 3) pe_str (nomark _)) (pss_one (ps_ret (pe_tup (pa_cons pe_str (pa_cons (pe_ix ix_tup (pv 0) pe_int (fun _ _ => rfl)) pa_nil))))) pss_nil)
    (pss_cons (ps_if (pt_cmpR op_eq (pv 3) pe_str (nomark _)) (pss_one (ps_ret (pe_glob (v := .ref (He.ga K "DONE")) (by rfl) M.done rfl))) pss_nil)
    (pss_cons (ps_if (pt_cmpR op_eq (pv 3) pe_str (nomark _)) (pss_cons (ps_if (pt_not (pt_val (pe_callC C_holds (hr.mono (by omega)) (by rfl) (pa_cons (pe_ix ix_tup (pv 0) pe_int (fun _ _ => rfl)) (pa_cons (pv 1) (pa_cons (pv 2) pa_nil)))))) (pss_one (ps_ret pe_non)) pss_nil)
    (pss_one (ps_ret (pe_callC C_rest_of (hr.mono (by omega)) (by rfl) (pa_cons (pe_ix ix_tup (pv 0) pe_int (fun _ _ => rfl)) (pa_cons (pv 1) (pa_cons (pv 2) pa_nil))))))) pss_nil)
    (pss_cons (ps_set (i := 4) sc_rest_of.nd rfl (by first | exact Or.inl rfl | exact Or.inr rfl) (pe_callC C_rest_of (hr.mono (by omega)) (by rfl) (pa_cons (pe_ix ix_tup (pv 0) pe_int (fun _ _ => rfl)) (pa_cons (pv 1) (pa_cons (pv 2) pa_nil)))))
    (pss_cons (ps_set (i := 5) sc_rest_of.nd rfl (by first | exact Or.inl rfl | exact Or.inr rfl) (pe_callC C_rest_of (hr.mono (by omega)) (by rfl) (pa_cons (pe_ix ix_tup (pv 0) pe_int (fun _ _ => rfl)) (pa_cons (pv 1) (pa_cons (pv 2) pa_nil)))))
    (pss_cons (ps_if (PW.pt (pw_and (pt_cmpR op_eq (pv 3) pe_str (nomark _)) (pw_and1 (pt_cmpR op_isN (pv 4) pe_non (nomark _))))) (pss_one (ps_ret (pv 5))) pss_nil)
    (pss_cons (ps_if (PW.pt (pw_and (pt_cmpR op_isN (pv 5) pe_non (nomark _)) (pw_and1 (PW.pt (pw_or (pt_cmpR op_eq (pv 3) pe_str (nomark _)) (pw_or1 (pt_cmpR op_eq (pv 3) pe_str (nomark _)))))))) (pss_one (ps_ret (pv 4))) pss_nil)
    (pss_cons (ps_if (PW.pt (pw_or (pt_cmpR op_isN (pv 4) pe_non (nomark _)) (pw_or1 (pt_cmpR op_isN (pv 5) pe_non (nomark _))))) (pss_one (ps_ret pe_non)) pss_nil)
    (pss_one (ps_ret (pe_callC C_joined (hr.mono (by omega)) (by rfl) (pa_cons (pv 3) (pa_cons (pv 4) (pa_cons (pv 5) pa_nil))))))))))))))), ?_⟩
  cases t with
  | act n =>
    obtain ⟨a, u, rfl, ha⟩ := hx
    refine ⟨_, rfl, a, _, _, _, rfl, rfl, ha, at0, ?_⟩
    refine ⟨_, rfl, rfl, _, rfl, ifT (by decide +kernel) ?_⟩
    exact ⟨_, rfl, a, _, _, _, rfl, rfl, ha, at1, tup2, fun p np => q _ _ (same_upd np) ⟨p, rfl, tupS upd_same⟩⟩
  | sil =>
    obtain ⟨a, u, rfl, ha⟩ := hx
    refine ⟨_, rfl, a, _, _, _, rfl, rfl, ha, at0, ?_⟩
    refine ⟨_, rfl, rfl, _, rfl, ifF (by decide +kernel) ⟨_, rfl, rfl, _, rfl, ifT (by decide +kernel) ?_⟩⟩
    exact q _ H (Same.refl H) (M.rep H)
  | wh c t =>
    obtain ⟨a, z, u, v, rfl, ha, hu, hv⟩ := hx
    simp only [T.dp] at hd h50
    obtain ⟨hin, hcd, hok⟩ := hok
    refine ⟨_, rfl, a, _, _, _, rfl, rfl, ha, at0, ?_⟩
    refine ⟨_, rfl, rfl, _, rfl, ifF (by decide +kernel) ⟨_, rfl, rfl, _, rfl, ifF (by decide +kernel) ⟨_, rfl, rfl, _, rfl, ifT (by decide +kernel) ?_⟩⟩⟩
    refine ⟨_, rfl, a, _, _, _, rfl, rfl, ha, at2, _, rfl, _, rfl, c, u, pa, pd, ats, ds, rfl, hu, by omega, hin, hdat, fun H1 e1 => ⟨_, rfl, ?_⟩⟩
    cases hc : c.ev (valOf ats ds) with
    | true =>
      refine iteF ?_
      refine ⟨_, rfl, a, _, _, _, rfl, rfl, same_tup e1 ha, at3, _, rfl, _, rfl, t, v, pa, pd, ats, ds, rfl, hv.same e1, by omega, by omega, hok, hdat.same e1, fun r H2 e2 hr2 => q r H2 (e1.trans e2) ?_⟩
      simp only [restOf, hc, if_true]
      exact hr2
    | false =>
      refine iteT ?_
      refine q _ H1 e1 ?_
      simp only [restOf, hc, Bool.false_eq_true, if_false]
      exact rfl
  | bin k l r =>
    obtain ⟨a, z, u, v, rfl, ha, hu, hv⟩ := hx
    simp only [T.dp] at hd h50
    obtain ⟨okl, okr⟩ := hok
    refine ⟨_, rfl, a, _, _, _, rfl, rfl, ha, at0, ?_⟩
    refine ⟨_, rfl, rfl, _, rfl, ifF (by cases k <;> decide +kernel) ⟨_, rfl, rfl, _, rfl, ifF (by cases k <;> decide +kernel) ⟨_, rfl, rfl, _, rfl, ifF (by cases k <;> decide +kernel) ?_⟩⟩⟩
    refine ⟨_, rfl, a, _, _, _, rfl, rfl, ha, at2, _, rfl, _, rfl, l, u, pa, pd, ats, ds, rfl, hu, by omega, by omega, okl, hdat, fun x H1 e1 hx => ?_⟩
    refine ⟨_, rfl, a, _, _, _, rfl, rfl, same_tup e1 ha, at3, _, rfl, _, rfl, r, v, pa, pd, ats, ds, rfl, hv.same e1, by omega, by omega, okr, hdat.same e1, fun y H2 e2 hy => ?_⟩
    have hx2 := RepO.te hx (te_same e2)
    have e12 := e1.trans e2
    have hdl := rest_dp (Cnd.ev (valOf ats ds)) l
    have hdr := rest_dp (Cnd.ev (valOf ats ds)) r
    have hq : ∀ v H', Same H H' → RepO K H' (joinO k (restOf (Cnd.ev (valOf ats ds)) l) (restOf (Cnd.ev (valOf ats ds)) r)) v → Q v H' := q
    clear q hx
    generalize restOf (Cnd.ev (valOf ats ds)) l = ol at hx2 hdl hq
    generalize restOf (Cnd.ev (valOf ats ds)) r = or at hy hdr hq
    have nx : ∀ {r : R}, RepR K H2 r x → ¬ x = V.non := fun h z => RepR.non (z ▸ h)
    have ny : ∀ {r : R}, RepR K H2 r y → ¬ y = V.non := fun h z => RepR.non (z ▸ h)
    cases k with
    | seq =>
      cases ol with
      | none =>
        cases or with
        | none => exact ⟨_, rfl, rfl, _, rfl, ifF (by decide +kernel) (iteF ⟨_, rfl, rfl, _, rfl, ifT hy ⟨_, rfl, rfl, _, rfl, ifF (by decide +kernel) ⟨_, rfl, rfl, _, rfl, ifF (by decide +kernel) ⟨_, rfl, rfl, _, rfl, ifT hx2 (iteT (hq _ H2 e12 (by simp [joinO, RepO])))⟩⟩⟩⟩)⟩
        | some xr => exact ⟨_, rfl, rfl, _, rfl, ifF (by decide +kernel) (iteF ⟨_, rfl, rfl, _, rfl, ifF (ny hy) (iteF ⟨_, rfl, rfl, _, rfl, ifT hx2 (iteT (hq _ H2 e12 (by simp [joinO, RepO])))⟩)⟩)⟩
      | some xl =>
        cases or with
        | none => exact ⟨_, rfl, rfl, _, rfl, ifF (by decide +kernel) (iteF ⟨_, rfl, rfl, _, rfl, ifT hy ⟨_, rfl, rfl, _, rfl, ifF (by decide +kernel) ⟨_, rfl, rfl, _, rfl, ifF (by decide +kernel) ⟨_, rfl, rfl, _, rfl, ifF (nx hx2) ⟨_, rfl, rfl, _, rfl, ifT hy (hq _ H2 e12 (by simp [joinO, RepO]))⟩⟩⟩⟩⟩)⟩
        | some xr => exact ⟨_, rfl, rfl, _, rfl, ifF (by decide +kernel) (iteF ⟨_, rfl, rfl, _, rfl, ifF (ny hy) (iteF ⟨_, rfl, rfl, _, rfl, ifF (nx hx2) ⟨_, rfl, rfl, _, rfl, ifF (ny hy) ⟨_, rfl, _, rfl, _, rfl, .seq, xl, xr, x, y, rfl, hx2, hy, by have := hdl xl rfl; omega, by have := hdr xr rfl; omega, fun v H3 e3 hj => hq v H3 (e12.trans e3) hj⟩⟩⟩)⟩)⟩
    | cho =>
      cases ol with
      | none =>
        cases or with
        | none => exact ⟨_, rfl, rfl, _, rfl, ifT (by decide +kernel) ⟨_, rfl, rfl, _, rfl, ifT hx2 ⟨_, rfl, hq _ H2 e12 (by simpa [joinO] using hy)⟩⟩⟩
        | some xr => exact ⟨_, rfl, rfl, _, rfl, ifT (by decide +kernel) ⟨_, rfl, rfl, _, rfl, ifT hx2 ⟨_, rfl, hq _ H2 e12 (by simpa [joinO] using hy)⟩⟩⟩
      | some xl =>
        cases or with
        | none => exact ⟨_, rfl, rfl, _, rfl, ifT (by decide +kernel) ⟨_, rfl, rfl, _, rfl, ifF (nx hx2) ⟨_, rfl, rfl, _, rfl, ifT hy ⟨_, rfl, rfl, _, rfl, ifT (by decide +kernel) (iteT ⟨_, rfl, hq _ H2 e12 (by simpa [joinO, RepO] using hx2)⟩)⟩⟩⟩⟩
        | some xr => exact ⟨_, rfl, rfl, _, rfl, ifT (by decide +kernel) ⟨_, rfl, rfl, _, rfl, ifF (nx hx2) ⟨_, rfl, rfl, _, rfl, ifF (ny hy) (iteF ⟨_, rfl, rfl, _, rfl, ifF (nx hx2) ⟨_, rfl, rfl, _, rfl, ifF (ny hy) ⟨_, rfl, _, rfl, _, rfl, .cho, xl, xr, x, y, rfl, hx2, hy, by have := hdl xl rfl; omega, by have := hdr xr rfl; omega, fun v H3 e3 hj => hq v H3 (e12.trans e3) hj⟩⟩⟩)⟩⟩⟩
    | par =>
      cases ol with
      | none =>
        cases or with
        | none => exact ⟨_, rfl, rfl, _, rfl, ifF (by decide +kernel) (iteF ⟨_, rfl, rfl, _, rfl, ifT hy ⟨_, rfl, rfl, _, rfl, ifF (by decide +kernel) ⟨_, rfl, rfl, _, rfl, ifF (by decide +kernel) ⟨_, rfl, rfl, _, rfl, ifT hx2 (iteT (hq _ H2 e12 (by simp [joinO, RepO])))⟩⟩⟩⟩)⟩
        | some xr => exact ⟨_, rfl, rfl, _, rfl, ifF (by decide +kernel) (iteF ⟨_, rfl, rfl, _, rfl, ifF (ny hy) (iteF ⟨_, rfl, rfl, _, rfl, ifT hx2 (iteT (hq _ H2 e12 (by simp [joinO, RepO])))⟩)⟩)⟩
      | some xl =>
        cases or with
        | none => exact ⟨_, rfl, rfl, _, rfl, ifF (by decide +kernel) (iteF ⟨_, rfl, rfl, _, rfl, ifT hy ⟨_, rfl, rfl, _, rfl, ifF (by decide +kernel) ⟨_, rfl, rfl, _, rfl, ifF (by decide +kernel) ⟨_, rfl, rfl, _, rfl, ifF (nx hx2) ⟨_, rfl, rfl, _, rfl, ifT hy (hq _ H2 e12 (by simp [joinO, RepO]))⟩⟩⟩⟩⟩)⟩
        | some xr => exact ⟨_, rfl, rfl, _, rfl, ifF (by decide +kernel) (iteF ⟨_, rfl, rfl, _, rfl, ifF (ny hy) (iteF ⟨_, rfl, rfl, _, rfl, ifF (nx hx2) ⟨_, rfl, rfl, _, rfl, ifF (ny hy) ⟨_, rfl, _, rfl, _, rfl, .par, xl, xr, x, y, rfl, hx2, hy, by have := hdl xl rfl; omega, by have := hdr xr rfl; omega, fun v H3 e3 hj => hq v H3 (e12.trans e3) hj⟩⟩⟩)⟩)⟩
    | loop =>
      cases ol with
      | none =>
        cases or with
        | none => exact ⟨_, rfl, rfl, _, rfl, ifF (by decide +kernel) (iteF ⟨_, rfl, rfl, _, rfl, ifT hy ⟨_, rfl, rfl, _, rfl, ifF (by decide +kernel) ⟨_, rfl, rfl, _, rfl, ifT (by decide +kernel) ⟨_, rfl, hq _ H2 e12 (by simpa [joinO, RepO] using hx2)⟩⟩⟩⟩)⟩
        | some xr => exact ⟨_, rfl, rfl, _, rfl, ifF (by decide +kernel) (iteF ⟨_, rfl, rfl, _, rfl, ifF (ny hy) (iteF ⟨_, rfl, rfl, _, rfl, ifT hx2 (iteT (hq _ H2 e12 (by simp [joinO, RepO])))⟩)⟩)⟩
      | some xl =>
        cases or with
        | none => exact ⟨_, rfl, rfl, _, rfl, ifF (by decide +kernel) (iteF ⟨_, rfl, rfl, _, rfl, ifT hy ⟨_, rfl, rfl, _, rfl, ifF (by decide +kernel) ⟨_, rfl, rfl, _, rfl, ifT (by decide +kernel) ⟨_, rfl, hq _ H2 e12 (by simpa [joinO, RepO] using hx2)⟩⟩⟩⟩)⟩
        | some xr => exact ⟨_, rfl, rfl, _, rfl, ifF (by decide +kernel) (iteF ⟨_, rfl, rfl, _, rfl, ifF (ny hy) (iteF ⟨_, rfl, rfl, _, rfl, ifF (nx hx2) ⟨_, rfl, rfl, _, rfl, ifF (ny hy) ⟨_, rfl, _, rfl, _, rfl, .loop, xl, xr, x, y, rfl, hx2, hy, by have := hdl xl rfl; omega, by have := hdr xr rfl; omega, fun v H3 e3 hj => hq v H3 (e12.trans e3) hj⟩⟩⟩)⟩)⟩
theorem ok_rest (D : Dfn K mg "rest_of" s_rest_of) (M : Mo K mg) (C_holds : Callee P w K mg base 21 "holds" ["condition", "attributes", "data"] (spHolds K 20)) (C_joined : Callee P w K mg base 1 "joined" ["kind", "left", "right"] (spJoined K)) : ∀ d : Nat, Callee P w K mg base (d + 21) "rest_of" ["tree", "attributes", "data"] (spRest K d)
  | 0 => (rest_none D).mono (Nat.le_add_left _ _)
  | d + 1 => (rest_step D M (ok_rest D M C_holds C_joined d) C_holds C_joined).mono (by omega)
end
end Tf

namespace Tf
open PySem PySem.Spec PyProof.Rows L2 GenW
/-- a for over a list in a generator -/
theorem gfor_list {K : PySem.W.Frag} {a : Addr} {xs : List V} {g : TG} {tb : TGn} {D : GEnds} {ys0 : List V} {σ : L2.St} {H : Hp} (Pv : Nat → List V → L2.St → Hp → Prop) (h0 : Pv 0 ys0 σ H) (hl : ∀ i ys σ H, i ≤ xs.length → Pv i ys σ H → SqL K H a xs)
    (hs : ∀ i x ys σ H, xs[i]? = some x → Pv i ys σ H → g x σ H fun σ2 H2 => tb { D with nx := Pv (i + 1), ct := Pv (i + 1), bk := D.nx } ys σ2 H2) (hd : ∀ ys σ H, Pv xs.length ys σ H → D.nx ys σ H) :
    ∃ W : Nat → Nat → List V → L2.St → Hp → Prop, (∃ m, W 0 m ys0 σ H) ∧ ∀ i m ys σ H, W i m ys σ H →
      ((Itl K a).stop i H ∧ D.nx ys σ H) ∨ ((Itl K a).go i H ∧ ∃ N : List V → L2.St → Hp → Prop, (∀ ys' σ' H', N ys' σ' H' → ∃ m', m' < m ∧ W (i + 1) m' ys' σ' H') ∧ ∀ x H', (Itl K a).yld i H x H' → g x σ H' fun σ2 H2 => tb { D with nx := N, ct := N, bk := D.nx } ys σ2 H2) := by
  refine ⟨fun i m ys σ H => m = xs.length - i ∧ i ≤ xs.length ∧ Pv i ys σ H, ⟨xs.length, by simp, Nat.zero_le _, h0⟩, ?_⟩
  rintro i m ys σ H ⟨rfl, hi, p⟩
  have q := hl i ys σ H hi p
  by_cases hlt : i < xs.length
  · refine .inr ⟨⟨xs, xs[i], q, by simp [hlt]⟩, Pv (i + 1), fun ys' σ' H' p' => ⟨xs.length - (i + 1), by omega, rfl, hlt, p'⟩, fun x H' y => ?_⟩
    obtain ⟨e, y⟩ := y
    subst e
    exact hs i x ys σ _ (y xs q) p
  · have e : i = xs.length := by omega
    subst e
    exact .inl ⟨⟨xs, q, Nat.le_refl _⟩, hd ys σ H p⟩
theorem gfor_range {lo : Int} {n : Nat} {g : TG} {tb : TGn} {D : GEnds} {ys0 : List V} {σ : L2.St} {H : Hp} (Pv : Nat → List V → L2.St → Hp → Prop) (h0 : Pv 0 ys0 σ H)
    (hs : ∀ i ys σ H, i < n → Pv i ys σ H → g (.int (lo + i)) σ H fun σ2 H2 => tb { D with nx := Pv (i + 1), ct := Pv (i + 1), bk := D.nx } ys σ2 H2) (hd : ∀ ys σ H, Pv n ys σ H → D.nx ys σ H) :
    ∃ W : Nat → Nat → List V → L2.St → Hp → Prop, (∃ m, W 0 m ys0 σ H) ∧ ∀ i m ys σ H, W i m ys σ H →
      ((Itr lo n).stop i H ∧ D.nx ys σ H) ∨ ((Itr lo n).go i H ∧ ∃ N : List V → L2.St → Hp → Prop, (∀ ys' σ' H', N ys' σ' H' → ∃ m', m' < m ∧ W (i + 1) m' ys' σ' H') ∧ ∀ x H', (Itr lo n).yld i H x H' → g x σ H' fun σ2 H2 => tb { D with nx := N, ct := N, bk := D.nx } ys σ2 H2) := by
  refine ⟨fun i m ys σ H => m = n - i ∧ i ≤ n ∧ Pv i ys σ H, ⟨n, by simp, Nat.zero_le _, h0⟩, ?_⟩
  rintro i m ys σ H ⟨rfl, hi, p⟩
  by_cases hlt : i < n
  · refine .inr ⟨hlt, Pv (i + 1), fun ys' σ' H' p' => ⟨n - (i + 1), by omega, rfl, hlt, p'⟩, fun x H' y => ?_⟩
    obtain ⟨e, y⟩ := y
    subst e y
    exact hs i ys σ _ hlt p
  · have e : i = n := by omega
    subst e
    exact .inl ⟨Nat.le_refl _, hd ys σ H p⟩
/-- a word of numbers -/
def RepW (K : PySem.W.Frag) (H : Hp) (u : Wd) (v : V) : Prop := ∃ p, v = .ref p ∧ SqT K H p (u.map V.int)
theorem stays_W (K : PySem.W.Frag) : Stays (RepW K) := fun _ _ _ _ e ⟨p, hv, h⟩ => ⟨p, hv, e.sq h⟩
/-- runs_of's levels are small -/
structure LevSmall (r : Option R) (most : Nat) : Prop where
  few : most ≤ 100
  each : ∀ n ≤ most, ∀ q ∈ lev r most n, Small q.2 ∧ q.1.length ≤ 1000
  len : ∀ n ≤ most, (lev r most n).length ≤ 100000
  tot : (runs r most).length ≤ 100000
def outsUp (r : Option R) (most i : Nat) : List Wd := (List.range i).flatMap fun n => outs (lev r most n)
theorem outsUp_succ (r : Option R) (most i : Nat) : outsUp r most (i + 1) = outsUp r most i ++ outs (lev r most i) := by
  unfold outsUp
  rw [List.range_succ, List.flatMap_append, List.flatMap_cons, List.flatMap_nil, List.append_nil]
theorem outsUp_le (r : Option R) (most : Nat) {i j : Nat} (h : i ≤ j) : (outsUp r most i).length ≤ (outsUp r most j).length := by
  induction h with
  | refl => exact Nat.le_refl _
  | step _ ih =>
    rw [outsUp_succ, List.length_append]
    omega
theorem outs_take {lv : Lev} {i : Nat} {q : Wd × List R} (h : lv[i]? = some q) : outs (lv.take (i + 1)) = outs (lv.take i) ++ if q.2.any canEnd = true then [q.1] else [] := by
  unfold outs
  rw [take_succ h, List.filter_append, List.map_append]
  congr 1
  rw [List.filter_cons]
  split
  · rfl
  · rfl
theorem outs_le (lv : Lev) (i : Nat) : (outs (lv.take i)).length ≤ (outs lv).length := by
  have : outs lv = outs (lv.take i) ++ outs (lv.drop i) := by
    unfold outs
    rw [← List.map_append, ← List.filter_append, List.take_append_drop]
  rw [this, List.length_append]
  omega
theorem rows_bls : ∀ {ys : List V} {bs : List Bool}, Rows (fun (b : Bool) v => v = V.bl b) ys bs → ys = bs.map V.bl
  | _, _, .nil => rfl
  | _, _, .cons a t => by
    rw [List.map_cons, ← rows_bls t, a]
section
variable {P : Program} {w : World} {K : PySem.W.Frag} {mg : PySem.Str → Option Value} {base : Heap}
abbrev s_runs_of : Stmt := top 29
abbrev nm_runs_of : List PySem.Str := ["process", "data", "most", "rest", "level", "length", "steps", "rests", "left"]
theorem sc_runs_of : GScope nm_runs_of ["process", "data", "most"] (defScope s_runs_of) := ⟨rfl, rfl, rfl, by decide +kernel, rfl, by decide +kernel, by decide +kernel⟩
def spRuns (K : PySem.W.Frag) : SpG := fun vs H Q _ => ∃ (pr pa pd : Addr) (acts x : V) (t : T) (ats : List At) (ds : List Int) (most : Nat), vs = [.ref pr, .ref pd, .int most] ∧ SqT K H pr [acts, .ref pa, x] ∧ RepT K H t x ∧ t.dp ≤ 50 ∧ t.Ok (ats.map (·.nm)) ∧ Dat K H pa pd ats ds ∧
  LevSmall (restOf (Cnd.ev (valOf ats ds)) t) most ∧ ∀ ys H', Same H H' → Rows (RepW K H') ys (runs (restOf (Cnd.ev (valOf ats ds)) t) most) → Q ys H'
/-- a generator def that keeps a promise, asked with most= -/
structure CalleeG (P : Program) (w : World) (K : PySem.W.Frag) (mg : PySem.Str → Option Value) (base : Heap) (k : Nat) (n : PySem.Str) (ps : List PySem.Str) (np : Nat) (ks : List PySem.Str) (sp : SpG) : Prop where
  ex : ∃ f fd, GFn P w K mg base k f fd ps sp ∧ mg n = some (.ref f) ∧ PySem.W.keepIn K (.ref f) = true ∧ KBn K fd ps np ks (fun us ws => us ++ ws) (fun vs zs => vs ++ zs)
theorem ok_runs {k : Nat} (D : Dfn K mg "runs_of" s_runs_of) (M : Mo K mg) (hk : 60 ≤ k) (C_rest_of : Callee P w K mg base k "rest_of" ["tree", "attributes", "data"] (spRest K 51)) (C_can_end : Callee P w K mg base 60 "can_end" ["rest"] (spCan K 60)) (C_longer : Callee P w K mg base k "longer" ["level", "room"] (spLonger K)) :
    CalleeG P w K mg base (k + 1) "runs_of" ["process", "data", "most"] 2 ["most"] (spRuns K) := by
  obtain ⟨f, fd, F, hmg⟩ := D.ex
  have kp := F.kp
  obtain ⟨oc, od, dV, kV, doc, pm, an, cdv, ct, osl, rfl, lk, hcd, hD, _⟩ := F.ex
  have eD : dV = .none := by
    rcases hD with ⟨_, h⟩ | ⟨e, _⟩
    · exact h
    · exact absurd rfl e
  subst eD
  refine ⟨f, _, gfn_of lk hcd sc_runs_of (fun vs H Q E h => ?_) (fun A outer s H vs Q E pn hr h => ?_), hmg, kp, ⟨fun s us ws _ h1 h2 => ?_, fun r1 r2 => ?_⟩⟩
  · obtain ⟨pr, pa, pd, acts, x, t, ats, ds, most, rfl, _⟩ := h
    rfl
  · obtain ⟨pr, pa, pd, acts, x, t, ats, ds, most, rfl, hpr, hx, h50, hok, hdat, hsm, q⟩ := h
    refine ⟨_, (gss_cons (gs_ps (ps_set (i := 3) sc_runs_of.nd rfl (by first | exact Or.inl rfl | exact Or.inr rfl) (pe_callC C_rest_of (hr.mono (by omega)) (by rfl) (pa_cons (pe_ix ix_tup (pv 0) pe_int (fun _ _ => rfl)) (pa_cons (pe_ix ix_tup (pv 0) pe_int (fun _ _ => rfl)) (pa_cons (pv 1) pa_nil))))))
    (gss_cons (gs_ps (ps_set (i := 4) sc_runs_of.nd rfl (by first | exact Or.inl rfl | exact Or.inr rfl) (pe_lst pa_nil)))
    (gss_cons (gs_ps (ps_if (pt_cmpR op_notN (pv 3) pe_non (nomark _)) (pss_one (ps_set (i := 4) sc_runs_of.nd rfl (by first | exact Or.inl rfl | exact Or.inr rfl) (pe_lst (pa_cons (pe_tup (pa_cons (pe_tup pa_nil) (pa_cons (pe_lst (pa_cons (pv 3) pa_nil)) pa_nil))) pa_nil)))) pss_nil))
    (gss_cons (gs_for owns_gcx rfl (pi_range1 (by rfl) M.range (pa_cons (pe_op op_add (pv 2) pe_int) pa_nil)) (pg_name (i := 5) sc_runs_of.nd rfl (by first | exact Or.inl rfl | exact Or.inr rfl)) (gss_cons (gs_for owns_gcx rfl (pi_list (pv 4)) (pg_tup rfl (pgs_cons (pg_name (i := 6) sc_runs_of.nd rfl (by first | exact Or.inl rfl | exact Or.inr rfl)) (pgs_cons (pg_name (i := 7) sc_runs_of.nd rfl (by first | exact Or.inl rfl | exact Or.inr rfl)) pgs_nil))) (gss_cons (gs_if (pt_val (pe_callB (cr_any rfl) (by rfl) M.any (by decide +kernel) (pa_cons (pe_lc (own := [("left", 8)]) rfl sc_runs_of.nd (pi_list (pv 7)) (blkOk_by (own := [("left", 8)]) (N := nm_runs_of) (sc := defScope s_runs_of) (by decide +kernel)) (fun _ _ _ _ _ => (pg_name (i := 8) sc_runs_of.nd rfl (by first | exact Or.inl rfl | exact Or.inr rfl))) (fun _ _ _ _ _ => pts_nil) (fun _ _ _ _ _ => (pe_callC C_can_end (hr.mono (by omega)) (by rfl) (pa_cons (pv 8) pa_nil)))) pa_nil))) (gss_cons (gs_yield (pv 6))
    gss_nil) gss_nil)
    gss_nil))
    (gss_cons (gs_ps (ps_if (pt_cmpR op_lt (pv 5) (pv 2) (nomark _)) (pss_one (ps_set (i := 4) sc_runs_of.nd rfl (by first | exact Or.inl rfl | exact Or.inr rfl) (pe_callC C_longer (hr.mono (by omega)) (by rfl) (pa_cons (pv 4) (pa_cons (pe_op op_sub (pe_op op_sub (pv 2) (pv 5)) pe_int) pa_nil))))) pss_nil))
    gss_nil)))
    gss_nil)))), ?_⟩
    refine ⟨_, rfl, pr, _, _, _, rfl, rfl, hpr, at2, _, rfl, pr, _, _, _, rfl, rfl, hpr, at1, _, rfl, t, x, pa, pd, ats, ds, rfl, hx, by omega, h50, hok, hdat, fun v H1 e1 hv => ?_⟩
    generalize restOf (Cnd.ev (valOf ats ds)) t = ro at hsm hv q
    refine ⟨Nat.zero_le _, fun p0 np0 => ?_⟩
    have e2 := e1.trans (same_upd (o := .lst []) np0)
    have hq0 : upd H1 p0 (.lst []) p0 = some (.lst []) := upd_same
    have hv2 := RepO.te hv (te_same (same_upd (o := .lst []) np0))
    generalize upd H1 p0 (.lst []) = H2 at e2 hq0 hv2
    refine ⟨_, rfl, rfl, _, rfl, ?_⟩
    have hrange : ((most : Int) + 1).toNat = most + 1 := by omega
    have hm1 := hsm.few
    by_cases hvn : v = .non
    · rw [decide_eq_true hvn]
      refine iteF ?_
      have hro : lev ro most 0 = [] := by
        cases ro with
        | none => rfl
        | some r0 => exact absurd (hvn ▸ hv) RepR.non
      obtain ⟨zs, hq3, hrows⟩ : ∃ zs, H2 p0 = some (.lst zs) ∧ Rows (RepL K H2) zs (lev ro most 0) := ⟨[], hq0, hro ▸ .nil⟩
      have e3 := e2
      refine ⟨_, rfl, _, _, rfl, rfl, _, rfl, by omega, by omega, ?_⟩
      rw [hrange]
      refine gfor_range (fun i ys σ H4 => ∃ lvA xs s5 s6 s7 s8, σ = [some (.ref pr), some (.ref pd), some (.int most), some v, some (.ref lvA), s5, s6, s7, s8] ∧ Same H H4 ∧ H4 lvA = some (.lst xs) ∧ Rows (RepL K H4) xs (lev ro most (min i most)) ∧ Rows (RepW K H4) ys (outsUp ro most i))
        ⟨_, _, _, _, _, _, rfl, e3, hq3, by rw [Nat.zero_min]; exact hrows, .nil⟩ (fun i ys σ H4 hi ⟨lvA, xs, s5, s6, s7, s8, es, e4, hlv, hxs, hys⟩ => ?_) (fun ys σ H4 ⟨lvA, xs, s5, s6, s7, s8, es, e4, hlv, hxs, hys⟩ => q ys H4 e4 hys)
      subst es
      have him : min i most = i := by omega
      rw [him] at hxs
      have hln := hsm.len i (by omega)
      have hlen := hxs.len
      have htot : (outsUp ro most (i + 1)).length ≤ 100000 := Nat.le_trans (outsUp_le ro most hi) hsm.tot
      rw [outsUp_succ, List.length_append] at htot
      refine ⟨_, rfl, lvA, rfl, ⟨_, lstS hlv⟩, gfor_list (xs := xs) (fun j ys σ H5 => ∃ s6 s7 s8, σ = [some (.ref pr), some (.ref pd), some (.int most), some v, some (.ref lvA), some (.int (0 + (i : Int))), s6, s7, s8] ∧ Same H4 H5 ∧ Rows (RepW K H5) ys (outsUp ro most i ++ outs ((lev ro most i).take j)))
        ⟨_, _, _, rfl, Same.refl H4, by rw [List.take_zero]; simpa [outs] using hys⟩ (fun j ys σ H5 _ ⟨_, _, _, _, e5, _⟩ => lstS (e5 _ _ hlv)) (fun j x ys σ H5 hx ⟨s6, s7, s8, es, e5, hys5⟩ => ?_) (fun ys σ H5 ⟨s6, s7, s8, es, e5, hys5⟩ => ?_)⟩
      · subst es
        obtain ⟨⟨u, rs⟩, hqi, hF⟩ := hxs.get hx
        obtain ⟨hsmall, hul⟩ := hsm.each i (by omega) _ (List.mem_of_getElem? hqi)
        obtain ⟨c, pu, b, zs', rfl, hc, hpu, hbz, hzs⟩ := RepL.same e5 hF
        refine ⟨c, _, rfl, hc, rfl, _, _, rfl, _, _, rfl, rfl, ?_⟩
        have hle5 := outs_le (lev ro most i) (j + 1)
        rw [outs_take hqi, List.length_append] at hle5
        refine ⟨_, rfl, b, rfl, ⟨_, lstS hbz⟩, fun D1 nD1 => ?_⟩
        refine lc_map (bs := rs) (RepR K) (fun (_ : Hp) (b : Bool) v => v = V.bl b) (stays_R K) (fun _ _ _ _ _ h => h) canEnd rfl (lstS hbz) hzs nD1 (sz hsmall.len) (fun _ => rfl) (fun i2 x2 r Hc hri hF2 eH Q1 hQ => ?_) (fun H6 ws e6 hD6 hws => ?_)
        · have := hsmall.dp r (List.mem_of_getElem? hri)
          exact ⟨_, rfl, r, x2, rfl, hF2, by omega, fun H' e' => hQ _ H' e' rfl⟩
        have hwb := rows_bls hws
        subst hwb
        refine ⟨D1, rs.map canEnd, rfl, lstS hD6, _, rfl, ?_⟩
        have hany : (rs.map canEnd).any id = rs.any canEnd := by
          rw [List.any_map]
          rfl
        rw [hany]
        have hl5 := hys5.len
        rw [List.length_append] at hl5
        have hys6 := Rows.same (stays_W K) e6 hys5
        refine ifB (fun hany => ?_) (fun hany => ?_)
        · rw [hany, if_pos rfl] at hle5
          simp only [List.length_cons, List.length_nil] at hle5
          refine ⟨szl (by omega), _, rfl, _, _, _, rfl, e5.trans e6, ?_⟩
          rw [outs_take hqi, hany, if_pos rfl, ← List.append_assoc]
          exact hys6.append (.one ⟨pu, rfl, same_tup e6 hpu⟩)
        · refine ⟨_, _, _, rfl, e5.trans e6, ?_⟩
          rw [outs_take hqi, hany, if_neg Bool.false_ne_true, List.append_nil]
          exact hys6
      · subst es
        rw [hlen, List.take_length, ← outsUp_succ] at hys5
        refine ⟨_, rfl, _, rfl, _, _, rfl, rfl, _, rfl, ?_⟩
        by_cases hlt : i < most
        · refine ifT (by omega) ?_
          have hroom : (most : Int) - (0 + (i : Int)) - 1 = ((most - i - 1 : Nat) : Int) := by omega
          refine ⟨_, rfl, _, rfl, _, rfl, _, _, rfl, rfl, _, _, rfl, rfl, ?_⟩
          have hlnx := hsm.len (i + 1) (by omega)
          refine ⟨lvA, xs, lev ro most i, most - i - 1, (by show [V.ref lvA, V.int ((most : Int) - (0 + (i : Int)) - 1)] = _; rw [hroom]), lstS (e5 _ _ hlv), hxs.imp (fun b v => RepL.same e5), hsm.each i (by omega), hlnx, fun H6 p6 ws e6 np6 hp6 hws => ?_⟩
          refine ⟨_, ws, _, _, _, _, rfl, (e4.trans e5).trans e6, hp6, ?_, Rows.same (stays_W K) e6 hys5⟩
          rw [show min (i + 1) most = i + 1 by omega]
          exact hws
        · refine ifF (by omega) ⟨_, xs, _, _, _, _, rfl, e4.trans e5, e5 _ _ hlv, ?_, hys5⟩
          rw [show min (i + 1) most = i by omega]
          exact hxs.imp (fun b v => RepL.same e5)
    · rw [decide_eq_false hvn]
      refine iteT ?_
      obtain ⟨r0, hr0, hrep⟩ : ∃ r0, ro = some r0 ∧ RepR K H2 r0 v := by
        cases ro with
        | none => exact absurd hv hvn
        | some r0 => exact ⟨r0, rfl, hv2⟩
      refine ⟨Nat.zero_le _, fun p1 np1 => ⟨_, rfl, sz (by simp only [List.length_cons, List.length_nil]; omega), fun p2 np2 => ⟨tup2, fun p3 np3 => ⟨sz (by simp only [List.length_cons, List.length_nil]; omega), fun p4 np4 => ?_⟩⟩⟩⟩
      have hrows : Rows (RepL K (upd (upd (upd (upd H2 p1 (.tup [])) p2 (.lst [v])) p3 (.tup [.ref p1, .ref p2])) p4 (.lst [.ref p3]))) [.ref p3] (lev ro most 0) := by
        rw [hr0]
        have s4 := same_upd (o := .lst [.ref p3]) np4
        have s34 := (same_upd (o := .tup [.ref p1, .ref p2]) np3).trans s4
        have s24 := (same_upd (o := .lst [v]) np2).trans s34
        exact .one ⟨p3, p1, p2, [v], rfl, tupS (s4 _ _ upd_same), tupS (s24 _ _ upd_same), s34 _ _ upd_same, .one (hrep.same ((same_upd (o := .tup []) np1).trans s24))⟩
      have hq3 := @upd_same (upd (upd (upd H2 p1 (.tup [])) p2 (.lst [v])) p3 (.tup [.ref p1, .ref p2])) p4 (.lst [.ref p3])
      have e3 : Same H (upd (upd (upd (upd H2 p1 (.tup [])) p2 (.lst [v])) p3 (.tup [.ref p1, .ref p2])) p4 (.lst [.ref p3])) := e2.trans ((same_upd np1).trans ((same_upd np2).trans ((same_upd np3).trans (same_upd np4))))
      generalize upd (upd (upd (upd H2 p1 (.tup [])) p2 (.lst [v])) p3 (.tup [.ref p1, .ref p2])) p4 (.lst [.ref p3]) = H3 at hrows hq3 e3
      generalize [V.ref p3] = zs at hrows hq3
      refine ⟨_, rfl, _, _, rfl, rfl, _, rfl, by omega, by omega, ?_⟩
      rw [hrange]
      refine gfor_range (fun i ys σ H4 => ∃ lvA xs s5 s6 s7 s8, σ = [some (.ref pr), some (.ref pd), some (.int most), some v, some (.ref lvA), s5, s6, s7, s8] ∧ Same H H4 ∧ H4 lvA = some (.lst xs) ∧ Rows (RepL K H4) xs (lev ro most (min i most)) ∧ Rows (RepW K H4) ys (outsUp ro most i))
        ⟨_, _, _, _, _, _, rfl, e3, hq3, by rw [Nat.zero_min]; exact hrows, .nil⟩ (fun i ys σ H4 hi ⟨lvA, xs, s5, s6, s7, s8, es, e4, hlv, hxs, hys⟩ => ?_) (fun ys σ H4 ⟨lvA, xs, s5, s6, s7, s8, es, e4, hlv, hxs, hys⟩ => q ys H4 e4 hys)
      subst es
      have him : min i most = i := by omega
      rw [him] at hxs
      have hln := hsm.len i (by omega)
      have hlen := hxs.len
      have htot : (outsUp ro most (i + 1)).length ≤ 100000 := Nat.le_trans (outsUp_le ro most hi) hsm.tot
      rw [outsUp_succ, List.length_append] at htot
      refine ⟨_, rfl, lvA, rfl, ⟨_, lstS hlv⟩, gfor_list (xs := xs) (fun j ys σ H5 => ∃ s6 s7 s8, σ = [some (.ref pr), some (.ref pd), some (.int most), some v, some (.ref lvA), some (.int (0 + (i : Int))), s6, s7, s8] ∧ Same H4 H5 ∧ Rows (RepW K H5) ys (outsUp ro most i ++ outs ((lev ro most i).take j)))
        ⟨_, _, _, rfl, Same.refl H4, by rw [List.take_zero]; simpa [outs] using hys⟩ (fun j ys σ H5 _ ⟨_, _, _, _, e5, _⟩ => lstS (e5 _ _ hlv)) (fun j x ys σ H5 hx ⟨s6, s7, s8, es, e5, hys5⟩ => ?_) (fun ys σ H5 ⟨s6, s7, s8, es, e5, hys5⟩ => ?_)⟩
      · subst es
        obtain ⟨⟨u, rs⟩, hqi, hF⟩ := hxs.get hx
        obtain ⟨hsmall, hul⟩ := hsm.each i (by omega) _ (List.mem_of_getElem? hqi)
        obtain ⟨c, pu, b, zs', rfl, hc, hpu, hbz, hzs⟩ := RepL.same e5 hF
        refine ⟨c, _, rfl, hc, rfl, _, _, rfl, _, _, rfl, rfl, ?_⟩
        have hle5 := outs_le (lev ro most i) (j + 1)
        rw [outs_take hqi, List.length_append] at hle5
        refine ⟨_, rfl, b, rfl, ⟨_, lstS hbz⟩, fun D1 nD1 => ?_⟩
        refine lc_map (bs := rs) (RepR K) (fun (_ : Hp) (b : Bool) v => v = V.bl b) (stays_R K) (fun _ _ _ _ _ h => h) canEnd rfl (lstS hbz) hzs nD1 (sz hsmall.len) (fun _ => rfl) (fun i2 x2 r Hc hri hF2 eH Q1 hQ => ?_) (fun H6 ws e6 hD6 hws => ?_)
        · have := hsmall.dp r (List.mem_of_getElem? hri)
          exact ⟨_, rfl, r, x2, rfl, hF2, by omega, fun H' e' => hQ _ H' e' rfl⟩
        have hwb := rows_bls hws
        subst hwb
        refine ⟨D1, rs.map canEnd, rfl, lstS hD6, _, rfl, ?_⟩
        have hany : (rs.map canEnd).any id = rs.any canEnd := by
          rw [List.any_map]
          rfl
        rw [hany]
        have hl5 := hys5.len
        rw [List.length_append] at hl5
        have hys6 := Rows.same (stays_W K) e6 hys5
        refine ifB (fun hany => ?_) (fun hany => ?_)
        · rw [hany, if_pos rfl] at hle5
          simp only [List.length_cons, List.length_nil] at hle5
          refine ⟨szl (by omega), _, rfl, _, _, _, rfl, e5.trans e6, ?_⟩
          rw [outs_take hqi, hany, if_pos rfl, ← List.append_assoc]
          exact hys6.append (.one ⟨pu, rfl, same_tup e6 hpu⟩)
        · refine ⟨_, _, _, rfl, e5.trans e6, ?_⟩
          rw [outs_take hqi, hany, if_neg Bool.false_ne_true, List.append_nil]
          exact hys6
      · subst es
        rw [hlen, List.take_length, ← outsUp_succ] at hys5
        refine ⟨_, rfl, _, rfl, _, _, rfl, rfl, _, rfl, ?_⟩
        by_cases hlt : i < most
        · refine ifT (by omega) ?_
          have hroom : (most : Int) - (0 + (i : Int)) - 1 = ((most - i - 1 : Nat) : Int) := by omega
          refine ⟨_, rfl, _, rfl, _, rfl, _, _, rfl, rfl, _, _, rfl, rfl, ?_⟩
          have hlnx := hsm.len (i + 1) (by omega)
          refine ⟨lvA, xs, lev ro most i, most - i - 1, (by show [V.ref lvA, V.int ((most : Int) - (0 + (i : Int)) - 1)] = _; rw [hroom]), lstS (e5 _ _ hlv), hxs.imp (fun b v => RepL.same e5), hsm.each i (by omega), hlnx, fun H6 p6 ws e6 np6 hp6 hws => ?_⟩
          refine ⟨_, ws, _, _, _, _, rfl, (e4.trans e5).trans e6, hp6, ?_, Rows.same (stays_W K) e6 hys5⟩
          rw [show min (i + 1) most = i + 1 by omega]
          exact hws
        · refine ifF (by omega) ⟨_, xs, _, _, _, _, rfl, e4.trans e5, e5 _ _ hlv, ?_, hys5⟩
          rw [show min (i + 1) most = i by omega]
          exact hxs.imp (fun b v => RepL.same e5)
  · match us, ws, h1, h2 with
    | [a, b], [c], _, _ => exact BindsTo.of_eq rfl
  · exact r1.append r2
end
end Tf

namespace Tf
open PySem PySem.Spec PyProof.Rows L2
/-! ### plain trees -/
def RepP (K : PySem.W.Frag) (H : Hp) : Pt → V → Prop
  | .act n m, v => ∃ a, v = .ref a ∧ SqT K H a [.str "activity", .int n, .str m]
  | .sil n, v => ∃ a, v = .ref a ∧ SqT K H a [.str "silent", .int n]
  | .bin k n l r, v => ∃ a x y, v = .ref a ∧ SqT K H a [.str k.nm, .int n, x, y] ∧ RepP K H l x ∧ RepP K H r y
  | .wh n c t, v => ∃ a x y, v = .ref a ∧ SqT K H a [.str "when", .int n, x, y] ∧ RepC K H c x ∧ RepP K H t y
theorem RepP.te {K : PySem.W.Frag} {H H' : Hp} (e : Tk H H') : ∀ {t : Pt} {v : V}, RepP K H t v → RepP K H' t v
  | .act n m, v, ⟨a, hv, h⟩ => ⟨a, hv, e.sq h⟩
  | .sil n, v, ⟨a, hv, h⟩ => ⟨a, hv, e.sq h⟩
  | .bin k n l r, v, ⟨a, x, y, hv, h, h1, h2⟩ => ⟨a, x, y, hv, e.sq h, RepP.te e h1, RepP.te e h2⟩
  | .wh n c t, v, ⟨a, x, y, hv, h, h1, h2⟩ => ⟨a, x, y, hv, e.sq h, RepC.te e h1, RepP.te e h2⟩
theorem RepP.same {K : PySem.W.Frag} {H H' : Hp} {t : Pt} {v : V} (h : RepP K H t v) (e : Same H H') : RepP K H' t v := h.te (te_same e)
theorem stays_P (K : PySem.W.Frag) : Stays (RepP K) := fun _ _ _ _ e h => h.te e
def Pt.kind : Pt → PySem.Str
  | .act _ _ => "activity"
  | .sil _ => "silent"
  | .bin k _ _ _ => k.nm
  | .wh _ _ _ => "when"
/-- its first two places -/
theorem RepP.two {K : PySem.W.Frag} {H : Hp} {t : Pt} {v : V} (h : RepP K H t v) : ∃ a xs, v = .ref a ∧ SqT K H a (.str t.kind :: .int t.num :: xs) := by
  cases t with
  | act n m =>
    obtain ⟨a, hv, h⟩ := h
    exact ⟨a, _, hv, h⟩
  | sil n =>
    obtain ⟨a, hv, h⟩ := h
    exact ⟨a, _, hv, h⟩
  | bin k n l r =>
    obtain ⟨a, x, y, hv, h, _⟩ := h
    exact ⟨a, _, hv, h⟩
  | wh n c t =>
    obtain ⟨a, x, y, hv, h, _⟩ := h
    exact ⟨a, _, hv, h⟩
theorem RepP.non {K : PySem.W.Frag} {H : Hp} {t : Pt} : ¬ RepP K H t .non := fun h => by
  obtain ⟨a, xs, hv, _⟩ := h.two
  cases hv
def Pt.dp : Pt → Nat
  | .act _ _ => 0
  | .sil _ => 0
  | .bin _ _ l r => max l.dp r.dp + 1
  | .wh _ _ t => t.dp + 1
def Pt.ops : Pt → List Pt
  | .act _ _ => []
  | .sil _ => []
  | .bin _ _ l r => [l, r]
  | .wh _ _ t => [t]
def Pt.parts : Pt → List Pt
  | .act n m => [.act n m]
  | .sil n => [.sil n]
  | .bin k n l r => .bin k n l r :: (l.parts ++ r.parts)
  | .wh n c t => .wh n c t :: t.parts
theorem parts_ops (t : Pt) : t.parts = t :: t.ops.flatMap Pt.parts := by
  cases t <;> simp [Pt.parts, Pt.ops]
theorem ops_dp {t o : Pt} (h : o ∈ t.ops) : o.dp < t.dp := by
  cases t with
  | act n m => simp [Pt.ops] at h
  | sil n => simp [Pt.ops] at h
  | bin k n l r =>
    simp only [Pt.ops, List.mem_cons, List.not_mem_nil, or_false] at h
    simp only [Pt.dp]
    rcases h with rfl | rfl <;> omega
  | wh n c t =>
    simp only [Pt.ops, List.mem_cons, List.not_mem_nil, or_false] at h
    subst h
    exact Nat.lt_succ_self _
def Ek.nm : Ek → PySem.Str
  | .opt => "optional"
  | .rep => "repeatable"
  | .uno => "unordered"
  | .unc => "unconditional"
section
variable {P : Program} {w : World} {K : PySem.W.Frag} {mg : PySem.Str → Option Value} {base : Heap}
theorem Rows.exT {β : Type} {F : Hp → β → V → Prop} (s : Stays F) {H H' : Hp} {n : Addr} {ys xs : List V} {bs : List β} (e : Ex n H H') (hn : H n = some (.lst ys)) (h : Rows (F H) xs bs) : Rows (F H') xs bs := Rows.te s (e.tk hn) h
abbrev s_operands : Stmt := top 4
abbrev nm_operands : List PySem.Str := ["tree", "kind"]
theorem sc_operands : FnScope nm_operands ["tree"] (defScope s_operands) := ⟨rfl, rfl, rfl, by decide +kernel, rfl, by decide +kernel, by decide +kernel⟩
def spOperands (K : PySem.W.Frag) : Sp := fun vs H Q _ => ∃ (t : Pt) (x : V), vs = [x] ∧ RepP K H t x ∧ ∀ H' p ys, Same H H' → H p = none → H' p = some (.lst ys) → Rows (RepP K H') ys t.ops → Q (.ref p) H'
theorem one_le {n : Nat} : (n = 1 ∨ n = 2) → n ≤ sizeLine := fun h => sz (by omega)
theorem ok_operands (D : Dfn K mg "operands" s_operands) : Callee P w K mg base 1 "operands" ["tree"] (spOperands K) := by
  refine D.ok (fun _ _ _ _ _ _ us hl => match us, hl with | [_], _ => rfl) sc_operands (fun vs H Q E h => ?_) (fun f cdv A outer s H vs Q E hr h => ?_)
  · obtain ⟨t, x, rfl, _⟩ := h
    rfl
  obtain ⟨t, x, rfl, hx, q⟩ := h
  refine ⟨_, (pss_cons (ps_set (i := 1) sc_operands.nd rfl (by first | exact Or.inl rfl | exact Or.inr rfl) (pe_ix ix_tup (pv 0) pe_int (fun _ _ => rfl)))
    (pss_cons (ps_if (PW.pt (pw_or (pt_cmpR op_eq (pv 1) pe_str (nomark _)) (pw_or1 (pt_cmpR op_eq (pv 1) pe_str (nomark _))))) (pss_one (ps_ret (pe_lst pa_nil))) pss_nil)
    (pss_cons (ps_if (pt_cmpR op_eq (pv 1) pe_str (nomark _)) (pss_one (ps_ret (pe_lst (pa_cons (pe_ix ix_tup (pv 0) pe_int (fun _ _ => rfl)) pa_nil)))) pss_nil)
    (pss_one (ps_ret (pe_lst (pa_cons (pe_ix ix_tup (pv 0) pe_int (fun _ _ => rfl)) (pa_cons (pe_ix ix_tup (pv 0) pe_int (fun _ _ => rfl)) pa_nil)))))))), ?_⟩
  cases t with
  | act n m =>
    obtain ⟨a, rfl, ha⟩ := hx
    refine ⟨_, rfl, a, _, _, _, rfl, rfl, ha, at0, ?_⟩
    refine ⟨_, rfl, rfl, _, rfl, ifT (by decide +kernel) (iteT ⟨Nat.zero_le _, fun p np => q _ p _ (same_upd np) np upd_same .nil⟩)⟩
  | sil n =>
    obtain ⟨a, rfl, ha⟩ := hx
    refine ⟨_, rfl, a, _, _, _, rfl, rfl, ha, at0, ?_⟩
    refine ⟨_, rfl, rfl, _, rfl, ifF (by decide +kernel) ⟨_, rfl, rfl, _, rfl, ifT (by decide +kernel) ⟨Nat.zero_le _, fun p np => q _ p _ (same_upd np) np upd_same .nil⟩⟩⟩
  | wh n c t =>
    obtain ⟨a, u, v, rfl, ha, hu, hv⟩ := hx
    refine ⟨_, rfl, a, _, _, _, rfl, rfl, ha, at0, ?_⟩
    refine ⟨_, rfl, rfl, _, rfl, ifF (by decide +kernel) ⟨_, rfl, rfl, _, rfl, ifF (by decide +kernel) ⟨_, rfl, rfl, _, rfl, ifT (by decide +kernel) ?_⟩⟩⟩
    exact ⟨_, rfl, a, _, _, _, rfl, rfl, ha, at3, one_le (.inl rfl), fun p np => q _ p _ (same_upd np) np upd_same (.one (hv.same (same_upd np)))⟩
  | bin k n l r =>
    obtain ⟨a, u, v, rfl, ha, hu, hv⟩ := hx
    refine ⟨_, rfl, a, _, _, _, rfl, rfl, ha, at0, ?_⟩
    refine ⟨_, rfl, rfl, _, rfl, ifF (by cases k <;> decide +kernel) ⟨_, rfl, rfl, _, rfl, ifF (by cases k <;> decide +kernel) ⟨_, rfl, rfl, _, rfl, ifF (by cases k <;> decide +kernel) ?_⟩⟩⟩
    exact ⟨_, rfl, a, _, _, _, rfl, rfl, ha, at2, _, rfl, a, _, _, _, rfl, rfl, ha, at3, one_le (.inr rfl), fun p np => q _ p _ (same_upd np) np upd_same (.cons (hu.same (same_upd np)) (Rows.one (hv.same (same_upd np))))⟩
abbrev s_parts_of : Stmt := top 5
abbrev nm_parts_of : List PySem.Str := ["tree", "found", "operand"]
theorem sc_parts_of : FnScope nm_parts_of ["tree"] (defScope s_parts_of) := ⟨rfl, rfl, rfl, by decide +kernel, rfl, by decide +kernel, by decide +kernel⟩
def spParts (K : PySem.W.Frag) (d : Nat) : Sp := fun vs H Q _ => ∃ (t : Pt) (x : V), vs = [x] ∧ RepP K H t x ∧ t.dp < d ∧ t.parts.length ≤ 1000 ∧ ∀ p ys H', Same H H' → SqT K H' p ys → Rows (RepP K H') ys t.parts → Q (.ref p) H'
theorem parts_none (D : Dfn K mg "parts_of" s_parts_of) : Callee P w K mg base 1 "parts_of" ["tree"] (spParts K 0) :=
  D.none (fun _ _ _ _ _ _ us hl => match us, hl with | [_], _ => rfl) fun vs H Q E h => by
    obtain ⟨t, x, _, _, hd, _⟩ := h
    omega
theorem flat_le {α β : Type} (g : α → List β) (l : List α) (i : Nat) : ((l.take i).flatMap g).length ≤ (l.flatMap g).length := by
  have : l.flatMap g = (l.take i).flatMap g ++ (l.drop i).flatMap g := by rw [← List.flatMap_append, List.take_append_drop]
  rw [this, List.length_append]
  omega
theorem flat_mem_le {α β : Type} (g : α → List β) {l : List α} {x : α} (h : x ∈ l) : (g x).length ≤ (l.flatMap g).length := by
  induction l with
  | nil => cases h
  | cons y l ih =>
    rw [List.flatMap_cons, List.length_append]
    rcases List.mem_cons.mp h with rfl | h
    · omega
    · have := ih h
      omega
theorem parts_step {d : Nat} (D : Dfn K mg "parts_of" s_parts_of) (M : Mo K mg) (C_parts_of : Callee P w K mg base (d + 1) "parts_of" ["tree"] (spParts K d)) (C_operands : Callee P w K mg base 1 "operands" ["tree"] (spOperands K)) :
    Callee P w K mg base (d + 2) "parts_of" ["tree"] (spParts K (d + 1)) := by
  refine D.ok (fun _ _ _ _ _ _ us hl => match us, hl with | [_], _ => rfl) sc_parts_of (fun vs H Q E h => ?_) (fun f cdv A outer s H vs Q E hr h => ?_)
  · obtain ⟨t, x, rfl, _⟩ := h
    rfl
  obtain ⟨t, x, rfl, hx, hd, hz, q⟩ := h
  refine ⟨_, (pss_cons (ps_set (i := 1) sc_parts_of.nd rfl (by first | exact Or.inl rfl | exact Or.inr rfl) (pe_lst (pa_cons (pv 0) pa_nil)))
    (pss_cons (ps_for PassesOwn.never rfl (pi_list (pe_callC C_operands (hr.mono (by omega)) (by rfl) (pa_cons (pv 0) pa_nil))) (pg_name (i := 2) sc_parts_of.nd rfl (by first | exact Or.inl rfl | exact Or.inr rfl)) (pss_one (ps_expr (pe_bm PySem.F.plainAttrs_list PySem.F.slot_list_extend PySem.F.type_list_extend mt_extT (pv 1) (pa_cons (pe_callC C_parts_of (hr.mono (by omega)) (by rfl) (pa_cons (pv 2) pa_nil)) pa_nil)))))
    (pss_one (ps_ret (pe_callTy call_tuple_of (by rfl) M.tuple_ (by decide +kernel) (pa_cons (pv 1) pa_nil)))))), ?_⟩
  rw [parts_ops] at hz
  rw [List.length_cons] at hz
  refine ⟨_, rfl, one_le (.inl rfl), fun p np => ?_⟩
  have e0 := same_upd (o := .lst [x]) np
  have hp0 : upd H p (.lst [x]) p = some (.lst [x]) := upd_same
  generalize upd H p (.lst [x]) = H0 at e0 hp0
  refine ⟨_, rfl, t, x, rfl, hx.same e0, fun H1 p1 ops e1 np1 hp1 hops => ?_⟩
  have hne : p1 ≠ p := fun z => by
    rw [z, hp0] at np1
    cases np1
  have hlen := hops.len
  refine ⟨p1, rfl, ⟨_, lstS hp1⟩, for_list (xs := ops) (fun i σ H2 => ∃ y ys, σ = [some x, some (.ref p), y] ∧ Same H H2 ∧ Ex p H1 H2 ∧ H2 p = some (.lst ys) ∧ Rows (RepP K H2) ys (t :: (t.ops.take i).flatMap Pt.parts))
    ⟨_, [x], rfl, e0.trans e1, Ex.refl _, e1 _ _ hp0, .one (hx.same (e0.trans e1))⟩ (fun i σ H2 _ ⟨_, _, _, _, ex, _⟩ => lstS (ex _ _ hne hp1)) (fun i v σ H2 hv ⟨y, ys, es, e2, ex, hp2, hys⟩ => ?_) (fun σ H2 ⟨y, ys, es, e2, ex, hp2, hys⟩ => ?_)⟩
  · subst es
    obtain ⟨o, hoi, hF⟩ := hops.get hv
    have hm := List.mem_of_getElem? hoi
    have hF2 := RepP.te (ex.tk (e1 _ _ hp0)) hF
    have hdo := ops_dp hm
    have h1 := flat_mem_le Pt.parts hm
    have h2 := flat_le Pt.parts t.ops (i + 1)
    rw [flat_take Pt.parts hoi, List.length_append] at h2
    refine ⟨_, rfl, .inl ⟨rfl, _, lstS hp2⟩, _, rfl, o, v, rfl, hF2, by omega, by omega, fun p3 zs H3 e3 hp3 hzs => ?_⟩
    have l1 := hys.len
    rw [List.length_cons] at l1
    have l2 := hzs.len
    have hp3' := e3 _ _ hp2
    have t1 := te_lst (o := .lst (ys ++ zs)) hp3'
    refine ⟨p, p3, ys, zs, rfl, rfl, hp3', hp3, sz (by omega), _, _, rfl, same_mut (e2.trans e3) np, ex.trans ((Ex.of e3).trans Ex.upd), upd_same, ?_⟩
    rw [flat_take Pt.parts hoi, ← List.cons_append]
    exact (Rows.te (stays_P K) ((te_same e3).trans t1) hys).append (Rows.te (stays_P K) t1 hzs)
  · subst es
    rw [hlen, List.take_length, ← parts_ops] at hys
    refine ⟨_, rfl, p, ys, rfl, .inl ⟨lstS hp2, fun l nl => ?_⟩⟩
    exact q l ys _ (e2.trans (same_upd nl)) (tupS upd_same) (Rows.same (stays_P K) (same_upd nl) hys)
theorem ok_parts (D : Dfn K mg "parts_of" s_parts_of) (M : Mo K mg) (C_operands : Callee P w K mg base 1 "operands" ["tree"] (spOperands K)) : ∀ d : Nat, Callee P w K mg base (d + 1) "parts_of" ["tree"] (spParts K d)
  | 0 => parts_none D
  | d + 1 => parts_step D M (ok_parts D M C_operands d) C_operands
/-! ### part_at -/
def Pt.at_ (t : Pt) (n : Int) : Option Pt := t.parts.find? fun p => decide (p.num = n)
def RepPo (K : PySem.W.Frag) (H : Hp) : Option Pt → V → Prop
  | none, v => v = .non
  | some t, v => RepP K H t v
abbrev s_part_at : Stmt := top 6
abbrev nm_part_at : List PySem.Str := ["tree", "number", "part"]
theorem sc_part_at : FnScope nm_part_at ["tree", "number"] (defScope s_part_at) := ⟨rfl, rfl, rfl, by decide +kernel, rfl, by decide +kernel, by decide +kernel⟩
def spPartAt (K : PySem.W.Frag) : Sp := fun vs H Q _ => ∃ (t : Pt) (x : V) (n : Int), vs = [x, .int n] ∧ RepP K H t x ∧ t.dp < 20 ∧ t.parts.length ≤ 1000 ∧ ∀ v H', Same H H' → RepPo K H' (t.at_ n) v → Q v H'
theorem find_snoc_none {α : Type} {p : α → Bool} {l : List α} {x : α} (h : l.find? p = none) (hx : p x = false) : (l ++ [x]).find? p = none := by
  rw [List.find?_append, h]
  simp [hx]
theorem find_take {α : Type} {p : α → Bool} {l : List α} {i : Nat} {x : α} (h : l[i]? = some x) (hn : (l.take i).find? p = none) (hx : p x = true) : l.find? p = some x := by
  have e : l = l.take i ++ (x :: l.drop (i + 1)) := by
    obtain ⟨hi, rfl⟩ := List.getElem?_eq_some_iff.mp h
    rw [← List.drop_eq_getElem_cons hi, List.take_append_drop]
  rw [e, List.find?_append, hn]
  simp [hx]
theorem ok_part_at (D : Dfn K mg "part_at" s_part_at) (C_parts_of : Callee P w K mg base 21 "parts_of" ["tree"] (spParts K 20)) : Callee P w K mg base 22 "part_at" ["tree", "number"] (spPartAt K) := by
  refine D.ok (fun _ _ _ _ _ _ us hl => match us, hl with | [_, _], _ => rfl) sc_part_at (fun vs H Q E h => ?_) (fun f cdv A outer s H vs Q E hr h => ?_)
  · obtain ⟨t, x, n, rfl, _⟩ := h
    rfl
  obtain ⟨t, x, n, rfl, hx, hd, hz, q⟩ := h
  refine ⟨_, (pss_cons (ps_for PassesOwn.never rfl (pi_tup (pe_callC C_parts_of (hr.mono (by omega)) (by rfl) (pa_cons (pv 0) pa_nil))) (pg_name (i := 2) sc_part_at.nd rfl (by first | exact Or.inl rfl | exact Or.inr rfl)) (pss_one (ps_if (pt_cmpR op_eq (pe_ix ix_tup (pv 2) pe_int (fun _ _ => rfl)) (pv 1) (nomark _)) (pss_one (ps_ret (pv 2))) pss_nil)))
    (pss_one (ps_ret pe_non))), ?_⟩
  refine ⟨_, rfl, t, x, rfl, hx, hd, hz, fun p ys H1 e1 hp hys => ?_⟩
  have hlen := hys.len
  refine ⟨p, rfl, ⟨_, hp⟩, for_tup (xs := ys) (fun i σ H2 => ∃ y, σ = [some x, some (.int n), y] ∧ Same H1 H2 ∧ (t.parts.take i).find? (fun p => decide (p.num = n)) = none)
    ⟨_, rfl, Same.refl _, rfl⟩ (fun i σ H2 _ ⟨_, _, e, _⟩ => same_tup e hp) (fun i v σ H2 hv ⟨y, es, e2, hf⟩ => ?_) (fun σ H2 ⟨y, es, e2, hf⟩ => ?_)⟩
  · subst es
    obtain ⟨o, hoi, hF⟩ := hys.get hv
    have hF2 := RepP.same hF e2
    obtain ⟨c, xs, rfl, hc⟩ := hF2.two
    refine ⟨_, rfl, c, _, _, _, rfl, rfl, hc, at1, _, rfl, rfl, _, rfl, ?_⟩
    by_cases hn : o.num = n
    · refine ifT (by rw [hn]) ⟨_, rfl, q _ H2 (e1.trans e2) ?_⟩
      unfold Pt.at_
      rw [find_take hoi hf (decide_eq_true hn)]
      exact hF2
    · refine ifF (by intro z; cases z; exact hn rfl) ⟨_, rfl, e2, ?_⟩
      rw [take_succ hoi]
      exact find_snoc_none hf (decide_eq_false hn)
  · subst es
    rw [hlen, List.take_length] at hf
    refine q _ H2 (e1.trans e2) ?_
    unfold Pt.at_
    rw [hf]
    exact rfl
/-! ### applies -/
def RepE (K : PySem.W.Frag) (H : Hp) (e : Ek × Int) (v : V) : Prop := ∃ a z, v = .ref a ∧ SqT K H a [.str e.1.nm, .int e.2, z]
theorem stays_E (K : PySem.W.Frag) : Stays (RepE K) := fun _ _ _ _ e ⟨a, z, hv, h⟩ => ⟨a, z, hv, e.sq h⟩
/-- an edit applies -/
def EdOk (t : Pt) (e : Ek × Int) : Prop := ∃ p, t.at_ e.2 = some p ∧ (e.1 = .uno → p.kind = "sequence") ∧ (e.1 = .unc → p.kind = "when")
abbrev s_applies : Stmt := top 8
abbrev nm_applies : List PySem.Str := ["tree", "edit", "kind", "number", "weight", "part"]
theorem sc_applies : FnScope nm_applies ["tree", "edit"] (defScope s_applies) := ⟨rfl, rfl, rfl, by decide +kernel, rfl, by decide +kernel, by decide +kernel⟩
def spApplies (K : PySem.W.Frag) : Sp := fun vs H Q _ => ∃ (t : Pt) (x y : V) (e : Ek × Int), vs = [x, y] ∧ RepP K H t x ∧ RepE K H e y ∧ t.dp < 20 ∧ t.parts.length ≤ 1000 ∧ EdOk t e ∧ ∀ H', Same H H' → Q (.bl true) H'
theorem ok_applies (D : Dfn K mg "applies" s_applies) (C_part_at : Callee P w K mg base 22 "part_at" ["tree", "number"] (spPartAt K)) : Callee P w K mg base 23 "applies" ["tree", "edit"] (spApplies K) := by
  refine D.ok (fun _ _ _ _ _ _ us hl => match us, hl with | [_, _], _ => rfl) sc_applies (fun vs H Q E h => ?_) (fun f cdv A outer s H vs Q E hr h => ?_)
  · obtain ⟨t, x, y, e, rfl, _⟩ := h
    rfl
  obtain ⟨t, x, y, ⟨e, n⟩, rfl, hx, ⟨b, z, rfl, hb⟩, hd, hz, ⟨part, hat, h1, h2⟩, q⟩ := h
  replace hb : SqT K H b [.str e.nm, .int n, z] := hb
  refine ⟨_, (pss_cons (ps_asg (pv 1) (pg_tup rfl (pgs_cons (pg_name (i := 2) sc_applies.nd rfl (by first | exact Or.inl rfl | exact Or.inr rfl)) (pgs_cons (pg_name (i := 3) sc_applies.nd rfl (by first | exact Or.inl rfl | exact Or.inr rfl)) (pgs_cons (pg_name (i := 4) sc_applies.nd rfl (by first | exact Or.inl rfl | exact Or.inr rfl)) pgs_nil)))))
    (pss_cons (ps_set (i := 5) sc_applies.nd rfl (by first | exact Or.inl rfl | exact Or.inr rfl) (pe_callC C_part_at (hr.mono (by omega)) (by rfl) (pa_cons (pv 0) (pa_cons (pv 3) pa_nil))))
    (pss_cons (ps_if (pt_cmpR op_isN (pv 5) pe_non (nomark _)) (pss_one (ps_ret pe_bl)) pss_nil)
    (pss_cons (ps_if (pt_cmpR op_eq (pv 2) pe_str (nomark _)) (pss_one (ps_ret (pe_cmpR op_eq (pe_ix ix_tup (pv 5) pe_int (fun _ _ => rfl)) pe_str (nomark _)))) pss_nil)
    (pss_cons (ps_if (pt_cmpR op_eq (pv 2) pe_str (nomark _)) (pss_one (ps_ret (pe_cmpR op_eq (pe_ix ix_tup (pv 5) pe_int (fun _ _ => rfl)) pe_str (nomark _)))) pss_nil)
    (pss_one (ps_ret pe_bl))))))), ?_⟩
  refine ⟨_, rfl, b, _, rfl, hb, rfl, _, _, rfl, _, _, rfl, _, _, rfl, rfl, ?_⟩
  refine ⟨_, rfl, _, rfl, t, x, n, rfl, hx, hd, hz, fun v H1 e1 hv => ?_⟩
  simp only at hat
  rw [hat] at hv
  obtain ⟨c, xs, rfl, hc⟩ := RepP.two hv
  refine ⟨_, rfl, rfl, _, rfl, ifF (fun z => by cases z) ?_⟩
  cases e with
  | uno =>
    refine ⟨_, rfl, rfl, _, rfl, ifT (by decide +kernel) ?_⟩
    refine ⟨_, rfl, c, _, _, _, rfl, rfl, hc, at0, rfl, ?_⟩
    rw [h1 rfl]
    have hq := q H1 e1
    exact hq
  | unc =>
    refine ⟨_, rfl, rfl, _, rfl, ifF (by decide +kernel) ⟨_, rfl, rfl, _, rfl, ifT (by decide +kernel) ?_⟩⟩
    refine ⟨_, rfl, c, _, _, _, rfl, rfl, hc, at0, rfl, ?_⟩
    rw [h2 rfl]
    have hq := q H1 e1
    exact hq
  | opt =>
    refine ⟨_, rfl, rfl, _, rfl, ifF (by decide +kernel) ⟨_, rfl, rfl, _, rfl, ifF (by decide +kernel) ?_⟩⟩
    exact q H1 e1
  | rep =>
    refine ⟨_, rfl, rfl, _, rfl, ifF (by decide +kernel) ⟨_, rfl, rfl, _, rfl, ifF (by decide +kernel) ?_⟩⟩
    exact q H1 e1
end
end Tf

namespace Tf
open PySem PySem.Spec PyProof.Rows L2
theorem ifNT {c A B : Prop} [Decidable c] (hc : ¬ c) (h : A) : if (!decide c) = true then A else B := by
  rw [decide_eq_false hc]
  exact iteT h
theorem ifNF {c A B : Prop} [Decidable c] (hc : c) (h : B) : if (!decide c) = true then A else B := by
  rw [decide_eq_true hc]
  exact iteF h
/-! ### the pairs wanted -/
def RepX (K : PySem.W.Frag) (H : Hp) (e : Ek × Int) (v : V) : Prop := ∃ a, v = .ref a ∧ SqT K H a [.str e.1.nm, .int e.2]
theorem stays_X (K : PySem.W.Frag) : Stays (RepX K) := fun _ _ _ _ e ⟨a, hv, h⟩ => ⟨a, hv, e.sq h⟩
def encE (e : Ek × Int) : PyData := .tuple [.str e.1.nm, .int e.2]
theorem enm_inj {a b : Ek} : (a.nm == b.nm) = decide (a = b) := by cases a <;> cases b <;> decide +kernel
theorem encE_eqv (a b : Ek × Int) : PyData.eqv (encE a) (encE b) = decide (a = b) := by
  obtain ⟨e, n⟩ := a
  obtain ⟨f, m⟩ := b
  simp only [encE, eqv_tup, eqvA_cons, eqvA_nil, eqv_str, eqv_int, enm_inj, Bool.and_true, Prod.mk.injEq]
  rw [← Bool.decide_and]
theorem anyE (w : Prs) (e : Ek) (n : Int) : ((w.map encE).any fun z => PyData.eqv z (encE (e, n))) = has w e n := by
  unfold has
  induction w with
  | nil => simp
  | cons x l ih =>
    rw [List.map_cons, List.any_cons, encE_eqv, ih]
    by_cases h : x = (e, n)
    · subst h
      simp
    · have h' : ¬ (e, n) = x := fun z => h z.symm
      simp [h, h']
theorem encE_lay (e : Ek × Int) : (encE e).canLay0 = true := by
  have h0 : ∀ k : Ek, (PyData.str k.nm).canLay0 = true := by
    intro k
    cases k <;> decide +kernel
  have h := h0 e.1
  simp only [encE, PyData.canLay0, PyData.canLayAll0] at h ⊢
  rw [h]
  rfl
theorem encE_depth (e : Ek × Int) : (encE e).depth = 1 := by simp [encE, PyData.depth, PyData.depthAll]
theorem encE_shaped (e : Ek × Int) : SeqAt.shaped (encE e) = true := by
  unfold SeqAt.shaped
  rw [encE_lay, encE_depth]
  decide
theorem layAllE : ∀ l : Prs, PyData.canLayAll0 (l.map encE) = true
  | [] => rfl
  | x :: l => by simp only [List.map_cons, PyData.canLayAll0, encE_lay, layAllE l, Bool.and_self]
theorem depthAllE : ∀ l : Prs, PyData.depthAll (l.map encE) ≤ 1
  | [] => Nat.zero_le _
  | x :: l => by
    have := depthAllE l
    simp only [List.map_cons, PyData.depthAll, encE_depth]
    omega
theorem shapedE (l : Prs) : SeqAt.shaped (.list (l.map encE)) = true := by
  unfold SeqAt.shaped
  have h1 := depthAllE l
  simp only [PyData.canLay0, PyData.depth, layAllE, Bool.true_and]
  exact decide_eq_true (by omega)
theorem Rows.dpE {K : PySem.W.Frag} {H : Hp} : ∀ {xs : List V} {w : Prs}, Rows (RepX K H) xs w → DpAll K H xs (w.map encE)
  | _, _, .nil => .nil
  | _, _, .cons ⟨a, hv, h⟩ t => .cons (by subst hv; exact .tup h (.cons (.str _) (.cons (.int _) .nil))) (Rows.dpE t)
/-- ('kind', number) in wanted -/
theorem in_wanted {K : PySem.W.Frag} {H : Hp} {p l : Addr} {zs : List V} {w : Prs} (e : Ek) (n : Int) (hp : SqT K H p [.str e.nm, .int n]) (hl : SqL K H l zs) (hz : Rows (RepX K H) zs w) {Q : VK} (q : Q (.bl (has w e n)) H) :
    rInD K (.ref p) (.ref l) H Q :=
  ⟨encE (e, n), w.map encE, .tup hp (.cons (.str _) (.cons (.int _) .nil)), .lst hl hz.dpE, encE_shaped _, shapedE w, by rw [anyE]; exact q⟩
def wrap1 (w : Prs) (n : Int) (t : T) : T := if has w .rep n = true then T.bin .loop t .sil else t
theorem wrap1_yes {w : Prs} {n : Int} {t : T} (h : has w .rep n = true) : wrap1 w n t = .bin .loop t .sil := if_pos h
theorem wrap1_no {w : Prs} {n : Int} {t : T} (h : has w .rep n = false) : wrap1 w n t = t := if_neg (by rw [h]; exact Bool.false_ne_true)
theorem wrapT_opt {w : Prs} {n : Int} {t : T} (h : has w .opt n = true) : wrapT w n t = .bin .cho (wrap1 w n t) .sil := if_pos h
theorem wrapT_no {w : Prs} {n : Int} {t : T} (h : has w .opt n = false) : wrapT w n t = wrap1 w n t := if_neg (by rw [h]; exact Bool.false_ne_true)
section
variable {P : Program} {w : World} {K : PySem.W.Frag} {mg : PySem.Str → Option Value} {base : Heap}
abbrev s_changed : Stmt := top 9
abbrev nm_changed : List PySem.Str := ["tree", "wanted", "kind", "number", "part"]
theorem sc_changed : FnScope nm_changed ["tree", "wanted"] (defScope s_changed) := ⟨rfl, rfl, rfl, by decide +kernel, rfl, by decide +kernel, by decide +kernel⟩
def spChanged (K : PySem.W.Frag) (d : Nat) : Sp := fun vs H Q _ => ∃ (t : Pt) (x : V) (l : Addr) (zs : List V) (ws : Prs), vs = [x, .ref l] ∧ RepP K H t x ∧ SqL K H l zs ∧ Rows (RepX K H) zs ws ∧ t.dp < d ∧ ∀ v H', Same H H' → RepT K H' (changed ws t) v → Q v H'
theorem changed_none (D : Dfn K mg "changed" s_changed) : Callee P w K mg base 0 "changed" ["tree", "wanted"] (spChanged K 0) :=
  D.none (fun _ _ _ _ _ _ us hl => match us, hl with | [_, _], _ => rfl) fun vs H Q E h => by
    obtain ⟨t, x, l, zs, ws, _, _, _, _, hd, _⟩ := h
    omega
theorem one_four {n : Nat} : n = 4 → n ≤ sizeLine := fun h => sz (by omega)
/-- if ('nm', number) in wanted: part = ('k', None, part, ('silent', None)) -/
def tW (K : PySem.W.Frag) (nm k : PySem.Str) : TS := tIfS (tTest (tOp (rInD K) (tTup (tCons (tC (.str nm)) (tCons (tVar 3) tNil))) (tVar 1)))
  (tAsg (tTup (tCons (tC (.str k)) (tCons (tC .non) (tCons (tVar 4) (tCons (tTup (tCons (tC (.str "silent")) (tCons (tC .non) tNil))) tNil))))) (gName 4)) tNext
theorem tW_ok {H : Hp} {x kv pv : V} {n : Int} {l : Addr} {zs : List V} {ws : Prs} {D : Ends} (e : Ek) (k : Kd) (t : T) (hl : SqL K H l zs) (hz : Rows (RepX K H) zs ws) (hp : RepT K H t pv)
    (q : ∀ H' pv', Same H H' → RepT K H' (if has ws e n = true then .bin k t .sil else t) pv' → D.nx [some x, some (.ref l), some kv, some (.int n), some pv'] H') : tW K e.nm k.nm D [some x, some (.ref l), some kv, some (.int n), some pv] H := by
  refine ⟨_, rfl, tup2, fun p1 np1 => ⟨_, rfl, in_wanted e n (tupS upd_same) ((same_upd np1).seq hl) (Rows.same (stays_X K) (same_upd np1) hz) ⟨_, rfl, ifB (fun hr => ?_) (fun hr => ?_)⟩⟩⟩
  · refine ⟨_, rfl, tup2, fun ps nps => ⟨one_four rfl, fun pp npp => ?_⟩⟩
    have er := (same_upd (o := .tup [.str e.nm, .int n]) np1).trans ((same_upd (o := .tup [.str "silent", .non]) nps).trans (same_upd (o := .tup [.str k.nm, .non, pv, .ref ps]) npp))
    refine q _ (.ref pp) er ?_
    rw [if_pos hr]
    exact ⟨pp, _, _, _, rfl, tupS upd_same, hp.same er, ps, _, rfl, tupS (same_upd npp _ _ upd_same)⟩
  · refine q _ pv (same_upd np1) ?_
    rw [if_neg (by rw [hr]; exact Bool.false_ne_true)]
    exact hp.same (same_upd np1)
theorem tail_ok {H H0 : Hp} {x kv pv : V} {n : Int} {l : Addr} {zs : List V} {ws : Prs} {Q : VK} {D : Ends} (eD : D.rt = Q) (t : T) (e : Same H0 H) (hl : SqL K H l zs) (hz : Rows (RepX K H) zs ws) (hp : RepT K H t pv)
    (q : ∀ v H', Same H0 H' → RepT K H' (wrapT ws n t) v → Q v H') : tSeq (tW K "repeatable" "loop") (tSeq (tW K "optional" "choice") (tRet (tVar 4))) D [some x, some (.ref l), some kv, some (.int n), some pv] H := by
  refine tW_ok .rep .loop t hl hz hp fun H1 pv1 e1 h1 => ?_
  refine tW_ok .opt .cho _ (e1.seq hl) (Rows.same (stays_X K) e1 hz) h1 fun H2 pv2 e2 h2 => ⟨_, rfl, ?_⟩
  show D.rt _ _
  rw [eD]
  exact q pv2 H2 (e.trans (e1.trans e2)) h2
theorem changed_step {d : Nat} (D : Dfn K mg "changed" s_changed) (C_changed : Callee P w K mg base d "changed" ["tree", "wanted"] (spChanged K d)) : Callee P w K mg base (d + 1) "changed" ["tree", "wanted"] (spChanged K (d + 1)) := by
  refine D.ok (fun _ _ _ _ _ _ us hl => match us, hl with | [_, _], _ => rfl) sc_changed (fun vs H Q E h => ?_) (fun f cdv A outer s H vs Q E hr h => ?_)
  · obtain ⟨t, x, l, zs, ws, rfl, _⟩ := h
    rfl
  obtain ⟨t, x, l, zs, ws, rfl, hx, hl, hz, hd, q⟩ := h
  have hw : ∀ {H1 : Hp}, Same H H1 → SqL K H1 l zs ∧ Rows (RepX K H1) zs ws := fun e => ⟨e.seq hl, Rows.same (stays_X K) e hz⟩
  refine ⟨_, (pss_cons (ps_set (i := 2) sc_changed.nd rfl (by first | exact Or.inl rfl | exact Or.inr rfl) (pe_ix ix_tup (pv 0) pe_int (fun _ _ => rfl)))
    (pss_cons (ps_set (i := 3) sc_changed.nd rfl (by first | exact Or.inl rfl | exact Or.inr rfl) (pe_ix ix_tup (pv 0) pe_int (fun _ _ => rfl)))
    (pss_cons (ps_set (i := 4) sc_changed.nd rfl (by first | exact Or.inl rfl | exact Or.inr rfl) (pv 0))
    (pss_cons (ps_if (pt_cmpR op_eq (pv 2) pe_str (nomark _)) (pss_cons (ps_set (i := 4) sc_changed.nd rfl (by first | exact Or.inl rfl | exact Or.inr rfl) (pe_tup (pa_cons (pv 2) (pa_cons (pv 3) (pa_cons (pe_ix ix_tup (pv 0) pe_int (fun _ _ => rfl)) (pa_cons (pe_callC C_changed (hr.mono (by omega)) (by rfl) (pa_cons (pe_ix ix_tup (pv 0) pe_int (fun _ _ => rfl)) (pa_cons (pv 1) pa_nil))) pa_nil))))))
    (pss_one (ps_if (pt_cmpR (op_inD (hu_D hr)) (pe_tup (pa_cons pe_str (pa_cons (pv 3) pa_nil))) (pv 1) (by rfl)) (pss_one (ps_set (i := 4) sc_changed.nd rfl (by first | exact Or.inl rfl | exact Or.inr rfl) (pe_ix ix_tup (pv 4) pe_int (fun _ _ => rfl)))) pss_nil))) (pss_one (ps_if (PW.pt (pw_and (pt_cmpR op_ne (pv 2) pe_str (nomark _)) (pw_and1 (pt_cmpR op_ne (pv 2) pe_str (nomark _))))) (pss_cons (ps_if (PW.pt (pw_and (pt_cmpR op_eq (pv 2) pe_str (nomark _)) (pw_and1 (pt_cmpR (op_inD (hu_D hr)) (pe_tup (pa_cons pe_str (pa_cons (pv 3) pa_nil))) (pv 1) (by rfl))))) (pss_one (ps_set (i := 2) sc_changed.nd rfl (by first | exact Or.inl rfl | exact Or.inr rfl) pe_str)) pss_nil)
    (pss_one (ps_set (i := 4) sc_changed.nd rfl (by first | exact Or.inl rfl | exact Or.inr rfl) (pe_tup (pa_cons (pv 2) (pa_cons (pv 3) (pa_cons (pe_callC C_changed (hr.mono (by omega)) (by rfl) (pa_cons (pe_ix ix_tup (pv 0) pe_int (fun _ _ => rfl)) (pa_cons (pv 1) pa_nil))) (pa_cons (pe_callC C_changed (hr.mono (by omega)) (by rfl) (pa_cons (pe_ix ix_tup (pv 0) pe_int (fun _ _ => rfl)) (pa_cons (pv 1) pa_nil))) pa_nil)))))))) pss_nil)))
    (pss_cons (ps_if (pt_cmpR (op_inD (hu_D hr)) (pe_tup (pa_cons pe_str (pa_cons (pv 3) pa_nil))) (pv 1) (by rfl)) (pss_one (ps_set (i := 4) sc_changed.nd rfl (by first | exact Or.inl rfl | exact Or.inr rfl) (pe_tup (pa_cons pe_str (pa_cons pe_non (pa_cons (pv 4) (pa_cons (pe_tup (pa_cons pe_str (pa_cons pe_non pa_nil))) pa_nil))))))) pss_nil)
    (pss_cons (ps_if (pt_cmpR (op_inD (hu_D hr)) (pe_tup (pa_cons pe_str (pa_cons (pv 3) pa_nil))) (pv 1) (by rfl)) (pss_one (ps_set (i := 4) sc_changed.nd rfl (by first | exact Or.inl rfl | exact Or.inr rfl) (pe_tup (pa_cons pe_str (pa_cons pe_non (pa_cons (pv 4) (pa_cons (pe_tup (pa_cons pe_str (pa_cons pe_non pa_nil))) pa_nil))))))) pss_nil)
    (pss_one (ps_ret (pv 4))))))))), ?_⟩
  cases t with
  | act n m =>
    obtain ⟨a, rfl, ha⟩ := hx
    refine ⟨_, rfl, a, _, _, _, rfl, rfl, ha, at0, _, rfl, a, _, _, _, rfl, rfl, ha, at1, _, rfl, ?_⟩
    refine ⟨_, rfl, rfl, _, rfl, ifF (by decide +kernel) ⟨_, rfl, rfl, _, rfl, ifNF (by decide +kernel) (iteF ?_)⟩⟩
    have hpart : RepT K H (.act n) (.ref a) := ⟨a, _, rfl, ha⟩
    have e1 := Same.refl H
    exact tail_ok rfl _ e1 (hw e1).1 (hw e1).2 hpart q
  | sil n =>
    obtain ⟨a, rfl, ha⟩ := hx
    refine ⟨_, rfl, a, _, _, _, rfl, rfl, ha, at0, _, rfl, a, _, _, _, rfl, rfl, ha, at1, _, rfl, ?_⟩
    refine ⟨_, rfl, rfl, _, rfl, ifF (by decide +kernel) ⟨_, rfl, rfl, _, rfl, ifNT (by decide +kernel) ⟨_, rfl, rfl, _, rfl, ifNF (by decide +kernel) ?_⟩⟩⟩
    have hpart : RepT K H .sil (.ref a) := ⟨a, _, rfl, ha⟩
    have e1 := Same.refl H
    exact tail_ok rfl _ e1 (hw e1).1 (hw e1).2 hpart q
  | wh n c t =>
    obtain ⟨a, u, v, rfl, ha, hu, hv⟩ := hx
    simp only [Pt.dp] at hd
    refine ⟨_, rfl, a, _, _, _, rfl, rfl, ha, at0, _, rfl, a, _, _, _, rfl, rfl, ha, at1, _, rfl, ?_⟩
    refine ⟨_, rfl, rfl, _, rfl, ifT (by decide +kernel) ?_⟩
    refine ⟨_, rfl, _, rfl, _, rfl, a, _, _, _, rfl, rfl, ha, at2, _, rfl, a, _, _, _, rfl, rfl, ha, at3, _, rfl, t, v, l, zs, ws, rfl, hv, hl, hz, by omega, fun y H1 e1 hy => ⟨one_four rfl, fun pw npw => ?_⟩⟩
    have e2 := e1.trans (same_upd (o := .tup [.str "when", .int n, u, y]) npw)
    have hw0 := hw e2
    have hpw : SqT K (upd H1 pw (.tup [.str "when", .int n, u, y])) pw [.str "when", .int n, u, y] := tupS upd_same
    have hy2 := hy.same (same_upd (o := .tup [.str "when", .int n, u, y]) npw)
    have hu2 := hu.same e2
    refine ⟨_, rfl, tup2, fun p0 np0 => ⟨_, rfl, in_wanted .unc n (tupS upd_same) ((same_upd np0).seq hw0.1) (Rows.same (stays_X K) (same_upd np0) hw0.2) ⟨_, rfl, ifB (fun hun => ?_) (fun hun => ?_)⟩⟩⟩
    · refine ⟨_, rfl, pw, _, _, _, rfl, rfl, same_tup (same_upd np0) hpw, at3, ?_⟩
      have e3 := e2.trans (same_upd (o := .tup [.str "unconditional", .int n]) np0)
      have hpart := hy2.same (same_upd (o := .tup [.str "unconditional", .int n]) np0)
      replace q : ∀ v H', Same H H' → RepT K H' (wrapT ws n (changed ws t)) v → Q v H' := by
        simp only [changed, hun, if_true] at q
        exact q
      exact tail_ok rfl _ e3 (hw e3).1 (hw e3).2 hpart q
    · have e3 := e2.trans (same_upd (o := .tup [.str "unconditional", .int n]) np0)
      have hpart : RepT K (upd (upd H1 pw (.tup [.str "when", .int n, u, y])) p0 (.tup [.str "unconditional", .int n])) (.wh c (changed ws t)) (.ref pw) := ⟨pw, _, _, _, rfl, same_tup (same_upd np0) hpw, hu2.same (same_upd np0), hy2.same (same_upd np0)⟩
      replace q : ∀ v H', Same H H' → RepT K H' (wrapT ws n (.wh c (changed ws t))) v → Q v H' := by
        simp only [changed, hun, Bool.false_eq_true, if_false] at q
        exact q
      exact tail_ok rfl _ e3 (hw e3).1 (hw e3).2 hpart q
  | bin k n tl tr =>
    obtain ⟨a, u, v, rfl, ha, hu, hv⟩ := hx
    simp only [Pt.dp] at hd
    refine ⟨_, rfl, a, _, _, _, rfl, rfl, ha, at0, _, rfl, a, _, _, _, rfl, rfl, ha, at1, _, rfl, ?_⟩
    refine ⟨_, rfl, rfl, _, rfl, ifF (by cases k <;> decide +kernel) ⟨_, rfl, rfl, _, rfl, ifNT (by cases k <;> decide +kernel) ⟨_, rfl, rfl, _, rfl, ifNT (by cases k <;> decide +kernel) ?_⟩⟩⟩
    by_cases hk : k = .seq
    · subst hk
      have hw0 := hw (Same.refl H)
      refine ⟨_, rfl, rfl, _, rfl, ifT (by decide +kernel) ⟨_, rfl, tup2, fun p0 np0 => ⟨_, rfl, in_wanted .uno n (tupS upd_same) ((same_upd np0).seq hw0.1) (Rows.same (stays_X K) (same_upd np0) hw0.2) ⟨_, rfl, ifB (fun hun => ?_) (fun hun => ?_)⟩⟩⟩⟩
      · have e0 := same_upd (o := .tup [.str "unordered", .int n]) np0
        refine ⟨_, rfl, _, rfl, _, rfl, a, _, _, _, rfl, rfl, same_tup e0 ha, at2, _, rfl, tl, u, l, zs, ws, rfl, hu.same e0, (hw e0).1, (hw e0).2, by omega, fun y H1 e1 hy => ?_⟩
        have e2 := e0.trans e1
        refine ⟨_, rfl, a, _, _, _, rfl, rfl, same_tup e2 ha, at3, _, rfl, tr, v, l, zs, ws, rfl, hv.same e2, (hw e2).1, (hw e2).2, by omega, fun z H2 e3 hz2 => ⟨one_four rfl, fun pb npb => ?_⟩⟩
        have e4 := e2.trans (e3.trans (same_upd (o := .tup [.str "parallel", .int n, y, z]) npb))
        have hpart : RepT K (upd H2 pb (.tup [.str "parallel", .int n, y, z])) (.bin .par (changed ws tl) (changed ws tr)) (.ref pb) := ⟨pb, _, _, _, rfl, tupS upd_same, hy.same (e3.trans (same_upd npb)), hz2.same (same_upd npb)⟩
        replace q : ∀ v H', Same H H' → RepT K H' (wrapT ws n (.bin .par (changed ws tl) (changed ws tr))) v → Q v H' := by
          simp only [changed, hun, and_self, if_true] at q
          exact q
        exact tail_ok rfl _ e4 (hw e4).1 (hw e4).2 hpart q
      · have e0 := same_upd (o := .tup [.str "unordered", .int n]) np0
        refine ⟨_, rfl, _, rfl, _, rfl, a, _, _, _, rfl, rfl, same_tup e0 ha, at2, _, rfl, tl, u, l, zs, ws, rfl, hu.same e0, (hw e0).1, (hw e0).2, by omega, fun y H1 e1 hy => ?_⟩
        have e2 := e0.trans e1
        refine ⟨_, rfl, a, _, _, _, rfl, rfl, same_tup e2 ha, at3, _, rfl, tr, v, l, zs, ws, rfl, hv.same e2, (hw e2).1, (hw e2).2, by omega, fun z H2 e3 hz2 => ⟨one_four rfl, fun pb npb => ?_⟩⟩
        have e4 := e2.trans (e3.trans (same_upd (o := .tup [.str (Kd.nm .seq), .int n, y, z]) npb))
        have hpart : RepT K (upd H2 pb (.tup [.str (Kd.nm .seq), .int n, y, z])) (.bin .seq (changed ws tl) (changed ws tr)) (.ref pb) := ⟨pb, _, _, _, rfl, tupS upd_same, hy.same (e3.trans (same_upd npb)), hz2.same (same_upd npb)⟩
        replace q : ∀ v H', Same H H' → RepT K H' (wrapT ws n (.bin .seq (changed ws tl) (changed ws tr))) v → Q v H' := by
          simp only [changed, hun, and_false, Bool.false_eq_true, if_false] at q
          exact q
        exact tail_ok rfl _ e4 (hw e4).1 (hw e4).2 hpart q
    · refine ⟨_, rfl, rfl, _, rfl, ifF (by intro z; revert hk; cases k <;> revert z <;> decide +kernel) (iteF ?_)⟩
      have e0 := Same.refl H
      refine ⟨_, rfl, _, rfl, _, rfl, a, _, _, _, rfl, rfl, same_tup e0 ha, at2, _, rfl, tl, u, l, zs, ws, rfl, hu.same e0, (hw e0).1, (hw e0).2, by omega, fun y H1 e1 hy => ?_⟩
      have e2 := e0.trans e1
      refine ⟨_, rfl, a, _, _, _, rfl, rfl, same_tup e2 ha, at3, _, rfl, tr, v, l, zs, ws, rfl, hv.same e2, (hw e2).1, (hw e2).2, by omega, fun z H2 e3 hz2 => ⟨one_four rfl, fun pb npb => ?_⟩⟩
      have e4 := e2.trans (e3.trans (same_upd (o := .tup [.str (Kd.nm k), .int n, y, z]) npb))
      have hpart : RepT K (upd H2 pb (.tup [.str (Kd.nm k), .int n, y, z])) (.bin k (changed ws tl) (changed ws tr)) (.ref pb) := ⟨pb, _, _, _, rfl, tupS upd_same, hy.same (e3.trans (same_upd npb)), hz2.same (same_upd npb)⟩
      replace q : ∀ v H', Same H H' → RepT K H' (wrapT ws n (.bin k (changed ws tl) (changed ws tr))) v → Q v H' := by
        simp only [changed, hk, false_and, if_false] at q
        exact q
      exact tail_ok rfl _ e4 (hw e4).1 (hw e4).2 hpart q
theorem ok_changed (D : Dfn K mg "changed" s_changed) : ∀ d : Nat, Callee P w K mg base d "changed" ["tree", "wanted"] (spChanged K d)
  | 0 => changed_none D
  | d + 1 => changed_step D (ok_changed D d)
end
end Tf

namespace Tf
open PySem PySem.Spec PyProof.Rows L2
theorem for_enumT {K : PySem.W.Frag} {a : Addr} {xs : List V} {g : TG} {tb : TS} {D : Ends} {σ : L2.St} {H : Hp} (Pv : Nat → L2.St → Hp → Prop) (h0 : Pv 0 σ H) (hl : ∀ i σ H, i ≤ xs.length → Pv i σ H → SqT K H a xs)
    (hs : ∀ i x σ H t, xs[i]? = some x → Pv i σ H → H t = none → g (.ref t) σ (upd H t (.tup [.int (i : Nat), x])) fun σ2 H2 => tb { D with nx := Pv (i + 1), ct := Pv (i + 1), bk := D.nx } σ2 H2) (hd : ∀ σ H, Pv xs.length σ H → D.nx σ H) :
    ∃ W : Nat → Nat → L2.St → Hp → Prop, (∃ m, W 0 m σ H) ∧ ∀ i m σ H, W i m σ H →
      ((IteT K a).stop i H ∧ D.nx σ H) ∨ ((IteT K a).go i H ∧ ∃ N : L2.St → Hp → Prop, (∀ σ' H', N σ' H' → ∃ m', m' < m ∧ W (i + 1) m' σ' H') ∧ ∀ x H', (IteT K a).yld i H x H' → g x σ H' fun σ2 H2 => tb { D with nx := N, ct := N, bk := D.nx } σ2 H2) := by
  refine ⟨fun i m σ H => m = xs.length - i ∧ i ≤ xs.length ∧ Pv i σ H, ⟨xs.length, by simp, Nat.zero_le _, h0⟩, ?_⟩
  rintro i m σ H ⟨rfl, hi, p⟩
  have q := hl i σ H hi p
  by_cases hlt : i < xs.length
  · refine .inr ⟨⟨xs, xs[i], q, by simp [hlt]⟩, Pv (i + 1), fun σ' H' p' => ⟨xs.length - (i + 1), by omega, rfl, hlt, p'⟩, fun v H' y => ?_⟩
    obtain ⟨t, x, rfl, nt, rfl, y⟩ := y
    exact hs i x σ H t (y xs q) p nt
  · have e : i = xs.length := by omega
    subst e
    exact .inl ⟨⟨xs, q, rfl⟩, hd σ H p⟩
section
variable {P : Program} {w : World} {K : PySem.W.Frag} {mg : PySem.Str → Option Value} {base : Heap}
abbrev s_edited : Stmt := top 10
abbrev nm_edited : List PySem.Str := ["process", "edits", "activities", "attributes", "tree", "place", "edit", "kind", "number", "weight"]
theorem sc_edited : FnScope nm_edited ["process", "edits"] (defScope s_edited) := ⟨rfl, rfl, rfl, by decide +kernel, rfl, by decide +kernel, by decide +kernel⟩
def spEdited (K : PySem.W.Frag) : Sp := fun vs H Q _ => ∃ (pr ed : Addr) (acts at' x : V) (t : Pt) (ys : List V) (eds : Prs), vs = [.ref pr, .ref ed] ∧ SqT K H pr [acts, at', x] ∧ RepP K H t x ∧ SqT K H ed ys ∧ Rows (RepE K H) ys eds ∧ t.dp < 20 ∧ t.parts.length ≤ 1000 ∧ eds.length ≤ 100 ∧ (∀ e ∈ eds, EdOk t e) ∧
  ∀ p y H', Same H H' → SqT K H' p [acts, at', y] → RepT K H' (changed eds t) y → Q (.ref p) H'
theorem ok_edited (D : Dfn K mg "edited" s_edited) (M : Mo K mg) (C_applies : Callee P w K mg base 23 "applies" ["tree", "edit"] (spApplies K)) (C_changed : Callee P w K mg base 20 "changed" ["tree", "wanted"] (spChanged K 20)) : Callee P w K mg base 24 "edited" ["process", "edits"] (spEdited K) := by
  refine D.ok (fun _ _ _ _ _ _ us hl => match us, hl with | [_, _], _ => rfl) sc_edited (fun vs H Q E h => ?_) (fun f cdv A outer s H vs Q E hr h => ?_)
  · obtain ⟨pr, ed, acts, at', x, t, ys, eds, rfl, _⟩ := h
    rfl
  obtain ⟨pr, ed, acts, at', x, t, ys, eds, rfl, hpr, hx, hed, hys, hd, hz, hn, hok, q⟩ := h
  refine ⟨_, (pss_cons (ps_asg (pv 0) (pg_tup rfl (pgs_cons (pg_name (i := 2) sc_edited.nd rfl (by first | exact Or.inl rfl | exact Or.inr rfl)) (pgs_cons (pg_name (i := 3) sc_edited.nd rfl (by first | exact Or.inl rfl | exact Or.inr rfl)) (pgs_cons (pg_name (i := 4) sc_edited.nd rfl (by first | exact Or.inl rfl | exact Or.inr rfl)) pgs_nil)))))
    (pss_cons (ps_for PassesOwn.never rfl (pi_enumT (by rfl) M.enumerate (pa_cons (pv 1) pa_nil)) (pg_tup rfl (pgs_cons (pg_name (i := 5) sc_edited.nd rfl (by first | exact Or.inl rfl | exact Or.inr rfl)) (pgs_cons (pg_name (i := 6) sc_edited.nd rfl (by first | exact Or.inl rfl | exact Or.inr rfl)) pgs_nil))) (pss_one (ps_if (pt_not (pt_val (pe_callC C_applies (hr.mono (by omega)) (by rfl) (pa_cons (pv 4) (pa_cons (pv 6) pa_nil))))) (pss_one ps_never) pss_nil)))
    (pss_one (ps_ret (pe_tup (pa_cons (pv 2) (pa_cons (pv 3) (pa_cons (pe_callC C_changed (hr.mono (by omega)) (by rfl) (pa_cons (pv 4) (pa_cons (pe_lc (own := [("kind", 7), ("number", 8), ("weight", 9)]) rfl sc_edited.nd (pi_tup (pv 1)) (blkOk_by (own := [("kind", 7), ("number", 8), ("weight", 9)]) (N := nm_edited) (sc := defScope s_edited) (by decide +kernel)) (fun _ _ _ _ _ => (pg_tupK (K := K) (n := 3) rfl rfl (pgs_cons (pg_name (i := 7) sc_edited.nd rfl (by first | exact Or.inl rfl | exact Or.inr rfl)) (pgs_cons (pg_name (i := 8) sc_edited.nd rfl (by first | exact Or.inl rfl | exact Or.inr rfl)) (pgs_cons (pg_name (i := 9) sc_edited.nd rfl (by first | exact Or.inl rfl | exact Or.inr rfl)) pgs_nil))))) (fun _ _ _ _ _ => pts_nil) (fun _ _ _ _ _ => (pe_tup (pa_cons (pv 7) (pa_cons (pv 8) pa_nil))))) pa_nil))) pa_nil)))))))), ?_⟩
  refine ⟨_, rfl, pr, _, rfl, hpr, rfl, _, _, rfl, _, _, rfl, _, _, rfl, rfl, ?_⟩
  have hlen := hys.len
  refine ⟨_, rfl, ed, ys, rfl, hed, for_enumT (xs := ys) (fun i σ H1 => ∃ s5 s6 s7 s8 s9, σ = [some (.ref pr), some (.ref ed), some acts, some at', some x, s5, s6, s7, s8, s9] ∧ Same H H1)
    ⟨_, _, _, _, _, rfl, Same.refl H⟩ (fun i σ H1 _ ⟨_, _, _, _, _, _, e⟩ => same_tup e hed) (fun i v σ H1 tt hv ⟨s5, s6, s7, s8, s9, es, e⟩ ntt => ?_) (fun σ H1 ⟨s5, s6, s7, s8, s9, es, e⟩ => ?_)⟩
  · subst es
    obtain ⟨ee, hei, hF⟩ := hys.get hv
    have e2 := e.trans (same_upd (o := .tup [.int (i : Nat), v]) ntt)
    refine ⟨tt, _, rfl, tupS upd_same, rfl, _, _, rfl, _, _, rfl, rfl, ?_⟩
    refine ⟨_, rfl, _, rfl, t, x, v, ee, rfl, hx.same e2, stays_E K _ _ _ _ (te_same e2) hF, hd, hz, hok ee (List.mem_of_getElem? hei), fun H3 e3 => ⟨_, rfl, ?_⟩⟩
    exact iteF ⟨_, _, _, _, _, rfl, e2.trans e3⟩
  · subst es
    refine ⟨_, rfl, _, rfl, _, rfl, _, rfl, ed, rfl, ⟨_, same_tup e hed⟩, fun D1 nD1 => ?_⟩
    have hysE := Rows.same (stays_E K) e hys
    refine lc_tup (xs := ys) (fun i H2 => ∃ zs, Same H1 H2 ∧ H2 D1 = some (.lst zs) ∧ Rows (RepX K H2) zs (eds.take i)) ⟨[], same_upd nD1, upd_same, .nil⟩ (fun i H2 _ ⟨zs, e2, _⟩ => same_tup (e.trans e2) hed) (fun i v H2 hv ⟨zs, e2, hD, hr⟩ => ?_) (fun H2 ⟨zs, e2, hD, hr⟩ => ?_)
    · obtain ⟨ee, hei, hF⟩ := hysE.get hv
      obtain ⟨c, z, rfl, hc⟩ := stays_E K _ _ _ _ (te_same e2) hF
      refine ⟨c, _, rfl, hc, rfl, _, _, rfl, _, _, rfl, _, _, rfl, rfl, rfl, yes_of ?_⟩
      rw [if_pos rfl]
      refine ⟨_, rfl, _, rfl, tup2, fun p np => ⟨zs, same_upd np _ _ hD, ?_, _, same_mut (e2.trans (same_upd np)) nD1, upd_same, ?_⟩⟩
      · have h1 := hr.len
        rw [List.length_take] at h1
        exact szl (by omega)
      · have t1 := te_lst (o := .lst (zs ++ [.ref p])) (same_upd (o := .tup [.str ee.1.nm, .int ee.2]) np _ _ hD)
        rw [take_succ hei]
        exact (Rows.te (stays_X K) ((te_same (same_upd np)).trans t1) hr).append (.one ⟨p, rfl, t1.sq (tupS upd_same)⟩)
    · rw [hlen, List.take_length] at hr
      refine ⟨t, x, D1, zs, eds, rfl, hx.same (e.trans e2), lstS hD, hr, hd, fun y H3 e3 hy => ⟨tup3, fun p np => ?_⟩⟩
      exact q p y _ ((e.trans e2).trans (e3.trans (same_upd np))) (tupS upd_same) (hy.same (same_upd np))
end
end Tf

namespace Tf
open PySem PySem.Spec PyProof.Rows L2
theorem same_bl {b c : Bool} : decide (V.bl b = V.bl c) = (b == c) := by cases b <;> cases c <;> rfl
theorem iteV {b c : Bool} {A B : Prop} (h : c = b) (x : if b = true then A else B) : if c = true then A else B := by
  rw [h]
  exact x
section
variable {P : Program} {w : World} {K : PySem.W.Frag} {mg : PySem.Str → Option Value} {base : Heap}
/-! ### _law_parts -/
abbrev s_law_parts : Stmt := top 38
abbrev nm_law_parts : List PySem.Str := ["_law_tree"]
theorem sc_law_parts : FnScope nm_law_parts ["_law_tree"] (defScope s_law_parts) := ⟨rfl, rfl, rfl, by decide +kernel, rfl, by decide +kernel, by decide +kernel⟩
def spLParts (K : PySem.W.Frag) (d : Nat) : Sp := fun vs H Q _ => ∃ (t : Pt) (x : V), vs = [x] ∧ RepP K H t x ∧ t.dp < d ∧ t.parts.length ≤ 1000 ∧ ∀ p ys H', Same H H' → H p = none → H' p = some (.lst ys) → Rows (RepP K H') ys t.parts → Q (.ref p) H'
theorem lparts_none (D : Dfn K mg "_law_parts" s_law_parts) : Callee P w K mg base 0 "_law_parts" ["_law_tree"] (spLParts K 0) :=
  D.none (fun _ _ _ _ _ _ us hl => match us, hl with | [_], _ => rfl) fun vs H Q E h => by
    obtain ⟨t, x, _, _, hd, _⟩ := h
    omega
theorem lparts_step {d : Nat} (D : Dfn K mg "_law_parts" s_law_parts) (C_law_parts : Callee P w K mg base d "_law_parts" ["_law_tree"] (spLParts K d)) : Callee P w K mg base (d + 1) "_law_parts" ["_law_tree"] (spLParts K (d + 1)) := by
  refine D.ok (fun _ _ _ _ _ _ us hl => match us, hl with | [_], _ => rfl) sc_law_parts (fun vs H Q E h => ?_) (fun f cdv A outer s H vs Q E hr h => ?_)
  · obtain ⟨t, x, rfl, _⟩ := h
    rfl
  obtain ⟨t, x, rfl, hx, hd, hz, q⟩ := h
  refine ⟨_, (pss_cons (ps_if (PW.pt (pw_or (pt_cmpR op_eq (pe_ix ix_tup (pv 0) pe_int (fun _ _ => rfl)) pe_str (nomark _)) (pw_or1 (pt_cmpR op_eq (pe_ix ix_tup (pv 0) pe_int (fun _ _ => rfl)) pe_str (nomark _))))) (pss_one (ps_ret (pe_lst (pa_cons (pv 0) pa_nil)))) pss_nil)
    (pss_cons (ps_if (pt_cmpR op_eq (pe_ix ix_tup (pv 0) pe_int (fun _ _ => rfl)) pe_str (nomark _)) (pss_one (ps_ret (pe_op op_cat (pe_lst (pa_cons (pv 0) pa_nil)) (pe_callC C_law_parts (hr.mono (by omega)) (by rfl) (pa_cons (pe_ix ix_tup (pv 0) pe_int (fun _ _ => rfl)) pa_nil))))) pss_nil)
    (pss_one (ps_ret (pe_op op_cat (pe_op op_cat (pe_lst (pa_cons (pv 0) pa_nil)) (pe_callC C_law_parts (hr.mono (by omega)) (by rfl) (pa_cons (pe_ix ix_tup (pv 0) pe_int (fun _ _ => rfl)) pa_nil))) (pe_callC C_law_parts (hr.mono (by omega)) (by rfl) (pa_cons (pe_ix ix_tup (pv 0) pe_int (fun _ _ => rfl)) pa_nil))))))), ?_⟩
  have hx0 := hx
  cases t with
  | act n m =>
    obtain ⟨a, rfl, ha⟩ := hx
    refine ⟨_, rfl, a, _, _, _, rfl, rfl, ha, at0, rfl, _, rfl, ifT (by decide +kernel) (iteT ?_)⟩
    exact ⟨_, rfl, one_le (.inl rfl), fun p np => q p _ _ (same_upd np) np upd_same (.one (hx0.same (same_upd np)))⟩
  | sil n =>
    obtain ⟨a, rfl, ha⟩ := hx
    refine ⟨_, rfl, a, _, _, _, rfl, rfl, ha, at0, rfl, _, rfl, ifF (by decide +kernel) ⟨_, rfl, a, _, _, _, rfl, rfl, ha, at0, rfl, _, rfl, ifT (by decide +kernel) ?_⟩⟩
    exact ⟨_, rfl, one_le (.inl rfl), fun p np => q p _ _ (same_upd np) np upd_same (.one (hx0.same (same_upd np)))⟩
  | wh n c t =>
    obtain ⟨a, u, v, rfl, ha, hu, hv⟩ := hx
    simp only [Pt.dp] at hd
    have hz' := hz
    simp only [Pt.parts, List.length_cons] at hz'
    refine ⟨_, rfl, a, _, _, _, rfl, rfl, ha, at0, rfl, _, rfl, ifF (by decide +kernel) ⟨_, rfl, a, _, _, _, rfl, rfl, ha, at0, rfl, _, rfl, ifF (by decide +kernel) ?_⟩⟩
    refine ⟨_, rfl, a, _, _, _, rfl, rfl, ha, at0, rfl, _, rfl, ifT (by decide +kernel) ?_⟩
    refine ⟨_, rfl, one_le (.inl rfl), fun p1 np1 => ?_⟩
    have e1 := same_upd (o := .lst [V.ref a]) np1
    have hp1 : upd H p1 (.lst [V.ref a]) p1 = some (.lst [V.ref a]) := upd_same
    refine ⟨_, rfl, a, _, _, _, rfl, rfl, same_tup e1 ha, at3, t, v, rfl, hv.same e1, by omega, by omega, fun p2 ys H2 e2 np2 hp2 hys => ?_⟩
    have l2 := hys.len
    refine catL (e2 _ _ hp1) hp2 (sz (by simp only [List.length_cons, List.length_nil]; omega)) fun p3 H3 e3 np3 hp3 => ?_
    have e13 := e1.trans (e2.trans e3)
    refine q p3 _ H3 e13 ((e1.trans e2).free np3) hp3 ?_
    exact .cons (hx0.same e13) (Rows.same (stays_P K) e3 hys)
  | bin k n tl tr =>
    obtain ⟨a, u, v, rfl, ha, hu, hv⟩ := hx
    simp only [Pt.dp] at hd
    have hz' := hz
    simp only [Pt.parts, List.length_cons, List.length_append] at hz'
    refine ⟨_, rfl, a, _, _, _, rfl, rfl, ha, at0, rfl, _, rfl, ifF (by cases k <;> decide +kernel) ⟨_, rfl, a, _, _, _, rfl, rfl, ha, at0, rfl, _, rfl, ifF (by cases k <;> decide +kernel) ?_⟩⟩
    refine ⟨_, rfl, a, _, _, _, rfl, rfl, ha, at0, rfl, _, rfl, ifF (by cases k <;> decide +kernel) ?_⟩
    refine ⟨_, rfl, one_le (.inl rfl), fun p1 np1 => ?_⟩
    have e1 := same_upd (o := .lst [V.ref a]) np1
    have hp1 : upd H p1 (.lst [V.ref a]) p1 = some (.lst [V.ref a]) := upd_same
    refine ⟨_, rfl, a, _, _, _, rfl, rfl, same_tup e1 ha, at2, tl, u, rfl, hu.same e1, by omega, by omega, fun p2 ys H2 e2 np2 hp2 hys => ?_⟩
    have l2 := hys.len
    refine catL (e2 _ _ hp1) hp2 (sz (by simp only [List.length_cons, List.length_nil]; omega)) fun p3 H3 e3 np3 hp3 => ?_
    have e13 := e1.trans (e2.trans e3)
    refine ⟨_, rfl, a, _, _, _, rfl, rfl, same_tup e13 ha, at3, tr, v, rfl, hv.same e13, by omega, by omega, fun p4 zs H4 e4 np4 hp4 hzs => ?_⟩
    have l4 := hzs.len
    refine catL (e4 _ _ hp3) hp4 (sz (by simp only [List.length_append, List.length_cons, List.length_nil]; omega)) fun p5 H5 e5 np5 hp5 => ?_
    have e15 := e13.trans (e4.trans e5)
    refine q p5 _ H5 e15 ((e13.trans e4).free np5) hp5 ?_
    exact .cons (hx0.same e15) ((Rows.same (stays_P K) (e3.trans (e4.trans e5)) hys).append (Rows.same (stays_P K) e5 hzs))
theorem ok_lparts (D : Dfn K mg "_law_parts" s_law_parts) : ∀ d : Nat, Callee P w K mg base d "_law_parts" ["_law_tree"] (spLParts K d)
  | 0 => lparts_none D
  | d + 1 => lparts_step D (ok_lparts D d)
/-! ### _law_true -/
abbrev s_law_true : Stmt := top 40
abbrev nm_law_true : List PySem.Str := ["_law_condition_here", "_law_attributes_here", "_law_data_here", "_law_value", "_law_row"]
theorem sc_law_true : FnScope nm_law_true ["_law_condition_here", "_law_attributes_here", "_law_data_here"] (defScope s_law_true) := ⟨rfl, rfl, rfl, by decide +kernel, rfl, by decide +kernel, by decide +kernel⟩
theorem ltrue_none (D : Dfn K mg "_law_true" s_law_true) : Callee P w K mg base 0 "_law_true" ["_law_condition_here", "_law_attributes_here", "_law_data_here"] (spHolds K 0) :=
  D.none (fun _ _ _ _ _ _ us hl => match us, hl with | [_, _, _], _ => rfl) fun vs H Q E h => by
    obtain ⟨c, x, pa, pd, ats, ds, _, _, hd, _⟩ := h
    omega
theorem ltrue_step {d : Nat} (D : Dfn K mg "_law_true" s_law_true) (M : Mo K mg) (C_law_true : Callee P w K mg base d "_law_true" ["_law_condition_here", "_law_attributes_here", "_law_data_here"] (spHolds K d)) :
    Callee P w K mg base (d + 1) "_law_true" ["_law_condition_here", "_law_attributes_here", "_law_data_here"] (spHolds K (d + 1)) := by
  refine D.ok (fun _ _ _ _ _ _ us hl => match us, hl with | [_, _, _], _ => rfl) sc_law_true (fun vs H Q E h => ?_) (fun f cdv A outer s H vs Q E hr h => ?_)
  · obtain ⟨c, x, pa, pd, ats, ds, rfl, _⟩ := h
    rfl
  obtain ⟨c, x, pa, pd, ats, ds, rfl, hx, hd, hin, hdat, q⟩ := h
  refine ⟨_, (pss_cons (ps_if (pt_cmpR op_eq (pe_ix ix_tup (pv 0) pe_int (fun _ _ => rfl)) pe_str (nomark _)) (pss_one (ps_ret (pe_not (pe_callC C_law_true (hr.mono (by omega)) (by rfl) (pa_cons (pe_ix ix_tup (pv 0) pe_int (fun _ _ => rfl)) (pa_cons (pv 1) (pa_cons (pv 2) pa_nil))))))) pss_nil)
    (pss_cons (ps_if (pt_cmpR op_eq (pe_ix ix_tup (pv 0) pe_int (fun _ _ => rfl)) pe_str (nomark _)) (pss_one (ps_ret (pe_and (pe_callC C_law_true (hr.mono (by omega)) (by rfl) (pa_cons (pe_ix ix_tup (pv 0) pe_int (fun _ _ => rfl)) (pa_cons (pv 1) (pa_cons (pv 2) pa_nil)))) (pe_one (pe_callC C_law_true (hr.mono (by omega)) (by rfl) (pa_cons (pe_ix ix_tup (pv 0) pe_int (fun _ _ => rfl)) (pa_cons (pv 1) (pa_cons (pv 2) pa_nil)))))))) pss_nil)
    (pss_cons (ps_if (pt_cmpR op_eq (pe_ix ix_tup (pv 0) pe_int (fun _ _ => rfl)) pe_str (nomark _)) (pss_one (ps_ret (pe_or (pe_callC C_law_true (hr.mono (by omega)) (by rfl) (pa_cons (pe_ix ix_tup (pv 0) pe_int (fun _ _ => rfl)) (pa_cons (pv 1) (pa_cons (pv 2) pa_nil)))) (pe_one (pe_callC C_law_true (hr.mono (by omega)) (by rfl) (pa_cons (pe_ix ix_tup (pv 0) pe_int (fun _ _ => rfl)) (pa_cons (pv 1) (pa_cons (pv 2) pa_nil)))))))) pss_nil)
    (pss_cons (ps_set (i := 3) sc_law_true.nd rfl (by first | exact Or.inl rfl | exact Or.inr rfl) (pe_ix ix_tup (pv 2) (pe_bm PySem.F.plainAttrs_list PySem.F.slot_list_index PySem.F.type_list_index mt_index (pe_lc (own := [("_law_row", 4)]) rfl sc_law_true.nd (pi_tup (pv 1)) (blkOk_by (own := [("_law_row", 4)]) (N := nm_law_true) (sc := defScope s_law_true) (by decide +kernel)) (fun _ _ _ _ _ => (pg_name (i := 4) sc_law_true.nd rfl (by first | exact Or.inl rfl | exact Or.inr rfl))) (fun _ _ _ _ _ => pts_nil) (fun _ _ _ _ _ => (pe_ix (ix_tupK (K := K) rfl) (pv 4) pe_int (fun _ _ => rfl)))) (pa_cons (pe_ix ix_tup (pv 0) pe_int (fun _ _ => rfl)) pa_nil)) (fun _ _ => rfl)))
    (pss_cons (ps_if (PW.pt (pw_or (pt_cmpR op_eq (pv 3) (pe_ix ix_tup (pv 0) pe_int (fun _ _ => rfl)) (nomark _)) (pw_or1 (pt_cmpR op_in_seq (pe_ix ix_tup (pv 0) pe_int (fun _ _ => rfl)) (pe_tup (pa_cons pe_str (pa_cons pe_str pa_nil))) (by rfl))))) (pss_one (ps_ret (pe_cmpR op_eq (pe_cmpR op_eq (pv 3) (pe_ix ix_tup (pv 0) pe_int (fun _ _ => rfl)) (nomark _)) (pe_cmpR op_in_seq (pe_ix ix_tup (pv 0) pe_int (fun _ _ => rfl)) (pe_tup (pa_cons pe_str (pa_cons pe_str (pa_cons pe_str pa_nil)))) (by rfl)) (nomark _)))) pss_nil)
    (pss_one (ps_ret (pe_cmpR op_eq (pe_cmpR op_eq (pe_ix ix_str (pe_ix ix_tup (pv 0) pe_int (fun _ _ => rfl)) pe_int (fun _ _ => rfl)) pe_str (nomark _)) (pe_cmpR op_lt (pv 3) (pe_ix ix_tup (pv 0) pe_int (fun _ _ => rfl)) (nomark _)) (nomark _))))))))), ?_⟩
  cases c with
  | neg c =>
    obtain ⟨a, u, rfl, ha, hu⟩ := hx
    simp only [Cnd.dp] at hd
    refine ⟨_, rfl, a, _, _, _, rfl, rfl, ha, at0, rfl, _, rfl, ifT (by decide +kernel) ?_⟩
    exact ⟨_, rfl, a, _, _, _, rfl, rfl, ha, at1, _, rfl, _, rfl, c, u, pa, pd, ats, ds, rfl, hu, by omega, hin, hdat, fun H1 e1 => ⟨_, rfl, q H1 e1⟩⟩
  | con c1 c2 =>
    obtain ⟨a, u, v, rfl, ha, hu, hv⟩ := hx
    simp only [Cnd.dp] at hd
    refine ⟨_, rfl, a, _, _, _, rfl, rfl, ha, at0, rfl, _, rfl, ifF (by decide +kernel) ⟨_, rfl, a, _, _, _, rfl, rfl, ha, at0, rfl, _, rfl, ifT (by decide +kernel) ?_⟩⟩
    refine ⟨_, rfl, a, _, _, _, rfl, rfl, ha, at1, _, rfl, _, rfl, c1, u, pa, pd, ats, ds, rfl, hu, by omega, hin.1, hdat, fun H1 e1 => ⟨_, rfl, ifB (fun h1 => ?_) (fun h1 => ?_)⟩⟩
    · refine ⟨_, rfl, a, _, _, _, rfl, rfl, same_tup e1 ha, at2, _, rfl, _, rfl, c2, v, pa, pd, ats, ds, rfl, hv.same e1, by omega, hin.2, hdat.same e1, fun H2 e2 => ?_⟩
      have z := q H2 (e1.trans e2)
      simp only [Cnd.ev, h1, Bool.true_and] at z
      exact z
    · have z := q H1 e1
      simp only [Cnd.ev, h1, Bool.false_and] at z
      exact z
  | dis c1 c2 =>
    obtain ⟨a, u, v, rfl, ha, hu, hv⟩ := hx
    simp only [Cnd.dp] at hd
    refine ⟨_, rfl, a, _, _, _, rfl, rfl, ha, at0, rfl, _, rfl, ifF (by decide +kernel) ⟨_, rfl, a, _, _, _, rfl, rfl, ha, at0, rfl, _, rfl, ifF (by decide +kernel) ⟨_, rfl, a, _, _, _, rfl, rfl, ha, at0, rfl, _, rfl, ifT (by decide +kernel) ?_⟩⟩⟩
    refine ⟨_, rfl, a, _, _, _, rfl, rfl, ha, at1, _, rfl, _, rfl, c1, u, pa, pd, ats, ds, rfl, hu, by omega, hin.1, hdat, fun H1 e1 => ⟨_, rfl, ifB (fun h1 => ?_) (fun h1 => ?_)⟩⟩
    · have z := q H1 e1
      simp only [Cnd.ev, h1, Bool.true_or] at z
      exact z
    · refine ⟨_, rfl, a, _, _, _, rfl, rfl, same_tup e1 ha, at2, _, rfl, _, rfl, c2, v, pa, pd, ats, ds, rfl, hv.same e1, by omega, hin.2, hdat.same e1, fun H2 e2 => ?_⟩
      have z := q H2 (e1.trans e2)
      simp only [Cnd.ev, h1, Bool.false_or] at z
      exact z
  | cmp n o i =>
    obtain ⟨a, rfl, ha⟩ := hx
    obtain ⟨xs, hpa, hrows⟩ := hdat.ex
    refine ⟨_, rfl, a, _, _, _, rfl, rfl, ha, at0, rfl, _, rfl, ifF (by decide +kernel) ⟨_, rfl, a, _, _, _, rfl, rfl, ha, at0, rfl, _, rfl, ifF (by decide +kernel) ⟨_, rfl, a, _, _, _, rfl, rfl, ha, at0, rfl, _, rfl, ifF (by decide +kernel) ?_⟩⟩⟩
    have hfew := hdat.few
    refine ⟨_, rfl, _, rfl, pa, rfl, ⟨_, hpa⟩, fun D1 nD1 => ?_⟩
    refine lc_mapT (bs := ats) (RepA K) (fun (_ : Hp) (n : PySem.Str) v => v = V.str n) (stays_A K) stays_str (fun t => t.nm) rfl hpa hrows nD1 (sz (by omega)) (fun _ => rfl) (fun i x t Hc hti hF eH Q1 hQ => ?_) (fun H1 ys e1 hD hr => ?_)
    · obtain ⟨c, w', rfl, hc⟩ := hF
      exact ⟨_, rfl, c, _, _, _, rfl, rfl, hc, at0, hQ _ _ (Same.refl Hc) rfl⟩
    have hy := rows_strs (H := H1) hr
    subst hy
    have ha1 := same_tup e1 ha
    refine ⟨.inl ⟨rfl, _, lstS hD⟩, _, rfl, a, _, _, _, rfl, rfl, ha1, at1, ?_⟩
    refine ⟨D1, _, .str n, _, .str n, rfl, rfl, lstS hD, rfl, flat_strs _, index_at hin, beq_self_eq_true n, index_no, ?_⟩
    refine ⟨pd, _, _, _, rfl, rfl, same_tup e1 hdat.data, val_at hdat.len hin, ?_⟩
    have hv : (Cnd.cmp n o i).ev (valOf ats ds) = o.ev (valOf ats ds n) i := rfl
    rw [hv] at q
    generalize valOf ats ds n = x at q
    -- the first way out
    have way1 : ∀ (H2 : Hp) (b : Bool), Same H1 H2 → inV (.str o.nm) [.str "=", .str "<=", .str ">="] = b → (decide (x = i) == b) = o.ev x i → ∀ D : Ends, D.rt = Q →
        tRet (tOp rEq (tOp rEq (tVar 3) (tOp (rIxT K) (tVar 0) (tC (.int 3)))) (tOp (rIn K false) (tOp (rIxT K) (tVar 0) (tC (.int 2))) (tTup (tCons (tC (.str "=")) (tCons (tC (.str "<=")) (tCons (tC (.str ">=")) tNil)))))) D [some (.ref a), some (.ref pa), some (.ref pd), some (.int x), none] H2 := by
      intro H2 b e2 hb hev D eD
      have ha2 := same_tup e2 ha1
      refine ⟨_, rfl, _, rfl, a, _, _, _, rfl, rfl, ha2, at3, rfl, _, rfl, a, _, _, _, rfl, rfl, ha2, at2, tup3, fun pt npt => ⟨pt, _, rfl, .inr (tupS upd_same), rfl, rfl, rfl, ?_⟩⟩
      show D.rt (.bl (decide (V.bl (decide (V.int x = V.int i)) = V.bl (inV (.str o.nm) [.str "=", .str "<=", .str ">="])))) _
      rw [eD, hb, same_bl, show decide (V.int x = V.int i) = decide (x = i) by simp, hev]
      exact q _ (e1.trans (e2.trans (same_upd npt)))
    -- the second
    have way2 : ∀ (H2 : Hp) (b : Bool), Same H1 H2 → (∃ c, atI o.nm.cps.toList 0 = some c ∧ decide (V.str ⟨#[c]⟩ = V.str "<") = b) → (b == decide (x < i)) = o.ev x i → ∀ D : Ends, D.rt = Q →
        tRet (tOp rEq (tOp rEq (tOp rIxS (tOp (rIxT K) (tVar 0) (tC (.int 2))) (tC (.int 0))) (tC (.str "<"))) (tOp (rI0 fun i j => .bl (decide (i < j))) (tVar 3) (tOp (rIxT K) (tVar 0) (tC (.int 3))))) D [some (.ref a), some (.ref pa), some (.ref pd), some (.int x), none] H2 := by
      intro H2 b e2 ⟨c, hc, hb⟩ hev D eD
      have ha2 := same_tup e2 ha1
      refine ⟨_, rfl, a, _, _, _, rfl, rfl, ha2, at2, o.nm, 0, c, rfl, rfl, by cases o <;> decide +kernel, hc, rfl, _, rfl, _, rfl, a, _, _, _, rfl, rfl, ha2, at3, _, _, rfl, rfl, rfl, ?_⟩
      show D.rt (.bl (decide (V.bl (decide (V.str ⟨#[c]⟩ = V.str "<")) = V.bl (decide (x < i))))) _
      rw [eD, hb, same_bl, hev]
      exact q _ (e1.trans e2)
    refine ⟨_, rfl, _, rfl, a, _, _, _, rfl, rfl, ha1, at3, rfl, _, rfl, ?_⟩
    by_cases hxi : x = i
    · refine ifT (by rw [hxi]) (iteT ?_)
      cases o with
      | lt => exact way1 H1 false (Same.refl _) (by decide +kernel) (by simp [Cp.ev, hxi]) _ rfl
      | le => exact way1 H1 true (Same.refl _) (by decide +kernel) (by simp [Cp.ev, hxi]) _ rfl
      | eq => exact way1 H1 true (Same.refl _) (by decide +kernel) (by simp [Cp.ev, hxi]) _ rfl
      | ne => exact way1 H1 false (Same.refl _) (by decide +kernel) (by simp [Cp.ev, hxi]) _ rfl
      | ge => exact way1 H1 true (Same.refl _) (by decide +kernel) (by simp [Cp.ev, hxi]) _ rfl
      | gt => exact way1 H1 false (Same.refl _) (by decide +kernel) (by simp [Cp.ev, hxi]) _ rfl
    · refine ifF (by intro z; cases z; exact hxi rfl) ?_
      refine ⟨_, rfl, a, _, _, _, rfl, rfl, ha1, at2, tup2, fun pt npt => ⟨pt, _, rfl, .inr (tupS upd_same), rfl, rfl, _, rfl, ?_⟩⟩
      have e2 := same_upd (o := .tup [.str "=", .str "!="]) npt
      cases o with
      | lt => exact iteV (b := false) (by decide +kernel) (way2 _ true e2 ⟨_, rfl, by decide +kernel⟩ (by simp [Cp.ev]) _ rfl)
      | le => exact iteV (b := false) (by decide +kernel) (way2 _ true e2 ⟨_, rfl, by decide +kernel⟩ (by simp [Cp.ev]; omega) _ rfl)
      | eq => exact iteV (b := true) (by decide +kernel) (way1 _ true e2 (by decide +kernel) (by simp [Cp.ev, hxi]) _ rfl)
      | ne => exact iteV (b := true) (by decide +kernel) (way1 _ false e2 (by decide +kernel) (by simp [Cp.ev, hxi]) _ rfl)
      | ge => exact iteV (b := false) (by decide +kernel) (way2 _ false e2 ⟨_, rfl, by decide +kernel⟩ (by by_cases z : x < i <;> simp [Cp.ev, z] <;> omega) _ rfl)
      | gt => exact iteV (b := false) (by decide +kernel) (way2 _ false e2 ⟨_, rfl, by decide +kernel⟩ (by by_cases z : x < i <;> simp [Cp.ev, z] <;> omega) _ rfl)
theorem ok_ltrue (D : Dfn K mg "_law_true" s_law_true) (M : Mo K mg) : ∀ d : Nat, Callee P w K mg base d "_law_true" ["_law_condition_here", "_law_attributes_here", "_law_data_here"] (spHolds K d)
  | 0 => ltrue_none D
  | d + 1 => ltrue_step D M (ok_ltrue D M d)
end
end Tf

namespace Tf
open PySem PySem.Spec PyProof.Rows L2
/-! ### words of few small letters -/
def Lts (w : Wd) : Prop := ∀ x ∈ w, 0 ≤ x ∧ x < 7
structure Wb (size : Nat) (rows : List Wd) : Prop where
  nd : rows.Nodup
  len : ∀ w ∈ rows, w.length ≤ size
  lts : ∀ w ∈ rows, Lts w
def code : Wd → Nat
  | [] => 0
  | x :: w => code w * 8 + (x.toNat + 1)
theorem code_inj : ∀ {u v : Wd}, Lts u → Lts v → code u = code v → u = v
  | [], [], _, _, _ => rfl
  | [], y :: v, _, hv, h => by
    simp only [code] at h
    omega
  | x :: u, [], hu, _, h => by
    simp only [code] at h
    omega
  | x :: u, y :: v, hu, hv, h => by
    have hx := hu x List.mem_cons_self
    have hy := hv y List.mem_cons_self
    simp only [code] at h
    have e1 : x = y := by omega
    have e2 : code u = code v := by omega
    rw [e1, code_inj (fun z hz => hu z (List.mem_cons_of_mem _ hz)) (fun z hz => hv z (List.mem_cons_of_mem _ hz)) e2]
theorem code_lt : ∀ {u : Wd}, Lts u → code u < 8 ^ u.length
  | [], _ => by simp [code]
  | x :: u, hu => by
    have hx := hu x List.mem_cons_self
    have h := code_lt (u := u) (fun z hz => hu z (List.mem_cons_of_mem _ hz))
    simp only [code, List.length_cons]
    rw [Nat.pow_succ]
    omega
theorem Wb.few {size : Nat} {rows : List Wd} (h : Wb size rows) (hs : size ≤ 3) : rows.length ≤ 512 := by
  have hn : (rows.map code).Nodup := by
    rw [List.Nodup, List.pairwise_map]
    exact List.Pairwise.imp_of_mem (fun {a b} ha hb hab e => hab (code_inj (h.lts a ha) (h.lts b hb) e)) h.nd
  have hl := sub_len (rows.map code) (List.range 512) hn fun c hc => by
    obtain ⟨u, hu, rfl⟩ := List.mem_map.mp hc
    rw [List.mem_range]
    have h1 := code_lt (h.lts u hu)
    have h2 : 8 ^ u.length ≤ 8 ^ 3 := Nat.pow_le_pow_right (by decide) (Nat.le_trans (h.len u hu) hs)
    have h3 : (8 : Nat) ^ 3 = 512 := by decide
    omega
  rw [List.length_map, List.length_range] at hl
  exact hl
theorem short_wb {rows : List Wd} {size : Nat} (h : ∀ w ∈ rows, Lts w) : Wb size (short rows size) where
  nd := nodup_short rows size
  len := fun w hw => (mem_short.mp hw).2
  lts := fun w hw => h w (mem_short.mp hw).1
theorem lts_append {u v : Wd} (hu : Lts u) (hv : Lts v) : Lts (u ++ v) := fun x hx => (List.mem_append.mp hx).elim (hu x) (hv x)
theorem lts_mix {u v w : Wd} (m : Mix u v w) : Lts u → Lts v → Lts w := by
  induction m with
  | nil => exact fun _ _ x hx => by cases hx
  | left _ ih =>
    intro hu hv x hx
    rcases List.mem_cons.mp hx with rfl | hx
    · exact hu _ List.mem_cons_self
    · exact ih (fun z hz => hu z (List.mem_cons_of_mem _ hz)) hv x hx
  | right _ ih =>
    intro hu hv x hx
    rcases List.mem_cons.mp hx with rfl | hx
    · exact hv _ List.mem_cons_self
    · exact ih hu (fun z hz => hv z (List.mem_cons_of_mem _ hz)) x hx
theorem chains_wb {f s : List Wd} {size : Nat} (hf : ∀ w ∈ f, Lts w) (hs : ∀ w ∈ s, Lts w) : Wb size (chains f s size) := by
  refine short_wb fun w hw => ?_
  obtain ⟨l, hl, hw⟩ := List.mem_flatMap.mp hw
  obtain ⟨r, hr, rfl⟩ := List.mem_map.mp hw
  exact lts_append (hf l hl) (hs r (List.mem_filter.mp hr).1)
theorem blends_wb {f s : List Wd} {size : Nat} (hf : ∀ w ∈ f, Lts w) (hs : ∀ w ∈ s, Lts w) : Wb size (blends f s size) := by
  refine short_wb fun w hw => ?_
  obtain ⟨l, hl, hw⟩ := List.mem_flatMap.mp hw
  obtain ⟨r, hr, hw⟩ := List.mem_flatMap.mp hw
  split at hw
  · exact lts_mix ((mem_mixes l r).mp hw) (hf l hl) (hs r hr)
  · cases hw
theorem oftenN_wb {again : List Wd} {size : Nat} (ha : ∀ w ∈ again, Lts w) : ∀ (n : Nat) {rows : List Wd}, Wb size rows → Wb size (oftenN again size n rows)
  | 0, _, h => h
  | n + 1, rows, h => oftenN_wb ha n (short_wb fun w hw => (List.mem_append.mp hw).elim (h.lts w) ((chains_wb h.lts ha).lts w))
theorem mixes_len : ∀ u v : Wd, (mixes u v).length ≤ 2 ^ (u.length + v.length)
  | [], v => by
    simp only [mixes, List.length_cons, List.length_nil]
    exact Nat.one_le_two_pow
  | x :: u, [] => by
    simp only [mixes, List.length_cons, List.length_nil]
    exact Nat.one_le_two_pow
  | x :: u, y :: v => by
    have h1 := mixes_len u (y :: v)
    have h2 := mixes_len (x :: u) v
    simp only [mixes, List.length_append, List.length_map, List.length_cons] at h1 h2 ⊢
    have e1 : u.length + 1 + (v.length + 1) = u.length + (v.length + 1) + 1 := by omega
    have e2 : u.length + 1 + v.length = u.length + (v.length + 1) := by omega
    rw [e2] at h2
    rw [e1, Nat.pow_succ]
    omega
/-! ### rows as they lie -/
def RepS (H : Hp) (u : Wd) (v : V) : Prop := ∃ p, v = .ref p ∧ H p = some (.tup (u.map V.int))
theorem stays_S : Stays RepS := fun _ _ _ _ e ⟨p, hv, h⟩ => ⟨p, hv, e.tup _ _ h⟩
def OutS (H : Hp) (rows : List Wd) (Q : VK) : Prop := ∀ H' p ys, Same H H' → H' p = some (.lst ys) → Rows (RepS H') ys rows → Q (.ref p) H'
theorem OutS.mono {H H1 : Hp} {rows : List Wd} {Q : VK} (e : Same H H1) (q : OutS H rows Q) : OutS H1 rows Q := fun H' p ys e' hp hr => q H' p ys (e.trans e') hp hr
theorem catS {K : PySem.W.Frag} {H : Hp} {a b : Addr} {xs ys : List V} {Q : VK} (ha : H a = some (.tup xs)) (hb : H b = some (.tup ys)) (hz : xs.length + ys.length ≤ sizeLine) (q : ∀ p H', Same H H' → H' p = some (.tup (xs ++ ys)) → Q (.ref p) H') : rCatA K (.ref a) (.ref b) H Q := by
  refine ⟨a, b, xs, ys, rfl, rfl, tupS ha, tupS hb, hz, fun e => ?_, fun _ e => ?_, fun _ _ p np => q p _ (same_upd np) upd_same⟩
  · subst e
    exact q b H (Same.refl H) hb
  · subst e
    refine q a H (Same.refl H) ?_
    rw [List.append_nil]
    exact ha
theorem slS {K : PySem.W.Frag} {H : Hp} {a : Addr} {xs zs : List V} {lo hi : Option Int} {Q : VK} (ha : H a = some (.tup xs)) (hz : cutV xs lo hi = zs) (q : ∀ p H', Same H H' → H' p = some (.tup zs) → Q (.ref p) H') : rSlA K (.ref a) lo hi H Q := by
  refine ⟨a, xs, rfl, tupS ha, fun ⟨e1, e2⟩ => ?_, fun _ p np => q p _ (same_upd np) (by rw [hz]; exact upd_same)⟩
  have : cutV xs lo hi = xs := by
    unfold cutV
    rw [e1, e2, List.drop_zero, Nat.sub_zero, List.take_length]
  refine q a H (Same.refl H) ?_
  rw [← hz, this]
  exact ha
theorem cut_tail (x : V) (xs : List V) : cutV (x :: xs) (some 1) none = xs := by
  unfold cutV
  have h1 : HT.sIx (x :: xs).length 0 (some 1) = 1 := by
    rw [show (1 : Int) = ((1 : Nat) : Int) from rfl, HT.sIx_nat]
    simp only [List.length_cons]
    omega
  rw [h1, HT.sIx_none, List.drop_succ_cons, List.drop_zero]
  simp
theorem cut_head (x : V) (xs : List V) : cutV (x :: xs) none (some 1) = [x] := by
  unfold cutV
  have h1 : HT.sIx (x :: xs).length (x :: xs).length (some 1) = 1 := by
    rw [show (1 : Int) = ((1 : Nat) : Int) from rfl, HT.sIx_nat]
    simp only [List.length_cons]
    omega
  rw [h1, HT.sIx_none, List.drop_zero]
  rfl
/-! ### the dict of rows -/
def keyOf (u : Wd) : List Key := u.map Sum.inl
theorem keyOf_kV (u : Wd) : (keyOf u).map kV = u.map V.int := by
  unfold keyOf
  rw [List.map_map]
  rfl
theorem keyOf_inj {u v : Wd} : keyOf u = keyOf v ↔ u = v := by
  constructor
  · intro h
    have := congrArg (List.map kV) h
    rw [keyOf_kV, keyOf_kV] at this
    exact List.map_inj_right (fun a b z => by cases z; rfl) |>.mp this
  · exact congrArg keyOf
def kvOf (u : Wd) : List Key × V := (keyOf u, .bl true)
theorem any_kv (D : List Wd) (u : Wd) : ((D.map kvOf).any fun kv => decide (kv.1 = keyOf u)) = decide (u ∈ D) := by
  induction D with
  | nil => simp
  | cons x D ih =>
    rw [List.map_cons, List.any_cons, ih]
    by_cases h : x = u
    · subst h
      simp [kvOf]
    · have h' : ¬ u = x := fun z => h z.symm
      simp [kvOf, keyOf_inj, h, h']
theorem put_kv (D : List Wd) (u : Wd) : putK (D.map kvOf) (keyOf u) (.bl true) = (dedT D u).map kvOf := by
  unfold putK
  rw [any_kv]
  by_cases h : u ∈ D
  · rw [if_pos (decide_eq_true h), dedT, if_pos h, List.map_map]
    apply List.map_congr_left
    intro x _
    simp only [Function.comp_apply]
    split
    · rfl
    · rfl
  · rw [if_neg (by rw [decide_eq_false h]; exact Bool.false_ne_true), dedT, if_neg h, List.map_append]
    rfl
theorem keys_rows {H : Hp} : ∀ {D : List Wd} {bs : List Addr}, IsKeys H (D.map kvOf) bs → Rows (RepS H) (bs.map V.ref) D
  | [], _, h => by
    cases h
    exact .nil
  | u :: D, _, h => by
    cases h with
    | cons a t =>
      refine .cons ⟨_, rfl, ?_⟩ (keys_rows t)
      rw [← keyOf_kV]
      exact a
theorem same_dT {H : Hp} {p : Addr} {o : HO} {kvs : List (List Key × V)} (h : H p = some (.dT kvs)) : Tk H (upd H p o) := by
  constructor
  · intro a ys e
    have : a ≠ p := fun z => by
      rw [z, h] at e
      cases e
    rw [upd_ne this]
    exact e
  · intro a o u e
    have : a ≠ p := fun z => by
      rw [z, h] at e
      cases e
    rw [upd_ne this]
    exact e
theorem short_take {rows : List Wd} {size i : Nat} {u : Wd} (h : rows[i]? = some u) : short (rows.take (i + 1)) size = if u.length ≤ size then dedT (short (rows.take i) size) u else short (rows.take i) size := by
  unfold short
  rw [take_succ h, List.filter_append, List.filter_cons, List.filter_nil]
  by_cases hu : u.length ≤ size
  · rw [if_pos (decide_eq_true hu), if_pos hu, ded_snoc]
  · rw [if_neg (by rw [decide_eq_false hu]; exact Bool.false_ne_true), if_neg hu, List.append_nil]
theorem short_le (rows : List Wd) (size : Nat) : (short rows size).length ≤ rows.length := Nat.le_trans (length_ded _) (List.length_filter_le _ _)
theorem szB {n : Nat} (h : n ≤ 10000000) : n ≤ sizeLine := Nat.le_trans h (by decide)
theorem szlB {n : Nat} (h : n < 10000000) : n < sizeLine := Nat.lt_of_lt_of_le h (by decide)
section
variable {K : PySem.W.Frag} {β γ : Type}
/-- [f(x) for x in xs if p(x)] -/
theorem lc_fm {a : Addr} {xs : List V} {bs : List β} {g : TG} {te : TE} {tt : TT} {vs : List Nat} {σ : L2.St} {H1 : Hp} {D : Addr} {Qd : Hp → Prop} {j : Nat} (F : Hp → β → V → Prop) (G : Hp → γ → V → Prop) (sF : Stays F) (sG : Stays G) (p : β → Bool) (f : β → γ)
    (hg : g = gName j) (hS : SqL K H1 a xs) (hb : Rows (F H1) xs bs) (hD : H1 D = none) (hz : bs.length ≤ sizeLine) (hw : ∀ x : V, wipe ((wipe σ vs).set j (some x)) vs = wipe σ vs)
    (turn : ∀ (i : Nat) (x : V) (b : β) (Hc : Hp), bs[i]? = some b → F Hc b x → Same H1 Hc → ∀ Q : Bool → Hp → Prop, (∀ H4, Same Hc H4 → Q (p b) H4) → tt ((wipe σ vs).set j (some x)) Hc Q)
    (elt : ∀ (i : Nat) (x : V) (b : β) (Hc : Hp), bs[i]? = some b → p b = true → F Hc b x → Same H1 Hc → ∀ Q : VK, (∀ y H4, Same Hc H4 → G H4 (f b) y → Q y H4) → te ((wipe σ vs).set j (some x)) Hc Q)
    (done : ∀ Hd ys, Same H1 Hd → Hd D = some (.lst ys) → Rows (G Hd) ys ((bs.filter p).map f) → Qd Hd) :
    ∃ W : Nat → Nat → Hp → Prop, (∃ m, W 0 m (upd H1 D (.lst []))) ∧ ∀ i m H, W i m H →
      ((Itl K a).stop i H ∧ Qd H) ∨ ((Itl K a).go i H ∧ ∃ Nx : Hp → Prop, (∀ H', Nx H' → ∃ m', m' < m ∧ W (i + 1) m' H') ∧ ∀ x H', (Itl K a).yld i H x H' → g x (wipe σ vs) H' fun σ2 H2 => wipe σ2 vs = wipe σ vs ∧ tt σ2 H2 fun b H3 =>
        if b = true then te σ2 H3 fun y H4 => ∃ acc, H4 D = some (.lst acc) ∧ acc.length < sizeLine ∧ Nx (upd H4 D (.lst (acc ++ [y]))) else Nx H3) := by
  subst hg
  have hlen := hb.len
  refine lc_list (xs := xs) (fun i H => ∃ ys, Same H1 H ∧ H D = some (.lst ys) ∧ Rows (G H) ys (((bs.take i).filter p).map f)) ⟨[], same_upd hD, upd_same, .nil⟩ (fun i H _ ⟨ys, e, _⟩ => e.seq hS) (fun i x H hx ⟨ys, e, hy, hr⟩ => ?_) (fun H ⟨ys, e, hy, hr⟩ => ?_)
  · obtain ⟨b, hbi, hF⟩ := hb.get hx
    refine ⟨hw x, turn i x b H hbi (sF _ _ _ _ (te_same e) hF) e _ fun H3 e3 => ifB (fun hp => ?_) (fun hp => ?_)⟩
    · refine elt i x b H3 hbi hp (sF _ _ _ _ (te_same (e.trans e3)) hF) (e.trans e3) _ fun y H4 e4 hG => ⟨ys, e4 _ _ (e3 _ _ hy), ?_, _, same_mut (e.trans (e3.trans e4)) hD, upd_same, ?_⟩
      · have h1 := hr.len
        have h0 := List.length_filter_le p (bs.take i)
        rw [List.length_map] at h1
        rw [List.length_take] at h0
        have h2 := (List.getElem?_eq_some_iff.mp hbi).1
        omega
      · have t1 : Tk H4 (upd H4 D (.lst (ys ++ [y]))) := te_lst (e4 _ _ (e3 _ _ hy))
        rw [take_succ hbi, List.filter_append, List.filter_cons, if_pos hp, List.map_append]
        exact (Rows.te sG ((te_same (e3.trans e4)).trans t1) hr).append (.one (sG _ _ _ _ t1 hG))
    · refine ⟨ys, e.trans e3, e3 _ _ hy, ?_⟩
      rw [take_succ hbi, List.filter_append, List.filter_cons, if_neg (by rw [hp]; exact Bool.false_ne_true), List.filter_nil, List.append_nil]
      exact Rows.te sG (te_same e3) hr
  · refine done H ys e hy ?_
    rw [hlen, List.take_length] at hr
    exact hr
end
section
variable {P : Program} {w : World} {K : PySem.W.Frag} {mg : PySem.Str → Option Value} {base : Heap}
/-! ### _law_short -/
abbrev s_law_short : Stmt := top 47
abbrev nm_law_short : List PySem.Str := ["_law_rows", "_law_size", "_law_found", "_law_row"]
theorem sc_law_short : FnScope nm_law_short ["_law_rows", "_law_size"] (defScope s_law_short) := ⟨rfl, rfl, rfl, by decide +kernel, rfl, by decide +kernel, by decide +kernel⟩
def spShortL : Sp := fun vs H Q _ => ∃ (l : Addr) (xs : List V) (rows : List Wd) (size : Nat), vs = [.ref l, .int size] ∧ H l = some (.lst xs) ∧ Rows (RepS H) xs rows ∧ rows.length ≤ 9000000 ∧ OutS H (short rows size) Q
theorem ok_lshort (D : Dfn K mg "_law_short" s_law_short) (M : Mo K mg) : Callee P w K mg base 1 "_law_short" ["_law_rows", "_law_size"] spShortL := by
  refine D.ok (fun _ _ _ _ _ _ us hl => match us, hl with | [_, _], _ => rfl) sc_law_short (fun vs H Q E h => ?_) (fun f cdv A outer s H vs Q E hr h => ?_)
  · obtain ⟨l, xs, rows, size, rfl, _⟩ := h
    rfl
  obtain ⟨l, xs, rows, size, rfl, hl, hb, hz, q⟩ := h
  have hlen := hb.len
  refine ⟨_, (pss_cons (ps_set (i := 2) sc_law_short.nd rfl (by first | exact Or.inl rfl | exact Or.inr rfl) pe_dnewT)
    (pss_cons (ps_for PassesOwn.never rfl (pi_list (pv 0)) (pg_name (i := 3) sc_law_short.nd rfl (by first | exact Or.inl rfl | exact Or.inr rfl)) (pss_one (ps_if (pt_cmpR op_le (pe_callB call_len_seq (by rfl) M.len PySem.boot_len (pa_cons (pv 3) pa_nil)) (pv 1) (nomark _)) (pss_one (ps_dput (hu_of hr) (pv 2) (pv 3) pe_bl rfl)) pss_nil)))
    (pss_one (ps_ret (pe_callTy (call_list_dT rfl) (by rfl) M.list_ (by decide +kernel) (pa_cons (pv 2) pa_nil)))))), ?_⟩
  refine fun d nd => ⟨_, rfl, l, rfl, ⟨_, lstS (same_upd nd _ _ hl)⟩, for_list (xs := xs) (fun i σ H1 => ∃ y, σ = [some (.ref l), some (.int size), some (.ref d), y] ∧ Same H H1 ∧ H1 d = some (.dT ((short (rows.take i) size).map kvOf)))
    ⟨_, rfl, same_upd nd, upd_same⟩ (fun i σ H1 _ ⟨_, _, e, _⟩ => lstS (e _ _ hl)) (fun i x σ H1 hx ⟨y, es, e, hd⟩ => ?_) (fun σ H1 ⟨y, es, e, hd⟩ => ?_)⟩
  · subst es
    obtain ⟨u, hui, hF⟩ := hb.get hx
    obtain ⟨p, rfl, hp⟩ := stays_S _ _ _ _ (te_same e) hF
    refine ⟨_, rfl, p, _, rfl, .inr (tupS hp), _, rfl, _, _, rfl, rfl, _, rfl, ?_⟩
    rw [List.length_map]
    have hsl := short_le (rows.take i) size
    rw [List.length_take] at hsl
    have hil := (List.getElem?_eq_some_iff.mp hui).1
    by_cases hu : u.length ≤ size
    · refine ifT (by omega) ⟨_, rfl, _, rfl, d, _, rfl, DPut.t hd (k := keyOf u) (by rw [keyOf_kV]; exact hp) (by rw [List.length_map]; exact szlB (by omega)), _, rfl, same_mut e nd, ?_⟩
      rw [short_take hui, if_pos hu, put_kv]
      exact upd_same
    · refine ifF (by omega) ⟨_, rfl, e, ?_⟩
      rw [short_take hui, if_neg hu]
      exact hd
  · subst es
    rw [hlen, List.take_length] at hd
    refine ⟨_, rfl, d, _, rfl, .inl hd, fun p bs np hk => ?_⟩
    exact q _ p _ (e.trans (same_upd np)) upd_same (Rows.same stays_S (same_upd np) (keys_rows hk))
end
end Tf

namespace Tf
open PySem PySem.Spec PyProof.Rows L2
section
variable {P : Program} {w : World} {K : PySem.W.Frag} {mg : PySem.Str → Option Value} {base : Heap}
/-! ### _law_mixes -/
abbrev s_law_mixes : Stmt := top 49
abbrev nm_law_mixes : List PySem.Str := ["_law_left", "_law_right", "_law_rows", "_law_row"]
theorem sc_law_mixes : FnScope nm_law_mixes ["_law_left", "_law_right"] (defScope s_law_mixes) := ⟨rfl, rfl, rfl, by decide +kernel, rfl, by decide +kernel, by decide +kernel⟩
def spMixes (d : Nat) : Sp := fun vs H Q _ => ∃ (a b : Addr) (u v : Wd), vs = [.ref a, .ref b] ∧ H a = some (.tup (u.map V.int)) ∧ H b = some (.tup (v.map V.int)) ∧ u.length + v.length < d ∧ u.length + v.length ≤ 10 ∧ OutS H (mixes u v) Q
theorem mixes_none (D : Dfn K mg "_law_mixes" s_law_mixes) : Callee P w K mg base 0 "_law_mixes" ["_law_left", "_law_right"] (spMixes 0) :=
  D.none (fun _ _ _ _ _ _ us hl => match us, hl with | [_, _], _ => rfl) fun vs H Q E h => by
    obtain ⟨a, b, u, v, _, _, _, hd, _⟩ := h
    omega
theorem mixes_few {u v : Wd} (h : u.length + v.length ≤ 10) : (mixes u v).length ≤ 1024 :=
  Nat.le_trans (mixes_len u v) (Nat.le_trans (Nat.pow_le_pow_right (by decide) h) (by decide))
theorem mixes_step {d : Nat} (D : Dfn K mg "_law_mixes" s_law_mixes) (C_law_mixes : Callee P w K mg base d "_law_mixes" ["_law_left", "_law_right"] (spMixes d)) : Callee P w K mg base (d + 1) "_law_mixes" ["_law_left", "_law_right"] (spMixes (d + 1)) := by
  refine D.ok (fun _ _ _ _ _ _ us hl => match us, hl with | [_, _], _ => rfl) sc_law_mixes (fun vs H Q E h => ?_) (fun f cdv A outer s H vs Q E hr h => ?_)
  · obtain ⟨a, b, u, v, rfl, _⟩ := h
    rfl
  obtain ⟨a, b, u, v, rfl, ha, hb, hd, h10, q⟩ := h
  refine ⟨_, (pss_cons (ps_if (PW.pt (pw_or (pt_not (pt_truth (pv 0) (by intro _; rfl))) (pw_or1 (pt_not (pt_truth (pv 1) (by intro _; rfl)))))) (pss_one (ps_ret (pe_lst (pa_cons (pe_op op_catA (pv 0) (pv 1)) pa_nil)))) pss_nil)
    (pss_cons (ps_setLc (i := 2) (own := [("_law_row", 3)]) rfl sc_law_mixes.nd rfl rfl (sw_true rfl rfl rfl (by decide +kernel)) (pi_list (pe_callC C_law_mixes (hr.mono (by omega)) (by rfl) (pa_cons (pe_slice sl_tupA (pv 0) (po_some pe_int) po_none) (pa_cons (pv 1) pa_nil)))) (blkOk_by (own := [("_law_row", 3)]) (N := nm_law_mixes) (sc := defScope s_law_mixes) (by decide +kernel)) (fun _ _ _ _ _ => (pg_name (i := 3) sc_law_mixes.nd rfl (by first | exact Or.inl rfl | exact Or.inr rfl))) (fun _ _ _ _ _ => pts_nil) (fun _ _ _ _ _ => (pe_op (op_catK (K := K) rfl) (pe_slice (sl_tupK (K := K) rfl) (pv 0) po_none (po_some pe_int)) (pv 3))))
    (pss_one (ps_ret (pe_op op_cat (pv 2) (pe_lc (own := [("_law_row", 3)]) rfl sc_law_mixes.nd (pi_list (pe_callC C_law_mixes (hr.mono (by omega)) (by rfl) (pa_cons (pv 0) (pa_cons (pe_slice sl_tupA (pv 1) (po_some pe_int) po_none) pa_nil)))) (blkOk_by (own := [("_law_row", 3)]) (N := nm_law_mixes) (sc := defScope s_law_mixes) (by decide +kernel)) (fun _ _ _ _ _ => (pg_name (i := 3) sc_law_mixes.nd rfl (by first | exact Or.inl rfl | exact Or.inr rfl))) (fun _ _ _ _ _ => pts_nil) (fun _ _ _ _ _ => (pe_op (op_catK (K := K) rfl) (pe_slice (sl_tupK (K := K) rfl) (pv 1) po_none (po_some pe_int)) (pv 3))))))))), ?_⟩
  have ends : ∀ (r : Wd), u ++ v = r → mixes u v = [r] → rCatA K (.ref a) (.ref b) H (fun x H1 => [x].length ≤ sizeLine ∧ ∀ p, H1 p = none → Q (.ref p) (upd H1 p (.lst [x]))) := by
    intro r er em
    refine catS ha hb (by rw [List.length_map, List.length_map]; exact sz (by omega)) fun p H1 e1 hp => ⟨one_le (.inl rfl), fun p2 np2 => q _ p2 _ (e1.trans (same_upd np2)) upd_same ?_⟩
    rw [em]
    refine .one ⟨p, rfl, same_upd np2 _ _ ?_⟩
    rw [← er, List.map_append]
    exact hp
  cases u with
  | nil =>
    refine ⟨_, rfl, _, .inr (.inl ⟨_, tupS ha, rfl⟩), iteT (iteT ⟨_, rfl, _, rfl, ends v rfl (by simp only [mixes])⟩)⟩
  | cons x u =>
    refine ⟨_, rfl, _, .inr (.inl ⟨_, tupS ha, rfl⟩), iteF ⟨_, rfl, _, .inr (.inl ⟨_, tupS hb, rfl⟩), ?_⟩⟩
    cases v with
    | nil => exact iteT ⟨_, rfl, _, rfl, ends (x :: u) (List.append_nil _) (by simp only [mixes])⟩
    | cons y v =>
      refine iteF ?_
      simp only [List.length_cons] at hd h10
      refine ⟨_, rfl, 1, rfl, ?_⟩
      unfold tNoPart
      refine slS ha (cut_tail _ _) fun pa H1 e1 hpa => ⟨_, rfl, pa, b, u, y :: v, rfl, hpa, e1 _ _ hb, by simp only [List.length_cons]; omega, by simp only [List.length_cons]; omega, fun H2 l1 ys e2 hl1 hys => ?_⟩
      have f1 := mixes_few (u := u) (v := y :: v) (by simp only [List.length_cons]; omega)
      have f2 := mixes_few (u := x :: u) (v := v) (by simp only [List.length_cons]; omega)
      have e12 := e1.trans e2
      refine ⟨l1, rfl, ⟨_, lstS hl1⟩, fun D1 nD1 => ?_⟩
      refine lc_map (bs := mixes u (y :: v)) RepS RepS stays_S stays_S (fun r => x :: r) rfl (lstS hl1) hys nD1 (sz (by omega)) (fun _ => rfl) (fun i z r Hc hri hF eH Q1 hQ => ?_) (fun H3 zs e3 hD1 hzs => ?_)
      · obtain ⟨pr, rfl, hpr⟩ := hF
        have hrl : r.length ≤ 100 := by
          have := mem_mixes u (y :: v) |>.mp (List.mem_of_getElem? hri)
          have := Mix_length this
          simp only [List.length_cons] at this
          omega
        refine ⟨_, rfl, 1, rfl, slS ((e12.trans eH) _ _ ha) (cut_head _ _) fun ph H4 e4 hph => ⟨_, rfl, catS hph (e4 _ _ hpr) (by simp only [List.length_map, List.length_cons, List.length_nil]; exact sz (by omega)) fun p5 H5 e5 hp5 => hQ _ H5 (e4.trans e5) ⟨p5, rfl, hp5⟩⟩⟩
      have e13 := e12.trans e3
      refine ⟨_, rfl, _, rfl, _, rfl, 1, rfl, ?_⟩
      refine slS (e13 _ _ hb) (cut_tail _ _) fun pb H4 e4 hpb => ⟨a, pb, x :: u, v, rfl, (e13.trans e4) _ _ ha, hpb, by simp only [List.length_cons]; omega, by simp only [List.length_cons]; omega, fun H5 l2 ys2 e5 hl2 hys2 => ?_⟩
      have e15 := e13.trans (e4.trans e5)
      refine ⟨l2, rfl, ⟨_, lstS hl2⟩, fun D2 nD2 => ?_⟩
      refine lc_map (bs := mixes (x :: u) v) RepS RepS stays_S stays_S (fun r => y :: r) rfl (lstS hl2) hys2 nD2 (sz (by omega)) (fun _ => rfl) (fun i z r Hc hri hF eH Q1 hQ => ?_) (fun H6 ws e6 hD2 hws => ?_)
      · obtain ⟨pr, rfl, hpr⟩ := hF
        have hrl : r.length ≤ 100 := by
          have := mem_mixes (x :: u) v |>.mp (List.mem_of_getElem? hri)
          have := Mix_length this
          simp only [List.length_cons] at this
          omega
        refine ⟨_, rfl, 1, rfl, slS ((e15.trans eH) _ _ hb) (cut_head _ _) fun ph H4 e4 hph => ⟨_, rfl, catS hph (e4 _ _ hpr) (by simp only [List.length_map, List.length_cons, List.length_nil]; exact sz (by omega)) fun p5 H5 e5 hp5 => hQ _ H5 (e4.trans e5) ⟨p5, rfl, hp5⟩⟩⟩
      have e46 := e4.trans (e5.trans e6)
      have lz := hzs.len
      have lw := hws.len
      rw [List.length_map] at lz lw
      refine catL (e46 _ _ hD1) hD2 (sz (by omega)) fun p7 H7 e7 np7 hp7 => ?_
      refine q H7 p7 _ (e15.trans (e6.trans e7)) hp7 ?_
      simp only [mixes]
      exact (Rows.same stays_S (e46.trans e7) hzs).append (Rows.same stays_S e7 hws)
theorem ok_mixes (D : Dfn K mg "_law_mixes" s_law_mixes) : ∀ d : Nat, Callee P w K mg base d "_law_mixes" ["_law_left", "_law_right"] (spMixes d)
  | 0 => mixes_none D
  | d + 1 => mixes_step D (ok_mixes D d)
/-! ### _law_chains -/
abbrev s_law_chains : Stmt := top 48
abbrev nm_law_chains : List PySem.Str := ["_law_first", "_law_second", "_law_size", "_law_rows", "_law_left", "_law_right"]
theorem sc_law_chains : FnScope nm_law_chains ["_law_first", "_law_second", "_law_size"] (defScope s_law_chains) := ⟨rfl, rfl, rfl, by decide +kernel, rfl, by decide +kernel, by decide +kernel⟩
def spChains : Sp := fun vs H Q _ => ∃ (a b : Addr) (xs ys : List V) (f s : List Wd) (size : Nat), vs = [.ref a, .ref b, .int size] ∧ H a = some (.lst xs) ∧ Rows (RepS H) xs f ∧ H b = some (.lst ys) ∧ Rows (RepS H) ys s ∧ f.length ≤ 1000 ∧ s.length ≤ 1000 ∧ (∀ u ∈ f, u.length ≤ 100) ∧ (∀ u ∈ s, u.length ≤ 100) ∧ OutS H (chains f s size) Q
def chainRow (s : List Wd) (size : Nat) (l : Wd) : List Wd := (s.filter fun r => decide (l.length + r.length ≤ size)).map fun r => l ++ r
theorem chainRow_le (s : List Wd) (size : Nat) (l : Wd) : (chainRow s size l).length ≤ s.length := by
  unfold chainRow
  rw [List.length_map]
  exact List.length_filter_le _ _
theorem flat_const {α β : Type} (g : α → List β) (n : Nat) : ∀ (l : List α), (∀ x ∈ l, (g x).length ≤ n) → (l.flatMap g).length ≤ l.length * n
  | [], _ => by simp
  | y :: l, h => by
    rw [List.flatMap_cons, List.length_append, List.length_cons, Nat.succ_mul]
    have h1 := h y List.mem_cons_self
    have h2 := flat_const g n l fun x hx => h x (List.mem_cons_of_mem _ hx)
    omega
theorem ok_chains (D : Dfn K mg "_law_chains" s_law_chains) (M : Mo K mg) (C_law_short : Callee P w K mg base 1 "_law_short" ["_law_rows", "_law_size"] spShortL) : Callee P w K mg base 2 "_law_chains" ["_law_first", "_law_second", "_law_size"] spChains := by
  refine D.ok (fun _ _ _ _ _ _ us hl => match us, hl with | [_, _, _], _ => rfl) sc_law_chains (fun vs H Q E h => ?_) (fun f cdv A outer s H vs Q E hr h => ?_)
  · obtain ⟨a, b, xs, ys, f, s, size, rfl, _⟩ := h
    rfl
  obtain ⟨a, b, xs, ys, ff, ss, size, rfl, ha, hf, hb, hs, lf, ls, hfl, hsl, q⟩ := h
  have hlen := hf.len
  refine ⟨_, (pss_cons (ps_set (i := 3) sc_law_chains.nd rfl (by first | exact Or.inl rfl | exact Or.inr rfl) (pe_lst pa_nil))
    (pss_cons (ps_for PassesOwn.never rfl (pi_list (pv 0)) (pg_name (i := 4) sc_law_chains.nd rfl (by first | exact Or.inl rfl | exact Or.inr rfl)) (pss_one (ps_set (i := 3) sc_law_chains.nd rfl (by first | exact Or.inl rfl | exact Or.inr rfl) (pe_op op_cat (pv 3) (pe_lc (own := [("_law_right", 5)]) rfl sc_law_chains.nd (pi_list (pv 1)) (blkOk_by (own := [("_law_right", 5)]) (N := nm_law_chains) (sc := defScope s_law_chains) (by decide +kernel)) (fun _ _ _ _ _ => (pg_name (i := 5) sc_law_chains.nd rfl (by first | exact Or.inl rfl | exact Or.inr rfl))) (fun _ _ _ _ _ => (pts_one (pt_cmpR op_le (pe_op op_add (pe_callB (cr_lenK (K := K) rfl) (by rfl) M.len PySem.boot_len (pa_cons (pv 4) pa_nil)) (pe_callB (cr_lenK (K := K) rfl) (by rfl) M.len PySem.boot_len (pa_cons (pv 5) pa_nil))) (pv 2) (nomark _)))) (fun _ _ _ _ _ => (pe_op (op_catK (K := K) rfl) (pv 4) (pv 5))))))))
    (pss_one (ps_ret (pe_callC C_law_short (hr.mono (by omega)) (by rfl) (pa_cons (pv 3) (pa_cons (pv 2) pa_nil))))))), ?_⟩
  have hle : ∀ i : Nat, ((ff.take i).flatMap (chainRow ss size)).length ≤ 1000000 := fun i => by
    have h1 := flat_const (chainRow ss size) 1000 (ff.take i) fun l _ => Nat.le_trans (chainRow_le ss size l) ls
    rw [List.length_take] at h1
    omega
  refine ⟨Nat.zero_le _, fun p np => ?_⟩
  have hp0 : upd H p (.lst []) p = some (.lst []) := upd_same
  have e0 := same_upd (o := .lst []) np
  generalize upd H p (.lst []) = H0 at hp0 e0
  refine ⟨_, rfl, a, rfl, ⟨_, lstS (e0 _ _ ha)⟩, for_list (xs := xs) (fun i σ H1 => ∃ p y4 y5 zs, σ = [some (.ref a), some (.ref b), some (.int size), some (.ref p), y4, y5] ∧ Same H H1 ∧ H1 p = some (.lst zs) ∧ Rows (RepS H1) zs ((ff.take i).flatMap (chainRow ss size)))
    ⟨_, _, _, [], rfl, e0, hp0, .nil⟩ (fun i σ H1 _ ⟨_, _, _, _, _, e, _⟩ => lstS (e _ _ ha)) (fun i x σ H1 hx ⟨p, y4, y5, zs, es, e, hp, hr⟩ => ?_) (fun σ H1 ⟨p, y4, y5, zs, es, e, hp, hr⟩ => ?_)⟩
  · subst es
    obtain ⟨u, hui, hF⟩ := hf.get hx
    obtain ⟨pu, rfl, hpu⟩ := stays_S _ _ _ _ (te_same e) hF
    have hul := hfl u (List.mem_of_getElem? hui)
    refine ⟨_, rfl, _, rfl, b, rfl, ⟨_, lstS (e _ _ hb)⟩, fun D1 nD1 => ?_⟩
    refine lc_fm (bs := ss) RepS RepS stays_S stays_S (fun r => decide (u.length + r.length ≤ size)) (fun r => u ++ r) rfl (lstS (e _ _ hb)) (Rows.same stays_S e hs) nD1 (sz (by omega)) (fun _ => rfl) (fun i2 z r Hc hri hF2 eH Q1 hQ => ?_) (fun i2 z r Hc hri hpr hF2 eH Q1 hQ => ?_) (fun H2 ws e2 hD hws => ?_)
    · obtain ⟨pr, rfl, hpr⟩ := hF2
      refine ⟨_, rfl, pu, _, rfl, .inr (tupS (eH _ _ hpu)), _, rfl, pr, _, rfl, .inr (tupS hpr), _, _, rfl, rfl, _, rfl, _, _, rfl, rfl, _, rfl, ?_⟩
      have z := hQ Hc (Same.refl Hc)
      have ee : decide (((u.map V.int).length : Int) + ((r.map V.int).length : Int) ≤ (size : Int)) = decide (u.length + r.length ≤ size) := by
        rw [List.length_map, List.length_map]
        by_cases h : u.length + r.length ≤ size
        · rw [decide_eq_true h]
          exact decide_eq_true (by omega)
        · rw [decide_eq_false h]
          exact decide_eq_false (by omega)
      rw [ee]
      exact z
    · obtain ⟨pr, rfl, hpr⟩ := hF2
      have hrl := hsl r (List.mem_of_getElem? hri)
      refine ⟨_, rfl, _, rfl, catS (eH _ _ hpu) hpr (by rw [List.length_map, List.length_map]; exact sz (by omega)) fun p5 H5 e5 hp5 => hQ _ H5 e5 ⟨p5, rfl, ?_⟩⟩
      rw [List.map_append]
      exact hp5
    · have lz := hr.len
      have lw := hws.len
      have hi1 := hle (i + 1)
      rw [flat_take _ hui, List.length_append] at hi1
      rw [show (ss.filter fun r => decide (u.length + r.length ≤ size)).map (fun r => u ++ r) = chainRow ss size u from rfl] at lw hws
      refine catL (e2 _ _ hp) hD (szB (by omega)) fun p3 H3 e3 np3 hp3 => ⟨p3, _, _, _, rfl, e.trans (e2.trans e3), hp3, ?_⟩
      rw [flat_take _ hui]
      exact (Rows.same stays_S (e2.trans e3) hr).append (Rows.same stays_S e3 hws)
  · subst es
    rw [hlen, List.take_length] at hr
    have hi1 := hle ff.length
    rw [List.take_length] at hi1
    exact ⟨_, rfl, _, rfl, p, zs, _, size, rfl, hp, hr, by omega, q.mono e⟩
/-! ### _law_blends -/
abbrev s_law_blends : Stmt := top 50
abbrev nm_law_blends : List PySem.Str := ["_law_first", "_law_second", "_law_size", "_law_rows", "_law_left", "_law_right"]
theorem sc_law_blends : FnScope nm_law_blends ["_law_first", "_law_second", "_law_size"] (defScope s_law_blends) := ⟨rfl, rfl, rfl, by decide +kernel, rfl, by decide +kernel, by decide +kernel⟩
def spBlends : Sp := fun vs H Q _ => ∃ (a b : Addr) (xs ys : List V) (f s : List Wd) (size : Nat), vs = [.ref a, .ref b, .int size] ∧ H a = some (.lst xs) ∧ Rows (RepS H) xs f ∧ H b = some (.lst ys) ∧ Rows (RepS H) ys s ∧ f.length ≤ 600 ∧ s.length ≤ 600 ∧ size ≤ 3 ∧ OutS H (blends f s size) Q
def blendRow (s : List Wd) (size : Nat) (l : Wd) : List Wd := s.flatMap fun r => if l.length + r.length ≤ size then mixes l r else []
def blendOne (size : Nat) (l r : Wd) : List Wd := if l.length + r.length ≤ size then mixes l r else []
theorem blendOne_le {size : Nat} (h : size ≤ 3) (l r : Wd) : (blendOne size l r).length ≤ 8 := by
  unfold blendOne
  split
  · exact Nat.le_trans (mixes_len l r) (Nat.le_trans (Nat.pow_le_pow_right (by decide) (by omega : l.length + r.length ≤ 3)) (by decide))
  · exact Nat.zero_le _
theorem blendRow_le {size : Nat} (h : size ≤ 3) {s : List Wd} (ls : s.length ≤ 600) (l : Wd) : (blendRow s size l).length ≤ 4800 := by
  have := flat_const (blendOne size l) 8 s fun r _ => blendOne_le h l r
  unfold blendRow
  unfold blendOne at this
  omega
theorem ok_blends (D : Dfn K mg "_law_blends" s_law_blends) (M : Mo K mg) (C_law_short : Callee P w K mg base 1 "_law_short" ["_law_rows", "_law_size"] spShortL) (C_law_mixes : Callee P w K mg base 11 "_law_mixes" ["_law_left", "_law_right"] (spMixes 11)) : Callee P w K mg base 12 "_law_blends" ["_law_first", "_law_second", "_law_size"] spBlends := by
  refine D.ok (fun _ _ _ _ _ _ us hl => match us, hl with | [_, _, _], _ => rfl) sc_law_blends (fun vs H Q E h => ?_) (fun f cdv A outer s H vs Q E hr h => ?_)
  · obtain ⟨a, b, xs, ys, f, s, size, rfl, _⟩ := h
    rfl
  obtain ⟨a, b, xs, ys, ff, ss, size, rfl, ha, hf, hb, hs, lf, ls, h3, q⟩ := h
  have hlen := hf.len
  have hlens := hs.len
  refine ⟨_, (pss_cons (ps_set (i := 3) sc_law_blends.nd rfl (by first | exact Or.inl rfl | exact Or.inr rfl) (pe_lst pa_nil))
    (pss_cons (ps_for PassesOwn.never rfl (pi_list (pv 0)) (pg_name (i := 4) sc_law_blends.nd rfl (by first | exact Or.inl rfl | exact Or.inr rfl)) (pss_one (ps_for PassesOwn.never rfl (pi_list (pv 1)) (pg_name (i := 5) sc_law_blends.nd rfl (by first | exact Or.inl rfl | exact Or.inr rfl)) (pss_one (ps_if (pt_cmpR op_le (pe_op op_add (pe_callB call_len_seq (by rfl) M.len PySem.boot_len (pa_cons (pv 4) pa_nil)) (pe_callB call_len_seq (by rfl) M.len PySem.boot_len (pa_cons (pv 5) pa_nil))) (pv 2) (nomark _)) (pss_one (ps_set (i := 3) sc_law_blends.nd rfl (by first | exact Or.inl rfl | exact Or.inr rfl) (pe_op op_cat (pv 3) (pe_callC C_law_mixes (hr.mono (by omega)) (by rfl) (pa_cons (pv 4) (pa_cons (pv 5) pa_nil)))))) pss_nil)))))
    (pss_one (ps_ret (pe_callC C_law_short (hr.mono (by omega)) (by rfl) (pa_cons (pv 3) (pa_cons (pv 2) pa_nil))))))), ?_⟩
  have hle : ∀ i : Nat, ((ff.take i).flatMap (blendRow ss size)).length ≤ 2880000 := fun i => by
    have h1 := flat_const (blendRow ss size) 4800 (ff.take i) fun l _ => blendRow_le h3 ls l
    rw [List.length_take] at h1
    omega
  refine ⟨Nat.zero_le _, fun p np => ?_⟩
  have hp0 : upd H p (.lst []) p = some (.lst []) := upd_same
  have e0 := same_upd (o := .lst []) np
  generalize upd H p (.lst []) = H0 at hp0 e0
  refine ⟨_, rfl, a, rfl, ⟨_, lstS (e0 _ _ ha)⟩, for_list (xs := xs) (fun i σ H1 => ∃ p y4 y5 zs, σ = [some (.ref a), some (.ref b), some (.int size), some (.ref p), y4, y5] ∧ Same H H1 ∧ H1 p = some (.lst zs) ∧ Rows (RepS H1) zs ((ff.take i).flatMap (blendRow ss size)))
    ⟨_, _, _, [], rfl, e0, hp0, .nil⟩ (fun i σ H1 _ ⟨_, _, _, _, _, e, _⟩ => lstS (e _ _ ha)) (fun i x σ H1 hx ⟨p, y4, y5, zs, es, e, hp, hr⟩ => ?_) (fun σ H1 ⟨p, y4, y5, zs, es, e, hp, hr⟩ => ?_)⟩
  · subst es
    obtain ⟨u, hui, hF⟩ := hf.get hx
    obtain ⟨pu, rfl, hpu⟩ := stays_S _ _ _ _ (te_same e) hF
    have hi1 := hle (i + 1)
    rw [flat_take _ hui, List.length_append] at hi1
    refine ⟨_, rfl, b, rfl, ⟨_, lstS (e _ _ hb)⟩, for_list (xs := ys) (fun j σ H2 => ∃ p y5 zs, σ = [some (.ref a), some (.ref b), some (.int size), some (.ref p), some (.ref pu), y5] ∧ Same H1 H2 ∧ H2 p = some (.lst zs) ∧ Rows (RepS H2) zs ((ff.take i).flatMap (blendRow ss size) ++ (ss.take j).flatMap (blendOne size u)))
      ⟨_, _, zs, rfl, Same.refl _, hp, by rw [List.take_zero, List.flatMap_nil, List.append_nil]; exact hr⟩ (fun j σ H2 _ ⟨_, _, _, _, e2, _⟩ => lstS (e2 _ _ (e _ _ hb))) (fun j x σ H2 hx ⟨p, y5, zs, es, e2, hp, hr⟩ => ?_) (fun σ H2 ⟨p, y5, zs, es, e2, hp, hr⟩ => ?_)⟩
    · subst es
      obtain ⟨v, hvi, hG⟩ := hs.get hx
      obtain ⟨pv', rfl, hpv⟩ := stays_S _ _ _ _ (te_same (e.trans e2)) hG
      have hpu2 := e2 _ _ hpu
      have hjl : ((ss.take (j + 1)).flatMap (blendOne size u)).length ≤ (blendRow ss size u).length := flat_le (blendOne size u) ss (j + 1)
      rw [flat_take _ hvi, List.length_append] at hjl
      refine ⟨_, rfl, pu, _, rfl, .inr (tupS hpu2), _, rfl, pv', _, rfl, .inr (tupS hpv), _, _, rfl, rfl, _, rfl, _, _, rfl, rfl, _, rfl, ?_⟩
      rw [List.length_map, List.length_map]
      by_cases hc : u.length + v.length ≤ size
      · refine ifT (by omega) ⟨_, rfl, _, rfl, _, rfl, pu, pv', u, v, rfl, hpu2, hpv, by omega, by omega, fun H3 l ws e3 hl hws => ?_⟩
        have hone : blendOne size u v = mixes u v := if_pos hc
        rw [hone] at hjl
        have lz := hr.len
        have lw := hws.len
        rw [List.length_append] at lz
        refine catL (e3 _ _ hp) hl (szB (by omega)) fun p3 H4 e4 np4 hp4 => ⟨p3, _, _, rfl, e2.trans (e3.trans e4), hp4, ?_⟩
        rw [flat_take _ hvi, hone, ← List.append_assoc]
        exact (Rows.same stays_S (e3.trans e4) hr).append (Rows.same stays_S e4 hws)
      · have hone : blendOne size u v = [] := if_neg hc
        refine ifF (by omega) ⟨p, _, zs, rfl, e2, hp, ?_⟩
        rw [flat_take _ hvi, hone, List.append_nil]
        exact hr
    · subst es
      rw [hlens, List.take_length] at hr
      refine ⟨p, _, _, zs, rfl, e.trans e2, hp, ?_⟩
      rw [flat_take _ hui]
      exact hr
  · subst es
    rw [hlen, List.take_length] at hr
    have hi1 := hle ff.length
    rw [List.take_length] at hi1
    exact ⟨_, rfl, _, rfl, p, zs, _, size, rfl, hp, hr, by omega, q.mono e⟩
/-! ### _law_often -/
abbrev s_law_often : Stmt := top 51
abbrev nm_law_often : List PySem.Str := ["_law_rows", "_law_again", "_law_size", "_law_k"]
theorem sc_law_often : FnScope nm_law_often ["_law_rows", "_law_again", "_law_size"] (defScope s_law_often) := ⟨rfl, rfl, rfl, by decide +kernel, rfl, by decide +kernel, by decide +kernel⟩
def spOften : Sp := fun vs H Q _ => ∃ (a b : Addr) (xs ys : List V) (f s : List Wd) (size : Nat), vs = [.ref a, .ref b, .int size] ∧ H a = some (.lst xs) ∧ Rows (RepS H) xs f ∧ H b = some (.lst ys) ∧ Rows (RepS H) ys s ∧ Wb size f ∧ Wb size s ∧ size ≤ 3 ∧ OutS H (often f s size) Q
theorem oftenN_succ (again : List Wd) (size : Nat) : ∀ (n : Nat) (rows : List Wd), oftenN again size (n + 1) rows = (fun r => short (r ++ chains r again size) size) (oftenN again size n rows)
  | 0, _ => rfl
  | n + 1, rows => by
    show oftenN again size (n + 1) _ = _
    rw [oftenN_succ again size n]
    rfl
theorem ok_often (D : Dfn K mg "_law_often" s_law_often) (M : Mo K mg) (C_law_short : Callee P w K mg base 1 "_law_short" ["_law_rows", "_law_size"] spShortL) (C_law_chains : Callee P w K mg base 2 "_law_chains" ["_law_first", "_law_second", "_law_size"] spChains) : Callee P w K mg base 3 "_law_often" ["_law_rows", "_law_again", "_law_size"] spOften := by
  refine D.ok (fun _ _ _ _ _ _ us hl => match us, hl with | [_, _, _], _ => rfl) sc_law_often (fun vs H Q E h => ?_) (fun f cdv A outer s H vs Q E hr h => ?_)
  · obtain ⟨a, b, xs, ys, f, s, size, rfl, _⟩ := h
    rfl
  obtain ⟨a, b, xs, ys, ff, ss, size, rfl, ha, hf, hb, hs, wf, ws, h3, q⟩ := h
  refine ⟨_, (pss_cons (ps_for PassesOwn.never rfl (pi_range1 (by rfl) M.range (pa_cons (pv 2) pa_nil)) (pg_name (i := 3) sc_law_often.nd rfl (by first | exact Or.inl rfl | exact Or.inr rfl)) (pss_one (ps_set (i := 0) sc_law_often.nd rfl (by first | exact Or.inl rfl | exact Or.inr rfl) (pe_callC C_law_short (hr.mono (by omega)) (by rfl) (pa_cons (pe_op op_cat (pv 0) (pe_callC C_law_chains (hr.mono (by omega)) (by rfl) (pa_cons (pv 0) (pa_cons (pv 1) (pa_cons (pv 2) pa_nil))))) (pa_cons (pv 2) pa_nil))))))
    (pss_one (ps_ret (pv 0)))), ?_⟩
  have fs := ws.few h3
  refine ⟨_, rfl, _, rfl, by omega, by omega, ?_⟩
  rw [Int.toNat_natCast]
  refine for_range (fun i σ H1 => ∃ a y zs, σ = [some (.ref a), some (.ref b), some (.int size), y] ∧ Same H H1 ∧ H1 a = some (.lst zs) ∧ Rows (RepS H1) zs (oftenN ss size i ff))
    ⟨_, _, xs, rfl, Same.refl _, ha, hf⟩ (fun i σ H1 hi ⟨a, y, zs, es, e, hp, hr⟩ => ?_) (fun σ H1 ⟨a, y, zs, es, e, hp, hr⟩ => ?_)
  · subst es
    have wi := oftenN_wb ws.lts i wf
    have fi := wi.few h3
    have hl100 : ∀ {rows : List Wd}, Wb size rows → ∀ u ∈ rows, u.length ≤ 100 := fun h u hu => by
      have := h.len u hu
      omega
    refine ⟨_, rfl, _, rfl, _, rfl, _, rfl, a, b, zs, ys, _, ss, size, rfl, hp, hr, e _ _ hb, Rows.same stays_S e hs, by omega, by omega, hl100 wi, hl100 ws, fun H2 l ws2 e2 hl hws => ?_⟩
    have wc := chains_wb (size := size) wi.lts ws.lts
    have fc := wc.few h3
    have l1 := hr.len
    have l2 := hws.len
    refine catL (e2 _ _ hp) hl (sz (by omega)) fun p3 H3 e3 np3 hp3 => ?_
    refine ⟨_, rfl, p3, _, _, size, rfl, hp3, (Rows.same stays_S (e2.trans e3) hr).append (Rows.same stays_S e3 hws), by rw [List.length_append]; omega, fun H4 l4 ws4 e4 hl4 hws4 => ?_⟩
    refine ⟨l4, _, ws4, rfl, e.trans (e2.trans (e3.trans e4)), hl4, ?_⟩
    rw [oftenN_succ]
    exact hws4
  · subst es
    exact ⟨_, rfl, q H1 a zs e hp hr⟩
end
end Tf

namespace Tf
open PySem PySem.Spec PyProof.Rows L2
def plainly (ev : Cnd → Bool) (w : Prs) (size : Nat) : Pt → List Wd
  | .act n _ => short [[n]] size
  | .sil _ => [[]]
  | .wh n c a => if has w .unc n = true ∨ ev c = true then meant ev w size a else []
  | .bin k n a b =>
      if k = .cho then short (meant ev w size a ++ meant ev w size b) size
      else if k = .par ∨ has w .uno n = true then blends (meant ev w size a) (meant ev w size b) size
      else if k = .seq then chains (meant ev w size a) (meant ev w size b) size
      else often (meant ev w size a) (chains (meant ev w size b) (meant ev w size a) size) size
theorem meant_eq (ev : Cnd → Bool) (w : Prs) (size : Nat) (t : Pt) : meant ev w size t = wrapM w size t.num (plainly ev w size t) := by
  cases t <;> rfl
/-- the numbers of the leaves are letters; conditions of these names, none deep -/
def Pt.Ok (ns : List PySem.Str) : Pt → Prop
  | .act n _ => 0 ≤ n ∧ n < 7
  | .sil _ => True
  | .bin _ _ l r => l.Ok ns ∧ r.Ok ns
  | .wh _ c t => c.In ns ∧ c.dp < 20 ∧ t.Ok ns
theorem wrapM_wb {w : Prs} {size : Nat} {n : Int} {rows : List Wd} (h : Wb size rows) : Wb size (wrapM w size n rows) := by
  have h1 : Wb size (if has w .rep n = true then often rows rows size else rows) := by
    split
    · exact oftenN_wb h.lts size h
    · exact h
  unfold wrapM
  simp only
  split
  · refine short_wb fun u hu => ?_
    rcases List.mem_append.mp hu with hu | hu
    · exact h1.lts u hu
    · rw [List.mem_singleton.mp hu]
      exact fun x hx => by cases hx
  · exact h1
theorem plainly_wb {ns : List PySem.Str} (ev : Cnd → Bool) (w : Prs) (size : Nat) : ∀ t : Pt, t.Ok ns → Wb size (plainly ev w size t)
  | .act n m, h => short_wb fun u hu => by
      rw [List.mem_singleton.mp hu]
      intro x hx
      rw [List.mem_singleton.mp hx]
      exact h
  | .sil n, h => ⟨by simp [plainly], fun u hu => by
      rw [List.mem_singleton.mp hu]
      exact Nat.zero_le _, fun u hu => by
      rw [List.mem_singleton.mp hu]
      exact fun x hx => by cases hx⟩
  | .wh n c t, h => by
    have := plainly_wb ev w size t h.2.2
    simp only [plainly]
    split
    · rw [meant_eq]
      exact wrapM_wb this
    · exact ⟨List.nodup_nil, fun u hu => (List.not_mem_nil hu).elim, fun u hu => (List.not_mem_nil hu).elim⟩
  | .bin k n a b, h => by
    have ha := wrapM_wb (w := w) (n := a.num) (plainly_wb ev w size a h.1)
    have hb := wrapM_wb (w := w) (n := b.num) (plainly_wb ev w size b h.2)
    rw [← meant_eq] at ha hb
    simp only [plainly]
    split
    · exact short_wb fun u hu => (List.mem_append.mp hu).elim (ha.lts u) (hb.lts u)
    · split
      · exact blends_wb ha.lts hb.lts
      · split
        · exact chains_wb ha.lts hb.lts
        · exact oftenN_wb (chains_wb (size := size) hb.lts ha.lts).lts size ha
theorem meant_wb {ns : List PySem.Str} (ev : Cnd → Bool) (w : Prs) (size : Nat) (t : Pt) (h : t.Ok ns) : Wb size (meant ev w size t) := by
  rw [meant_eq]
  exact wrapM_wb (plainly_wb ev w size t h)
theorem Wb.l100 {size : Nat} {rows : List Wd} (h : Wb size rows) (h3 : size ≤ 3) : ∀ u ∈ rows, u.length ≤ 100 := fun u hu => by
  have := h.len u hu
  omega
section
variable {P : Program} {w : World} {K : PySem.W.Frag} {mg : PySem.Str → Option Value} {base : Heap}
abbrev s_law_plainly : Stmt := top 52
abbrev nm_law_plainly : List PySem.Str := ["_law_tree", "_law_pairs", "_law_attributes_here", "_law_data_here", "_law_size", "_law_first", "_law_second"]
theorem sc_law_plainly : FnScope nm_law_plainly ["_law_tree", "_law_pairs", "_law_attributes_here", "_law_data_here", "_law_size"] (defScope s_law_plainly) := ⟨rfl, rfl, rfl, by decide +kernel, rfl, by decide +kernel, by decide +kernel⟩
abbrev s_law_meant : Stmt := top 53
abbrev nm_law_meant : List PySem.Str := ["_law_tree", "_law_pairs", "_law_attributes_here", "_law_data_here", "_law_size", "_law_rows"]
theorem sc_law_meant : FnScope nm_law_meant ["_law_tree", "_law_pairs", "_law_attributes_here", "_law_data_here", "_law_size"] (defScope s_law_meant) := ⟨rfl, rfl, rfl, by decide +kernel, rfl, by decide +kernel, by decide +kernel⟩
/-- what both are asked -/
structure Ask (K : PySem.W.Frag) (H : Hp) (vs : List V) (t : Pt) (ws : Prs) (ats : List At) (ds : List Int) (size : Nat) : Prop where
  ex : ∃ x l zs pa pd, vs = [x, .ref l, .ref pa, .ref pd, .int size] ∧ RepP K H t x ∧ SqL K H l zs ∧ Rows (RepX K H) zs ws ∧ Dat K H pa pd ats ds
  ok : t.Ok (ats.map (·.nm))
  size : size ≤ 3
def spPlainly (K : PySem.W.Frag) (d : Nat) : Sp := fun vs H Q _ => ∃ t ws ats ds size, Ask K H vs t ws ats ds size ∧ t.dp < d ∧ OutS H (plainly (Cnd.ev (valOf ats ds)) ws size t) Q
def spMeant (K : PySem.W.Frag) (d : Nat) : Sp := fun vs H Q _ => ∃ t ws ats ds size, Ask K H vs t ws ats ds size ∧ t.dp < d ∧ OutS H (meant (Cnd.ev (valOf ats ds)) ws size t) Q
theorem plainly_none (D : Dfn K mg "_law_plainly" s_law_plainly) : Callee P w K mg base 21 "_law_plainly" ["_law_tree", "_law_pairs", "_law_attributes_here", "_law_data_here", "_law_size"] (spPlainly K 0) :=
  D.none (fun _ _ _ _ _ _ us hl => match us, hl with | [_, _, _, _, _], _ => rfl) fun vs H Q E h => by
    obtain ⟨t, ws, ats, ds, size, _, hd, _⟩ := h
    omega
theorem meant_step {d k : Nat} (D : Dfn K mg "_law_meant" s_law_meant) (hk : 3 ≤ k) (C_law_plainly : Callee P w K mg base k "_law_plainly" ["_law_tree", "_law_pairs", "_law_attributes_here", "_law_data_here", "_law_size"] (spPlainly K d)) (C_law_often : Callee P w K mg base 3 "_law_often" ["_law_rows", "_law_again", "_law_size"] spOften) (C_law_short : Callee P w K mg base 1 "_law_short" ["_law_rows", "_law_size"] spShortL) :
    Callee P w K mg base (k + 1) "_law_meant" ["_law_tree", "_law_pairs", "_law_attributes_here", "_law_data_here", "_law_size"] (spMeant K d) := by
  refine D.ok (fun _ _ _ _ _ _ us hl => match us, hl with | [_, _, _, _, _], _ => rfl) sc_law_meant (fun vs H Q E h => ?_) (fun f cdv A outer s H vs Q E hr h => ?_)
  · obtain ⟨t, ws, ats, ds, size, ⟨⟨x, l, zs, pa, pd, rfl, _⟩, _, _⟩, _⟩ := h
    rfl
  obtain ⟨t, ws, ats, ds, size, ⟨⟨x, l, zs, pa, pd, rfl, hx, hl, hz, hdat⟩, hok, h3⟩, hd, q⟩ := h
  refine ⟨_, (pss_cons (ps_set (i := 5) sc_law_meant.nd rfl (by first | exact Or.inl rfl | exact Or.inr rfl) (pe_callC C_law_plainly (hr.mono (by omega)) (by rfl) (pa_cons (pv 0) (pa_cons (pv 1) (pa_cons (pv 2) (pa_cons (pv 3) (pa_cons (pv 4) pa_nil)))))))
    (pss_cons (ps_if (pt_cmpR (op_inD (hu_D hr)) (pe_tup (pa_cons pe_str (pa_cons (pe_ix ix_tup (pv 0) pe_int (fun _ _ => rfl)) pa_nil))) (pv 1) (by rfl)) (pss_one (ps_set (i := 5) sc_law_meant.nd rfl (by first | exact Or.inl rfl | exact Or.inr rfl) (pe_callC C_law_often (hr.mono (by omega)) (by rfl) (pa_cons (pv 5) (pa_cons (pv 5) (pa_cons (pv 4) pa_nil)))))) pss_nil)
    (pss_cons (ps_if (pt_cmpR (op_inD (hu_D hr)) (pe_tup (pa_cons pe_str (pa_cons (pe_ix ix_tup (pv 0) pe_int (fun _ _ => rfl)) pa_nil))) (pv 1) (by rfl)) (pss_one (ps_set (i := 5) sc_law_meant.nd rfl (by first | exact Or.inl rfl | exact Or.inr rfl) (pe_callC C_law_short (hr.mono (by omega)) (by rfl) (pa_cons (pe_op op_cat (pv 5) (pe_lst (pa_cons (pe_tup pa_nil) pa_nil))) (pa_cons (pv 4) pa_nil))))) pss_nil)
    (pss_one (ps_ret (pv 5)))))), ?_⟩
  rw [meant_eq] at q
  have wp := plainly_wb (Cnd.ev (valOf ats ds)) ws size t hok
  refine ⟨_, rfl, _, rfl, _, rfl, _, rfl, _, rfl, t, ws, ats, ds, size, ⟨⟨x, l, zs, pa, pd, rfl, hx, hl, hz, hdat⟩, hok, h3⟩, hd, fun H1 p ys e1 hp hys => ?_⟩
  generalize plainly (Cnd.ev (valOf ats ds)) ws size t = rows at q wp hys
  obtain ⟨a, xs, rfl, ha⟩ := hx.two
  have fin : ∀ (H2 : Hp) (p : Addr) (ys : List V) (r1 : List Wd), Same H H2 → H2 p = some (.lst ys) → Rows (RepS H2) ys r1 → r1 = (if has ws .rep t.num = true then often rows rows size else rows) → ∀ D : Ends, D.rt = Q →
      tSeq (tIfS (tTest (tOp (rInD K) (tTup (tCons (tC (.str "optional")) (tCons (tOp (rIxT K) (tVar 0) (tC (.int 1))) tNil))) (tVar 1))) (tAsg (tCall spShortL [] E0 (tCons (tOp rCat (tVar 5) (tLst (tCons (tTup tNil) tNil))) (tCons (tVar 4) tNil))) (gName 5)) tNext) (tRet (tVar 5))
        D [some (.ref a), some (.ref l), some (.ref pa), some (.ref pd), some (.int size), some (.ref p)] H2 := by
    intro H2 p ys r1 e2 hp hys er D eD
    have w1 : Wb size r1 := by
      rw [er]
      split
      · exact oftenN_wb wp.lts size wp
      · exact wp
    have f1 := w1.few h3
    have l1 := hys.len
    refine ⟨_, rfl, a, _, _, _, rfl, rfl, same_tup e2 ha, at1, tup2, fun p2 np2 => ⟨_, rfl, in_wanted .opt t.num (tupS upd_same) ((e2.trans (same_upd np2)).seq hl) (Rows.same (stays_X K) (e2.trans (same_upd np2)) hz) ⟨_, rfl, ifB (fun ho => ?_) (fun ho => ?_)⟩⟩⟩
    · refine ⟨_, rfl, Nat.zero_le _, fun p3 np3 => ⟨one_le (.inl rfl), fun p4 np4 => ?_⟩⟩
      have e4 := (same_upd (o := .tup []) np3).trans (same_upd (o := .lst [V.ref p3]) np4)
      have e24 := (same_upd (o := .tup [.str "optional", .int t.num]) np2).trans e4
      refine catL (e24 _ _ hp) upd_same (sz (by simp only [List.length_cons, List.length_nil]; omega)) fun p5 H5 e5 np5 hp5 => ?_
      refine ⟨_, rfl, p5, _, _, size, rfl, hp5, (Rows.same stays_S (e24.trans e5) hys).append (.one (b := ([] : Wd)) ⟨p3, rfl, e5 _ _ (same_upd np4 _ _ upd_same)⟩), by simp only [List.length_append, List.length_cons, List.length_nil]; omega, fun H6 p6 ys6 e6 hp6 hys6 => ⟨_, rfl, ?_⟩⟩
      show D.rt _ _
      rw [eD]
      refine q H6 p6 ys6 (e2.trans (e24.trans (e5.trans e6))) hp6 ?_
      unfold wrapM
      simp only [ho, if_true, ← er]
      exact hys6
    · refine ⟨_, rfl, ?_⟩
      show D.rt _ _
      rw [eD]
      refine q _ p ys (e2.trans (same_upd np2)) (same_upd np2 _ _ hp) ?_
      unfold wrapM
      simp only [ho, Bool.false_eq_true, if_false, ← er]
      exact Rows.same stays_S (same_upd np2) hys
  refine ⟨_, rfl, a, _, _, _, rfl, rfl, same_tup e1 ha, at1, tup2, fun p2 np2 => ⟨_, rfl, in_wanted .rep t.num (tupS upd_same) ((e1.trans (same_upd np2)).seq hl) (Rows.same (stays_X K) (e1.trans (same_upd np2)) hz) ⟨_, rfl, ifB (fun ho => ?_) (fun ho => ?_)⟩⟩⟩
  · have e2 := same_upd (o := .tup [.str "repeatable", .int t.num]) np2
    refine ⟨_, rfl, _, rfl, _, rfl, p, p, ys, ys, rows, rows, size, rfl, e2 _ _ hp, Rows.same stays_S e2 hys, e2 _ _ hp, Rows.same stays_S e2 hys, wp, wp, h3, fun H3 p3 ys3 e3 hp3 hys3 => ?_⟩
    exact fin H3 p3 ys3 _ (e1.trans (e2.trans e3)) hp3 hys3 (by rw [if_pos ho]) _ rfl
  · have e2 := same_upd (o := .tup [.str "repeatable", .int t.num]) np2
    exact fin _ p ys _ (e1.trans e2) (e2 _ _ hp) (Rows.same stays_S e2 hys) (by rw [if_neg (by rw [ho]; exact Bool.false_ne_true)]) _ rfl
theorem plainly_step {d k : Nat} (D : Dfn K mg "_law_plainly" s_law_plainly) (hk : 20 ≤ k) (C_law_meant : Callee P w K mg base k "_law_meant" ["_law_tree", "_law_pairs", "_law_attributes_here", "_law_data_here", "_law_size"] (spMeant K d)) (C_law_true : Callee P w K mg base 20 "_law_true" ["_law_condition_here", "_law_attributes_here", "_law_data_here"] (spHolds K 20)) (C_law_short : Callee P w K mg base 1 "_law_short" ["_law_rows", "_law_size"] spShortL)
    (C_law_chains : Callee P w K mg base 2 "_law_chains" ["_law_first", "_law_second", "_law_size"] spChains) (C_law_blends : Callee P w K mg base 12 "_law_blends" ["_law_first", "_law_second", "_law_size"] spBlends) (C_law_often : Callee P w K mg base 3 "_law_often" ["_law_rows", "_law_again", "_law_size"] spOften) :
    Callee P w K mg base (k + 1) "_law_plainly" ["_law_tree", "_law_pairs", "_law_attributes_here", "_law_data_here", "_law_size"] (spPlainly K (d + 1)) := by
  refine D.ok (fun _ _ _ _ _ _ us hl => match us, hl with | [_, _, _, _, _], _ => rfl) sc_law_plainly (fun vs H Q E h => ?_) (fun f cdv A outer s H vs Q E hr h => ?_)
  · obtain ⟨t, ws, ats, ds, size, ⟨⟨x, l, zs, pa, pd, rfl, _⟩, _, _⟩, _⟩ := h
    rfl
  obtain ⟨t, ws, ats, ds, size, ⟨⟨x, l, zs, pa, pd, rfl, hx, hl, hz, hdat⟩, hok, h3⟩, hd, q⟩ := h
  refine ⟨_, (pss_cons (ps_if (pt_cmpR op_eq (pe_ix ix_tup (pv 0) pe_int (fun _ _ => rfl)) pe_str (nomark _)) (pss_one (ps_ret (pe_callC C_law_short (hr.mono (by omega)) (by rfl) (pa_cons (pe_lst (pa_cons (pe_tup (pa_cons (pe_ix ix_tup (pv 0) pe_int (fun _ _ => rfl)) pa_nil)) pa_nil)) (pa_cons (pv 4) pa_nil))))) pss_nil)
    (pss_cons (ps_if (pt_cmpR op_eq (pe_ix ix_tup (pv 0) pe_int (fun _ _ => rfl)) pe_str (nomark _)) (pss_one (ps_ret (pe_lst (pa_cons (pe_tup pa_nil) pa_nil)))) pss_nil)
    (pss_cons (ps_if (pt_cmpR op_eq (pe_ix ix_tup (pv 0) pe_int (fun _ _ => rfl)) pe_str (nomark _)) (pss_cons (ps_if (PW.pt (pw_or (pt_cmpR (op_inD (hu_D hr)) (pe_tup (pa_cons pe_str (pa_cons (pe_ix ix_tup (pv 0) pe_int (fun _ _ => rfl)) pa_nil))) (pv 1) (by rfl)) (pw_or1 (pt_val (pe_callC C_law_true (hr.mono (by omega)) (by rfl) (pa_cons (pe_ix ix_tup (pv 0) pe_int (fun _ _ => rfl)) (pa_cons (pv 2) (pa_cons (pv 3) pa_nil)))))))) (pss_one (ps_ret (pe_callC C_law_meant (hr.mono (by omega)) (by rfl) (pa_cons (pe_ix ix_tup (pv 0) pe_int (fun _ _ => rfl)) (pa_cons (pv 1) (pa_cons (pv 2) (pa_cons (pv 3) (pa_cons (pv 4) pa_nil)))))))) pss_nil)
    (pss_one (ps_ret (pe_lst pa_nil)))) pss_nil)
    (pss_cons (ps_set (i := 5) sc_law_plainly.nd rfl (by first | exact Or.inl rfl | exact Or.inr rfl) (pe_callC C_law_meant (hr.mono (by omega)) (by rfl) (pa_cons (pe_ix ix_tup (pv 0) pe_int (fun _ _ => rfl)) (pa_cons (pv 1) (pa_cons (pv 2) (pa_cons (pv 3) (pa_cons (pv 4) pa_nil)))))))
    (pss_cons (ps_set (i := 6) sc_law_plainly.nd rfl (by first | exact Or.inl rfl | exact Or.inr rfl) (pe_callC C_law_meant (hr.mono (by omega)) (by rfl) (pa_cons (pe_ix ix_tup (pv 0) pe_int (fun _ _ => rfl)) (pa_cons (pv 1) (pa_cons (pv 2) (pa_cons (pv 3) (pa_cons (pv 4) pa_nil)))))))
    (pss_cons (ps_if (pt_cmpR op_eq (pe_ix ix_tup (pv 0) pe_int (fun _ _ => rfl)) pe_str (nomark _)) (pss_one (ps_ret (pe_callC C_law_short (hr.mono (by omega)) (by rfl) (pa_cons (pe_op op_cat (pv 5) (pv 6)) (pa_cons (pv 4) pa_nil))))) pss_nil)
    (pss_cons (ps_if (PW.pt (pw_or (pt_cmpR op_eq (pe_ix ix_tup (pv 0) pe_int (fun _ _ => rfl)) pe_str (nomark _)) (pw_or1 (pt_cmpR (op_inD (hu_D hr)) (pe_tup (pa_cons pe_str (pa_cons (pe_ix ix_tup (pv 0) pe_int (fun _ _ => rfl)) pa_nil))) (pv 1) (by rfl))))) (pss_one (ps_ret (pe_callC C_law_blends (hr.mono (by omega)) (by rfl) (pa_cons (pv 5) (pa_cons (pv 6) (pa_cons (pv 4) pa_nil)))))) pss_nil)
    (pss_cons (ps_if (pt_cmpR op_eq (pe_ix ix_tup (pv 0) pe_int (fun _ _ => rfl)) pe_str (nomark _)) (pss_one (ps_ret (pe_callC C_law_chains (hr.mono (by omega)) (by rfl) (pa_cons (pv 5) (pa_cons (pv 6) (pa_cons (pv 4) pa_nil)))))) pss_nil)
    (pss_one (ps_ret (pe_callC C_law_often (hr.mono (by omega)) (by rfl) (pa_cons (pv 5) (pa_cons (pe_callC C_law_chains (hr.mono (by omega)) (by rfl) (pa_cons (pv 6) (pa_cons (pv 5) (pa_cons (pv 4) pa_nil)))) (pa_cons (pv 4) pa_nil)))))))))))))), ?_⟩
  cases t with
  | act n m =>
    obtain ⟨a, rfl, ha⟩ := hx
    refine ⟨_, rfl, a, _, _, _, rfl, rfl, ha, at0, rfl, _, rfl, ifT (by decide +kernel) ?_⟩
    refine ⟨_, rfl, a, _, _, _, rfl, rfl, ha, at1, one_le (.inl rfl), fun p1 np1 => ⟨one_le (.inl rfl), fun p2 np2 => ?_⟩⟩
    have e2 := (same_upd (o := .tup [.int n]) np1).trans (same_upd (o := .lst [V.ref p1]) np2)
    exact ⟨_, rfl, p2, [.ref p1], [[n]], size, rfl, upd_same, .one ⟨p1, rfl, same_upd np2 _ _ upd_same⟩, by simp only [List.length_cons, List.length_nil]; omega, q.mono e2⟩
  | sil n =>
    obtain ⟨a, rfl, ha⟩ := hx
    refine ⟨_, rfl, a, _, _, _, rfl, rfl, ha, at0, rfl, _, rfl, ifF (by decide +kernel) ⟨_, rfl, a, _, _, _, rfl, rfl, ha, at0, rfl, _, rfl, ifT (by decide +kernel) ?_⟩⟩
    refine ⟨Nat.zero_le _, fun p1 np1 => ⟨one_le (.inl rfl), fun p2 np2 => ?_⟩⟩
    have e2 := (same_upd (o := .tup []) np1).trans (same_upd (o := .lst [V.ref p1]) np2)
    exact q _ p2 [.ref p1] e2 upd_same (.one ⟨p1, rfl, same_upd np2 _ _ upd_same⟩)
  | wh n c t =>
    obtain ⟨a, u, v, rfl, ha, hu, hv⟩ := hx
    simp only [Pt.dp] at hd
    refine ⟨_, rfl, a, _, _, _, rfl, rfl, ha, at0, rfl, _, rfl, ifF (by decide +kernel) ⟨_, rfl, a, _, _, _, rfl, rfl, ha, at0, rfl, _, rfl, ifF (by decide +kernel) ⟨_, rfl, a, _, _, _, rfl, rfl, ha, at0, rfl, _, rfl, ifT (by decide +kernel) ?_⟩⟩⟩
    have go : ∀ H2, Same H H2 → (has ws .unc n = true ∨ c.ev (valOf ats ds) = true) → ∀ D : Ends, D.rt = Q → tRet (tCall (spMeant K d) [] E0 (tCons (tOp (rIxT K) (tVar 0) (tC (.int 3))) (tCons (tVar 1) (tCons (tVar 2) (tCons (tVar 3) (tCons (tVar 4) tNil)))))) D
        [some (.ref a), some (.ref l), some (.ref pa), some (.ref pd), some (.int size), none, none] H2 := by
      intro H2 e2 hc D eD
      refine ⟨_, rfl, a, _, _, _, rfl, rfl, same_tup e2 ha, at3, _, rfl, _, rfl, _, rfl, _, rfl, t, ws, ats, ds, size, ⟨⟨v, l, zs, pa, pd, rfl, hv.same e2, e2.seq hl, Rows.same (stays_X K) e2 hz, hdat.same e2⟩, hok.2.2, h3⟩, by omega, ?_⟩
      show OutS H2 _ D.rt
      rw [eD]
      simp only [plainly, if_pos hc] at q
      exact q.mono e2
    refine ⟨_, rfl, a, _, _, _, rfl, rfl, ha, at1, tup2, fun p2 np2 => ⟨_, rfl, in_wanted .unc n (tupS upd_same) ((same_upd np2).seq hl) (Rows.same (stays_X K) (same_upd np2) hz) ⟨_, rfl, ifB (fun ho => ?_) (fun ho => ?_)⟩⟩⟩
    · exact iteT (go _ (same_upd np2) (.inl ho) _ rfl)
    · have e2 := same_upd (o := .tup [.str "unconditional", .int n]) np2
      refine ⟨_, rfl, a, _, _, _, rfl, rfl, same_tup e2 ha, at2, _, rfl, _, rfl, c, u, pa, pd, ats, ds, rfl, hu.same e2, hok.2.1, hok.1, hdat.same e2, fun H3 e3 => ⟨_, rfl, ifB (fun hc => ?_) (fun hc => ?_)⟩⟩
      · exact go _ (e2.trans e3) (.inr hc) _ rfl
      · refine ⟨Nat.zero_le _, fun p4 np4 => ?_⟩
        refine q _ p4 [] (e2.trans (e3.trans (same_upd np4))) upd_same ?_
        simp only [plainly, ho, hc, Bool.false_eq_true, or_self, if_false]
        exact .nil
  | bin k n tl tr =>
    obtain ⟨a, u, v, rfl, ha, hu, hv⟩ := hx
    simp only [Pt.dp] at hd
    obtain ⟨okl, okr⟩ := hok
    refine ⟨_, rfl, a, _, _, _, rfl, rfl, ha, at0, rfl, _, rfl, ifF (by cases k <;> decide +kernel) ⟨_, rfl, a, _, _, _, rfl, rfl, ha, at0, rfl, _, rfl, ifF (by cases k <;> decide +kernel) ⟨_, rfl, a, _, _, _, rfl, rfl, ha, at0, rfl, _, rfl, ifF (by cases k <;> decide +kernel) ?_⟩⟩⟩
    refine ⟨_, rfl, a, _, _, _, rfl, rfl, ha, at2, _, rfl, _, rfl, _, rfl, _, rfl, tl, ws, ats, ds, size, ⟨⟨u, l, zs, pa, pd, rfl, hu, hl, hz, hdat⟩, okl, h3⟩, by omega, fun H1 p1 ys1 e1 hp1 hys1 => ?_⟩
    refine ⟨_, rfl, a, _, _, _, rfl, rfl, same_tup e1 ha, at3, _, rfl, _, rfl, _, rfl, _, rfl, tr, ws, ats, ds, size, ⟨⟨v, l, zs, pa, pd, rfl, hv.same e1, e1.seq hl, Rows.same (stays_X K) e1 hz, hdat.same e1⟩, okr, h3⟩, by omega, fun H2 p2 ys2 e2 hp2 hys2 => ?_⟩
    have w1 := meant_wb (Cnd.ev (valOf ats ds)) ws size tl okl
    have w2 := meant_wb (Cnd.ev (valOf ats ds)) ws size tr okr
    have e12 := e1.trans e2
    have hp12 := e2 _ _ hp1
    have hys12 := Rows.same stays_S e2 hys1
    have ha2 := same_tup e12 ha
    have q2 := q.mono e12
    simp only [plainly] at q2
    generalize meant (Cnd.ev (valOf ats ds)) ws size tl = r1 at w1 hys12 q2
    generalize meant (Cnd.ev (valOf ats ds)) ws size tr = r2 at w2 hys2 q2
    have f1 := w1.few h3
    have f2 := w2.few h3
    have l1 := hys12.len
    have l2 := hys2.len
    by_cases hk : k = .cho
    · subst hk
      rw [if_pos rfl] at q2
      refine ⟨_, rfl, a, _, _, _, rfl, rfl, ha2, at0, rfl, _, rfl, ifT (by decide +kernel) ?_⟩
      refine ⟨_, rfl, _, rfl, catL hp12 hp2 (sz (by omega)) fun p3 H3 e3 np3 hp3 => ?_⟩
      exact ⟨_, rfl, p3, _, _, size, rfl, hp3, (Rows.same stays_S e3 hys12).append (Rows.same stays_S e3 hys2), by rw [List.length_append]; omega, q2.mono e3⟩
    rw [if_neg hk] at q2
    refine ⟨_, rfl, a, _, _, _, rfl, rfl, ha2, at0, rfl, _, rfl, ifF (by intro z; revert hk; cases k <;> revert z <;> decide +kernel) ?_⟩
    have blend : ∀ H3, Same H2 H3 → (k = .par ∨ has ws .uno n = true) → ∀ D : Ends, D.rt = Q → tRet (tCall spBlends [] E0 (tCons (tVar 5) (tCons (tVar 6) (tCons (tVar 4) tNil)))) D
        [some (.ref a), some (.ref l), some (.ref pa), some (.ref pd), some (.int size), some (.ref p1), some (.ref p2)] H3 := by
      intro H3 e3 hc D eD
      rw [if_pos hc] at q2
      refine ⟨_, rfl, _, rfl, _, rfl, p1, p2, ys1, ys2, r1, r2, size, rfl, e3 _ _ hp12, Rows.same stays_S e3 hys12, e3 _ _ hp2, Rows.same stays_S e3 hys2, by omega, by omega, h3, ?_⟩
      show OutS H3 _ D.rt
      rw [eD]
      exact q2.mono e3
    by_cases hp : k = .par
    · subst hp
      exact ⟨_, rfl, a, _, _, _, rfl, rfl, ha2, at0, rfl, _, rfl, ifT (by decide +kernel) (iteT (blend H2 (Same.refl _) (.inl rfl) _ rfl))⟩
    refine ⟨_, rfl, a, _, _, _, rfl, rfl, ha2, at0, rfl, _, rfl, ifF (by intro z; revert hp; cases k <;> revert z <;> decide +kernel) ?_⟩
    refine ⟨_, rfl, a, _, _, _, rfl, rfl, ha2, at1, tup2, fun p3 np3 => ⟨_, rfl, in_wanted .uno n (tupS upd_same) ((e12.trans (same_upd np3)).seq hl) (Rows.same (stays_X K) (e12.trans (same_upd np3)) hz) ⟨_, rfl, ifB (fun ho => ?_) (fun ho => ?_)⟩⟩⟩
    · exact blend _ (same_upd np3) (.inr ho) _ rfl
    have e3 := same_upd (o := .tup [.str "unordered", .int n]) np3
    rw [if_neg (by simp only [hp, ho, Bool.false_eq_true, or_self, not_false_eq_true])] at q2
    have ha3 := same_tup e3 ha2
    have hp13 := e3 _ _ hp12
    have hp23 := e3 _ _ hp2
    have hr1 := Rows.same stays_S e3 hys12
    have hr2 := Rows.same stays_S e3 hys2
    have q3 := q2.mono e3
    by_cases hs : k = .seq
    · subst hs
      rw [if_pos rfl] at q3
      refine ⟨_, rfl, a, _, _, _, rfl, rfl, ha3, at0, rfl, _, rfl, ifT (by decide +kernel) ?_⟩
      exact ⟨_, rfl, _, rfl, _, rfl, p1, p2, ys1, ys2, r1, r2, size, rfl, hp13, hr1, hp23, hr2, by omega, by omega, w1.l100 h3, w2.l100 h3, q3⟩
    · rw [if_neg hs] at q3
      refine ⟨_, rfl, a, _, _, _, rfl, rfl, ha3, at0, rfl, _, rfl, ifF (by intro z; revert hs; cases k <;> revert z <;> decide +kernel) ?_⟩
      refine ⟨_, rfl, _, rfl, _, rfl, _, rfl, p2, p1, ys2, ys1, r2, r1, size, rfl, hp23, hr2, hp13, hr1, by omega, by omega, w2.l100 h3, w1.l100 h3, fun H4 p4 ys4 e4 hp4 hys4 => ?_⟩
      exact ⟨_, rfl, p1, p4, ys1, ys4, r1, _, size, rfl, e4 _ _ hp13, Rows.same stays_S e4 hr1, hp4, hys4, w1, chains_wb w2.lts w1.lts, h3, q3.mono e4⟩
theorem ok_meant (D1 : Dfn K mg "_law_plainly" s_law_plainly) (D2 : Dfn K mg "_law_meant" s_law_meant) (C_law_true : Callee P w K mg base 20 "_law_true" ["_law_condition_here", "_law_attributes_here", "_law_data_here"] (spHolds K 20)) (C_law_short : Callee P w K mg base 1 "_law_short" ["_law_rows", "_law_size"] spShortL)
    (C_law_chains : Callee P w K mg base 2 "_law_chains" ["_law_first", "_law_second", "_law_size"] spChains) (C_law_blends : Callee P w K mg base 12 "_law_blends" ["_law_first", "_law_second", "_law_size"] spBlends) (C_law_often : Callee P w K mg base 3 "_law_often" ["_law_rows", "_law_again", "_law_size"] spOften) :
    ∀ d : Nat, Callee P w K mg base (22 + 2 * d) "_law_meant" ["_law_tree", "_law_pairs", "_law_attributes_here", "_law_data_here", "_law_size"] (spMeant K d)
  | 0 => meant_step D2 (by decide) (plainly_none D1) C_law_often C_law_short
  | d + 1 => meant_step (k := 22 + 2 * d + 1) D2 (Nat.le_trans (by decide : 3 ≤ 22) (Nat.le_trans (Nat.le_add_right _ _) (Nat.le_succ _))) (plainly_step D1 (Nat.le_trans (by decide : 20 ≤ 22) (Nat.le_add_right _ _)) (ok_meant D1 D2 C_law_true C_law_short C_law_chains C_law_blends C_law_often d) C_law_true C_law_short C_law_chains C_law_blends C_law_often) C_law_often C_law_short
end
end Tf

namespace Tf
open PySem PySem.Spec PyProof.Rows L2
/-- ints, or tuples of such, alike; no deeper than d -/
def SameV (K : PySem.W.Frag) (H : Hp) : Nat → V → V → Prop
  | 0, x, y => ∃ n, x = .int n ∧ y = .int n
  | d + 1, x, y => ∃ a b xs ys, x = .ref a ∧ y = .ref b ∧ SqT K H a xs ∧ SqT K H b ys ∧ xs.length = ys.length ∧ ys.length ≤ 200000 ∧ ∀ (i : Nat) (u v : V), xs[i]? = some u → ys[i]? = some v → SameV K H d u v
theorem SameV.same {K : PySem.W.Frag} {H H' : Hp} (e : Same H H') : ∀ {d : Nat} {x y : V}, SameV K H d x y → SameV K H' d x y
  | 0, _, _, h => h
  | d + 1, _, _, ⟨a, b, xs, ys, h1, h2, h3, h4, h5, h6, h7⟩ => ⟨a, b, xs, ys, h1, h2, same_tup e h3, same_tup e h4, h5, h6, fun i u v hu hv => SameV.same e (h7 i u v hu hv)⟩
theorem tyT {K : PySem.W.Frag} {H : Hp} {a : Addr} {xs : List V} (h : SqT K H a xs) : TyX K H (.ref a) (.type "tuple") := by
  rcases h with (h | ⟨o, h⟩) | ⟨o, its, n, h1, h2, _⟩
  · exact .base (.tup h)
  · exact .fTuple h
  · exact .kTuple h1 h2
section
variable {P : Program} {w : World} {K : PySem.W.Frag} {mg : PySem.Str → Option Value} {base : Heap}
abbrev s_law_same : Stmt := top 46
abbrev nm_law_same : List PySem.Str := ["_law_told", "_law_due", "_law_k"]
theorem sc_law_same : FnScope nm_law_same ["_law_told", "_law_due"] (defScope s_law_same) := ⟨rfl, rfl, rfl, by decide +kernel, rfl, by decide +kernel, by decide +kernel⟩
def spSame (K : PySem.W.Frag) (d : Nat) : Sp := fun vs H Q _ => ∃ (x y : V) (k : Nat), vs = [x, y] ∧ SameV K H k x y ∧ k < d ∧ ∀ H', Same H H' → Q (.bl true) H'
theorem same_none (D : Dfn K mg "_law_same" s_law_same) : Callee P w K mg base 0 "_law_same" ["_law_told", "_law_due"] (spSame K 0) :=
  D.none (fun _ _ _ _ _ _ us hl => match us, hl with | [_, _], _ => rfl) fun vs H Q E h => by
    obtain ⟨x, y, k, _, _, hd, _⟩ := h
    omega
theorem same_step {d : Nat} (D : Dfn K mg "_law_same" s_law_same) (M : Mo K mg) (C_law_same : Callee P w K mg base d "_law_same" ["_law_told", "_law_due"] (spSame K d)) : Callee P w K mg base (d + 1) "_law_same" ["_law_told", "_law_due"] (spSame K (d + 1)) := by
  refine D.ok (fun _ _ _ _ _ _ us hl => match us, hl with | [_, _], _ => rfl) sc_law_same (fun vs H Q E h => ?_) (fun f cdv A outer s H vs Q E hr h => ?_)
  · obtain ⟨x, y, k, rfl, _⟩ := h
    rfl
  obtain ⟨x, y, k, rfl, hs, hd, q⟩ := h
  refine ⟨_, (pss_cons (ps_if (pt_val (pe_callB call_isi (by rfl) M.isinstance (by decide +kernel) (pa_cons (pv 1) (pa_cons (pe_bltn (v := .ty "tuple") (by rfl) M.tuple_ (by decide +kernel) rfl) pa_nil)))) (pss_cons (ps_if (PW.pt (pw_or (pt_not (pt_val (pe_callB call_isi (by rfl) M.isinstance (by decide +kernel) (pa_cons (pv 0) (pa_cons (pe_bltn (v := .ty "tuple") (by rfl) M.tuple_ (by decide +kernel) rfl) pa_nil))))) (pw_or1 (pt_cmpR op_ne (pe_callB call_len_seq (by rfl) M.len PySem.boot_len (pa_cons (pv 0) pa_nil)) (pe_callB call_len_seq (by rfl) M.len PySem.boot_len (pa_cons (pv 1) pa_nil)) (nomark _))))) (pss_one (ps_ret pe_bl)) pss_nil)
    (pss_one (ps_ret (pe_cmpR op_eq (pe_callB call_len_seq (by rfl) M.len PySem.boot_len (pa_cons (pe_lc (own := [("_law_k", 2)]) rfl sc_law_same.nd (pi_range1 (by rfl) M.range (pa_cons (pe_callB call_len_seq (by rfl) M.len PySem.boot_len (pa_cons (pv 1) pa_nil)) pa_nil)) (blkOk_by (own := [("_law_k", 2)]) (N := nm_law_same) (sc := defScope s_law_same) (by decide +kernel)) (fun _ _ _ _ _ => (pg_name (i := 2) sc_law_same.nd rfl (by first | exact Or.inl rfl | exact Or.inr rfl))) (fun _ _ _ _ _ => (pts_one (pt_not (pt_val (pe_callC C_law_same (hr.mono (by omega)) (by rfl) (pa_cons (pe_ix (ix_tupK (K := K) rfl) (pv 0) (pv 2) (fun _ _ => rfl)) (pa_cons (pe_ix (ix_tupK (K := K) rfl) (pv 1) (pv 2) (fun _ _ => rfl)) pa_nil))))))) (fun _ _ _ _ _ => (pv 2))) pa_nil)) pe_int (nomark _))))) pss_nil)
    (pss_cons (ps_if (pt_cmpR op_isN (pv 1) pe_non (nomark _)) (pss_one (ps_ret (pe_cmpR op_isN (pv 0) pe_non (nomark _)))) pss_nil)
    (pss_cons (ps_if (pt_val (pe_callB call_isi (by rfl) M.isinstance (by decide +kernel) (pa_cons (pv 1) (pa_cons (pe_bltn (v := .ty "str") (by rfl) M.str_ (by decide +kernel) rfl) pa_nil)))) (pss_one (ps_ret (pe_and (pe_callB call_isi (by rfl) M.isinstance (by decide +kernel) (pa_cons (pv 0) (pa_cons (pe_bltn (v := .ty "str") (by rfl) M.str_ (by decide +kernel) rfl) pa_nil))) (pe_one (pe_cmpR op_eq (pv 0) (pv 1) (nomark _)))))) pss_nil)
    (pss_one (ps_ret (pe_and (pe_callB call_isi (by rfl) M.isinstance (by decide +kernel) (pa_cons (pv 0) (pa_cons (pe_bltn (v := .ty "int") (by rfl) M.int_ (by decide +kernel) rfl) pa_nil))) (pe_and (pe_cmpR op_eq (pe_callB call_isi (by rfl) M.isinstance (by decide +kernel) (pa_cons (pv 0) (pa_cons (pe_bltn (v := .ty "bool") (by rfl) M.bool_ (by decide +kernel) rfl) pa_nil))) (pe_callB call_isi (by rfl) M.isinstance (by decide +kernel) (pa_cons (pv 1) (pa_cons (pe_bltn (v := .ty "bool") (by rfl) M.bool_ (by decide +kernel) rfl) pa_nil))) (nomark _)) (pe_one (pe_cmpR op_eq (pv 0) (pv 1) (nomark _)))))))))), ?_⟩
  cases k with
  | zero =>
    obtain ⟨n, rfl, rfl⟩ := hs
    refine ⟨_, rfl, _, _, _, _, false, rfl, .ty "tuple", .base (.int n), kit_ty (by rfl), _, rfl, iteF ?_⟩
    refine ⟨_, rfl, rfl, _, rfl, ifF (by intro z; cases z) ?_⟩
    refine ⟨_, rfl, _, _, _, _, false, rfl, .ty "str", .base (.int n), kit_ty (by rfl), _, rfl, iteF ?_⟩
    refine ⟨_, rfl, _, _, _, _, true, rfl, .ty "int", .base (.int n), kit_ty (by rfl), _, rfl, iteT ?_⟩
    refine ⟨_, rfl, _, _, _, _, false, rfl, .ty "bool", .base (.int n), kit_ty (by rfl), _, rfl, _, _, _, _, false, rfl, .ty "bool", .base (.int n), kit_ty (by rfl), rfl, _, rfl, iteT ?_⟩
    refine ⟨_, rfl, _, rfl, rfl, ?_⟩
    have z := q H (Same.refl H)
    rw [show true = decide (V.int n = V.int n) from (decide_eq_true rfl).symm] at z
    exact z
  | succ k =>
    obtain ⟨a, b, xs, ys, rfl, rfl, ha, hb, hlen, hsz, hall⟩ := hs
    refine ⟨_, rfl, _, _, _, _, true, rfl, .ty "tuple", tyT hb, kit_ty (by rfl), _, rfl, iteT ?_⟩
    refine ⟨_, rfl, _, _, _, _, true, rfl, .ty "tuple", tyT ha, kit_ty (by rfl), _, rfl, iteF ?_⟩
    refine ⟨_, rfl, a, xs, rfl, .inr ha, _, rfl, b, ys, rfl, .inr hb, rfl, _, rfl, ?_⟩
    rw [hlen]
    refine iteV (b := false) (by simp) (iteF ?_)
    refine ⟨_, rfl, b, ys, rfl, .inr hb, _, rfl, by omega, by omega, fun D1 nD1 => ?_⟩
    rw [Int.toNat_natCast]
    refine lc_range (fun i H1 => Same H H1 ∧ H1 D1 = some (.lst [])) ⟨same_upd nD1, upd_same⟩ (fun i H1 hi ⟨e, hD⟩ => ?_) (fun H1 ⟨e, hD⟩ => ?_)
    · obtain ⟨u, hu⟩ : ∃ u, xs[i]? = some u := ⟨_, List.getElem?_eq_getElem (hlen ▸ hi)⟩
      obtain ⟨v, hv⟩ : ∃ v, ys[i]? = some v := ⟨_, List.getElem?_eq_getElem hi⟩
      have hi0 : ((0 : Int) + (i : Int)) = (i : Int) := by omega
      have hg : SameV K H1 k u v := (hall i u v hu hv).same e
      refine ⟨rfl, _, rfl, _, rfl, a, _, _, _, rfl, rfl, same_tup e ha, (by rw [hi0]; exact atNat hu), _, rfl, _, rfl, b, _, _, _, rfl, rfl, same_tup e hb, (by rw [hi0]; exact atNat hv), ?_⟩
      refine ⟨u, v, k, rfl, hg, by omega, fun H2 e2 => ⟨_, rfl, iteF ⟨e.trans e2, e2 _ _ hD⟩⟩⟩
    · refine ⟨D1, [], rfl, .inl (lstS hD), rfl, ?_⟩
      exact q H1 e
theorem ok_same (D : Dfn K mg "_law_same" s_law_same) (M : Mo K mg) : ∀ d : Nat, Callee P w K mg base d "_law_same" ["_law_told", "_law_due"] (spSame K d)
  | 0 => same_none D
  | d + 1 => same_step D M (ok_same D M d)
end
end Tf

namespace Tf
open PySem PySem.Spec PyProof.Rows L2
/-- the tape, told -/
structure TapeAt (H : Hp) (tp c : Addr) (cs : List Int) (place num tot : Int) : Prop where
  tp : H tp = some (.lst [.ref c, .int place, .int num, .int tot])
  cells : H c = some (.lst (cs.map V.int))
  p0 : 0 ≤ place
  n0 : 0 ≤ num
/-- a tape at tp, its cells at c -/
def TapeOk (tp c : Addr) (H : Hp) : Prop := ∃ cs place num tot, TapeAt H tp c cs place num tot
theorem TapeAt.ne {H : Hp} {tp c : Addr} {cs : List Int} {place num tot : Int} (h : TapeAt H tp c cs place num tot) : c ≠ tp := fun z => by
  have h1 := h.cells
  rw [z, h.tp] at h1
  cases cs with
  | nil => cases h1
  | cons x cs => cases h1
theorem TapeAt.put {H : Hp} {tp c : Addr} {cs : List Int} {place num tot p' n' t' : Int} (h : TapeAt H tp c cs place num tot) (hp : 0 ≤ p') (hn : 0 ≤ n') : TapeAt (upd H tp (.lst [.ref c, .int p', .int n', .int t'])) tp c cs p' n' t' :=
  ⟨upd_same, by rw [upd_ne h.ne]; exact h.cells, hp, hn⟩
/-- all but the tape stays; the tape is one -/
structure Dr (tp c : Addr) (H H' : Hp) : Prop where
  keep : ∀ b x, b ≠ tp → H b = some x → H' b = some x
  tape : TapeOk tp c H'
section
variable {tp c : Addr} {H H1 H2 H' : Hp}
theorem TapeOk.lst (h : TapeOk tp c H) : ∃ xs, H tp = some (.lst xs) := let ⟨_, _, _, _, h⟩ := h; ⟨_, h.tp⟩
theorem TapeOk.same (h : TapeOk tp c H) (e : Same H H') : TapeOk tp c H' := let ⟨cs, a, b, d, h⟩ := h; ⟨cs, a, b, d, e _ _ h.tp, e _ _ h.cells, h.p0, h.n0⟩
theorem TapeOk.ne_of (h : TapeOk tp c H) {p : Addr} (hp : H p = none) : p ≠ tp := fun z => by
  obtain ⟨xs, hx⟩ := h.lst
  rw [z, hx] at hp
  cases hp
theorem Dr.refl (h : TapeOk tp c H) : Dr tp c H H := ⟨fun _ _ _ x => x, h⟩
theorem Dr.of (h : TapeOk tp c H) (e : Same H H') : Dr tp c H H' := ⟨fun b x _ hb => e b x hb, h.same e⟩
theorem Dr.trans (a : Dr tp c H H1) (b : Dr tp c H1 H2) : Dr tp c H H2 := ⟨fun x y hx h => b.keep x y hx (a.keep x y hx h), b.tape⟩
theorem Dr.same (a : Dr tp c H H1) (b : Same H1 H2) : Dr tp c H H2 := a.trans (Dr.of a.tape b)
theorem Dr.tk (a : Dr tp c H H') (h : TapeOk tp c H) : Tk H H' := by
  obtain ⟨xs, hx⟩ := h.lst
  constructor
  · intro b ys e
    refine a.keep b _ (fun z => ?_) e
    rw [z, hx] at e
    cases e
  · intro b o u e
    refine a.keep b _ (fun z => ?_) e
    rw [z, hx] at e
    cases e
theorem Dr.free {b : Addr} (a : Dr tp c H H') (e : H' b = none) : H b = none := by
  by_cases hb : b = tp
  · obtain ⟨xs, hx⟩ := a.tape.lst
    rw [hb, hx] at e
    cases e
  · cases h : H b with
    | none => rfl
    | some x =>
      rw [a.keep b x hb h] at e
      cases e
/-- a new thing is written -/
theorem Dr.mut {p : Addr} {o : HO} (a : Dr tp c H H') (ht : TapeOk tp c H) (h : H p = none) : Dr tp c H (upd H' p o) := by
  have hne := ht.ne_of h
  have hcp : c ≠ p := fun z => by
    obtain ⟨cs, x, y, w, t⟩ := ht
    have := t.cells
    rw [z, h] at this
    cases this
  refine ⟨fun b x hb e => ?_, ?_⟩
  · rw [upd_ne (ne_of_none e h)]
    exact a.keep b x hb e
  · obtain ⟨cs, x, y, z, t⟩ := a.tape
    exact ⟨cs, x, y, z, by rw [upd_ne fun z => hne z.symm]; exact t.tp, by rw [upd_ne hcp]; exact t.cells, t.p0, t.n0⟩
theorem Dr.new {p : Addr} {o : HO} (h : TapeOk tp c H) (np : H p = none) : Dr tp c H (upd H p o) := Dr.of h (same_upd np)
theorem Dr.seq {K : PySem.W.Frag} {a : Addr} {xs : List V} (d : Dr tp c H H') (h : TapeOk tp c H) (hs : SqT K H a xs) : SqT K H' a xs := (d.tk h).sq hs
theorem TapeAt.dr {cs : List Int} {place num tot p' n' t' : Int} (h : TapeAt H tp c cs place num tot) (hp : 0 ≤ p') (hn : 0 ≤ n') : Dr tp c H (upd H tp (.lst [.ref c, .int p', .int n', .int t'])) :=
  ⟨fun b x hb e => by rw [upd_ne hb]; exact e, cs, p', n', t', h.put hp hn⟩
end
section
variable {P : Program} {w : World} {K : PySem.W.Frag} {mg : PySem.Str → Option Value} {base : Heap}
theorem modp1 : (0 : Int) < 2147483647 := by decide
theorem modp2 : (0 : Int) < 2147483629 := by decide
/-! ### _law_tape -/
abbrev s_law_tape : Stmt := top 31
abbrev nm_law_tape : List PySem.Str := ["_law_script", "_law_total", "_law_cell"]
theorem sc_law_tape : FnScope nm_law_tape ["_law_script"] (defScope s_law_tape) := ⟨rfl, rfl, rfl, by decide +kernel, rfl, by decide +kernel, by decide +kernel⟩
def spTape (K : PySem.W.Frag) : Sp := fun vs H Q _ => ∃ (a : Addr) (ns : List Int), vs = [.ref a] ∧ SqL K H a (ns.map V.int) ∧ ∀ p c H', Same H H' → H p = none → TapeOk p c H' → Q (.ref p) H'
theorem ok_tape (D : Dfn K mg "_law_tape" s_law_tape) (M : Mo K mg) : Callee P w K mg base 1 "_law_tape" ["_law_script"] (spTape K) := by
  refine D.ok (fun _ _ _ _ _ _ us hl => match us, hl with | [_], _ => rfl) sc_law_tape (fun vs H Q E h => ?_) (fun f cdv A outer s H vs Q E hr h => ?_)
  · obtain ⟨a, ns, rfl, _⟩ := h
    rfl
  obtain ⟨a, ns, rfl, hS, q⟩ := h
  refine ⟨_, (pss_cons (ps_set (i := 1) sc_law_tape.nd rfl (by first | exact Or.inl rfl | exact Or.inr rfl) pe_int)
    (pss_cons (ps_for PassesOwn.never rfl (pi_list (pv 0)) (pg_name (i := 2) sc_law_tape.nd rfl (by first | exact Or.inl rfl | exact Or.inr rfl)) (pss_one (ps_set (i := 1) sc_law_tape.nd rfl (by first | exact Or.inl rfl | exact Or.inr rfl) (pe_op op_mod (pe_callTy call_int1 (by rfl) M.int_ (by decide +kernel) (pa_cons (pe_op op_add (pe_op op_mul (pv 1) pe_int) (pe_callB call_abs (by rfl) M.abs (by decide +kernel) (pa_cons (pe_callTy call_int1 (by rfl) M.int_ (by decide +kernel) (pa_cons (pv 2) pa_nil)) pa_nil))) pa_nil)) pe_int))))
    (pss_one (ps_ret (pe_lst (pa_cons (pe_callTy call_list_of (by rfl) M.list_ (by decide +kernel) (pa_cons (pv 0) pa_nil)) (pa_cons pe_int (pa_cons pe_int (pa_cons (pv 1) pa_nil))))))))), ?_⟩
  refine ⟨_, rfl, a, rfl, ⟨_, hS⟩, for_list (xs := ns.map V.int) (fun i σ H1 => ∃ t y, σ = [some (.ref a), some (.int t), y] ∧ H1 = H)
    ⟨_, _, rfl, rfl⟩ (fun i σ H1 _ ⟨_, _, _, e⟩ => by rw [e]; exact hS) (fun i x σ H1 hx ⟨t, y, es, e⟩ => ?_) (fun σ H1 ⟨t, y, es, e⟩ => ?_)⟩
  · subst es
    subst e
    rw [List.getElem?_map] at hx
    obtain ⟨n, hn, rfl⟩ := Option.map_eq_some_iff.mp hx
    refine ⟨_, rfl, _, _, rfl, rfl, .inr ⟨by decide, by decide⟩, _, rfl, .inl ⟨_, rfl, _, rfl, _, _, rfl, rfl, .inl ⟨_, rfl, _, _, rfl, rfl, modp1, _, _, rfl, rfl⟩⟩⟩
  · subst es
    subst e
    refine ⟨_, rfl, a, _, rfl, .inl hS, fun c nc => ⟨_, rfl, sz (by simp only [List.length_cons, List.length_nil]; omega), fun p np => ?_⟩⟩
    refine q p c _ ((same_upd nc).trans (same_upd np)) ((same_upd (o := .lst (ns.map V.int)) nc).free np) ⟨ns, 0, 0, t, upd_same, ?_, by decide, by decide⟩
    exact same_upd np _ _ upd_same
/-! ### _law_draw -/
abbrev s_law_draw : Stmt := top 32
abbrev nm_law_draw : List PySem.Str := ["_law_tape_here", "_law_many", "_law_place", "_law_number"]
theorem sc_law_draw : FnScope nm_law_draw ["_law_tape_here", "_law_many"] (defScope s_law_draw) := ⟨rfl, rfl, rfl, by decide +kernel, rfl, by decide +kernel, by decide +kernel⟩
def spDraw : Sp := fun vs H Q _ => ∃ (tp c : Addr) (many : Int), vs = [.ref tp, .int many] ∧ TapeOk tp c H ∧ 1 ≤ many ∧ many ≤ 3000000 ∧ ∀ r H', 0 ≤ r → r < many → Dr tp c H H' → Q (.int r) H'
theorem max1 {m : Int} (h : 1 ≤ m) : (if (1 : Int) > m then 1 else m) = m := if_neg (by omega)
theorem ok_draw (D : Dfn K mg "_law_draw" s_law_draw) (M : Mo K mg) : Callee P w K mg base 1 "_law_draw" ["_law_tape_here", "_law_many"] spDraw := by
  refine D.ok (fun _ _ _ _ _ _ us hl => match us, hl with | [_, _], _ => rfl) sc_law_draw (fun vs H Q E h => ?_) (fun f cdv A outer s H vs Q E hr h => ?_)
  · obtain ⟨tp, c, many, rfl, _⟩ := h
    rfl
  obtain ⟨tp, c, many, rfl, ⟨cs, place, num, tot, ht⟩, h1, hb, q⟩ := h
  refine ⟨_, (pss_cons (ps_if (pt_cmpR op_eq (pe_ix ix_list (pv 0) pe_int (fun _ _ => rfl)) pe_int (nomark _)) (pss_cons (ps_set (i := 2) sc_law_draw.nd rfl (by first | exact Or.inl rfl | exact Or.inr rfl) (pe_ix ix_list (pv 0) pe_int (fun _ _ => rfl)))
    (pss_cons (ps_set (i := 3) sc_law_draw.nd rfl (by first | exact Or.inl rfl | exact Or.inr rfl) pe_int)
    (pss_cons (ps_if (pt_cmpR op_lt (pv 2) (pe_callB call_len_seq (by rfl) M.len PySem.boot_len (pa_cons (pe_ix ix_list (pv 0) pe_int (fun _ _ => rfl)) pa_nil)) (nomark _)) (pss_one (ps_set (i := 3) sc_law_draw.nd rfl (by first | exact Or.inl rfl | exact Or.inr rfl) (pe_callB call_abs (by rfl) M.abs (by decide +kernel) (pa_cons (pe_callTy call_int1 (by rfl) M.int_ (by decide +kernel) (pa_cons (pe_ix ix_list (pe_ix ix_list (pv 0) pe_int (fun _ _ => rfl)) (pv 2) (fun _ _ => rfl)) pa_nil)) pa_nil)))) (pss_cons (ps_asg (pe_op op_mod (pe_callTy call_int1 (by rfl) M.int_ (by decide +kernel) (pa_cons (pe_op op_add (pe_op op_add (pe_op op_mul (pe_ix ix_list (pv 0) pe_int (fun _ _ => rfl)) pe_int) (pv 2)) pe_int) pa_nil)) pe_int) (pg_sub (pv 0) pe_int set_list))
    (pss_one (ps_set (i := 3) sc_law_draw.nd rfl (by first | exact Or.inl rfl | exact Or.inr rfl) (pe_ix ix_list (pv 0) pe_int (fun _ _ => rfl))))))
    (pss_cons (ps_asg (pe_op op_add (pv 2) pe_int) (pg_sub (pv 0) pe_int set_list))
    (pss_cons (ps_if (pt_cmpR op_lt (pv 3) (pe_op op_pow pe_int pe_int) (nomark _)) (pss_cons (ps_set (i := 3) sc_law_draw.nd rfl (by first | exact Or.inl rfl | exact Or.inr rfl) (pe_op op_mod (pe_callTy call_int1 (by rfl) M.int_ (by decide +kernel) (pa_cons (pe_op op_add (pe_op op_add (pe_op op_mul (pv 3) pe_int) (pe_op op_mul (pv 2) pe_int)) pe_int) pa_nil)) pe_int))
    (pss_cons (ps_set (i := 3) sc_law_draw.nd rfl (by first | exact Or.inl rfl | exact Or.inr rfl) (pe_op op_mod (pe_callTy call_int1 (by rfl) M.int_ (by decide +kernel) (pa_cons (pe_op op_mul (pv 3) pe_int) pa_nil)) pe_int))
    (pss_one (ps_ret (pe_op op_mod (pe_callTy call_int1 (by rfl) M.int_ (by decide +kernel) (pa_cons (pv 3) pa_nil)) (pe_callB (call_max2 rfl) (by rfl) M.max (by decide +kernel) (pa_cons (pv 1) (pa_cons pe_int pa_nil)))))))) pss_nil)
    (pss_one (ps_asg (pv 3) (pg_sub (pv 0) pe_int set_list)))))))) pss_nil)
    (pss_cons (ps_set (i := 3) sc_law_draw.nd rfl (by first | exact Or.inl rfl | exact Or.inr rfl) (pe_ix ix_list (pv 0) pe_int (fun _ _ => rfl)))
    (pss_cons (ps_asg (pe_op op_fdiv (pv 3) (pe_callB (call_max2 rfl) (by rfl) M.max (by decide +kernel) (pa_cons (pv 1) (pa_cons pe_int pa_nil)))) (pg_sub (pv 0) pe_int set_list))
    (pss_one (ps_ret (pe_op op_mod (pe_callTy call_int1 (by rfl) M.int_ (by decide +kernel) (pa_cons (pv 3) pa_nil)) (pe_callB (call_max2 rfl) (by rfl) M.max (by decide +kernel) (pa_cons (pv 1) (pa_cons pe_int pa_nil))))))))), ?_⟩
  have hm1 := max1 h1
  refine ⟨_, rfl, tp, _, 2, _, rfl, rfl, lstS ht.tp, at2, rfl, _, rfl, ?_⟩
  have d0 := Dr.refl (⟨cs, place, num, tot, ht⟩ : TapeOk tp c H)
  by_cases hnum : num = 0
  · refine ifT (by rw [hnum]) ⟨_, rfl, tp, _, 1, _, rfl, rfl, lstS ht.tp, at1, ?_⟩
    refine ⟨_, rfl, _, rfl, tp, _, 0, _, rfl, rfl, lstS ht.tp, at0, c, _, rfl, .inl (lstS ht.cells), _, _, rfl, rfl, _, rfl, ?_⟩
    rw [List.length_map]
    by_cases hpl : place < (cs.length : Int)
    · have hp0 := ht.p0
      obtain ⟨v, hv⟩ : ∃ v, cs[place.toNat]? = some v := ⟨_, List.getElem?_eq_getElem (by omega)⟩
      have hat : atI (cs.map V.int) place = some (.int v) := by
        have hc : place = ((place.toNat : Nat) : Int) := by omega
        rw [hc]
        refine atNat ?_
        rw [List.getElem?_map, hv]
        rfl
      refine ifT hpl ⟨_, rfl, tp, _, 0, _, rfl, rfl, lstS ht.tp, at0, _, rfl, c, _, place, _, rfl, rfl, lstS ht.cells, hat, .inl ⟨_, rfl, _, rfl, ?_⟩⟩
      have hnn : 0 ≤ (if v < 0 then -v else v) := by split <;> omega
      generalize (if v < 0 then -v else v) = nn at hnn
      refine ⟨_, rfl, _, _, rfl, rfl, _, rfl, tp, _, 1, 1, rfl, rfl, ht.tp, rfl, ?_⟩
      have ht3 := ht.put (p' := place + 1) (n' := num) (t' := tot) (by have := ht.p0; omega) ht.n0
      have dr3 := d0.trans (TapeAt.dr ht (p' := place + 1) (n' := num) (t' := tot) (by have := ht.p0; omega) ht.n0)
      refine ⟨_, rfl, _, _, rfl, rfl, ⟨by decide, by decide, by decide⟩, _, _, rfl, rfl, _, rfl, ifB (fun hlt => ?_) (fun hlt => ?_)⟩
      · refine ⟨_, rfl, _, _, rfl, rfl, .inr ⟨by decide, by decide⟩, _, rfl, _, _, rfl, rfl, .inr ⟨by decide, by decide⟩, _, _, rfl, rfl, _, _, rfl, rfl, .inl ⟨_, rfl, _, _, rfl, rfl, modp1, ?_⟩⟩
        refine ⟨_, rfl, _, _, rfl, rfl, .inr ⟨by decide, by decide⟩, .inl ⟨_, rfl, _, _, rfl, rfl, modp2, ?_⟩⟩
        refine ⟨_, rfl, .inl ⟨_, rfl, _, rfl, _, _, rfl, _, _, rfl, rfl, by rw [hm1]; omega, ?_⟩⟩
        exact q _ _ (by rw [hm1]; exact Int.emod_nonneg _ (by omega)) (by rw [hm1]; exact Int.emod_lt_of_pos _ (by omega)) dr3
      · refine ⟨_, rfl, _, rfl, tp, _, 2, 2, rfl, rfl, ht3.tp, rfl, ?_⟩
        have ht4 := ht3.put (p' := place + 1) (n' := nn) (t' := tot) ht3.p0 hnn
        have dr4 := dr3.trans (TapeAt.dr ht3 (p' := place + 1) (n' := nn) (t' := tot) ht3.p0 hnn)
        refine ⟨_, rfl, tp, _, 2, _, rfl, rfl, lstS ht4.tp, at2, ?_⟩
        refine ⟨_, rfl, _, rfl, _, _, rfl, _, _, rfl, rfl, ⟨by split <;> omega, by split <;> omega⟩, _, rfl, tp, _, 2, 2, rfl, rfl, ht4.tp, rfl, ?_⟩
        refine ⟨_, rfl, .inl ⟨_, rfl, _, rfl, _, _, rfl, _, _, rfl, rfl, by rw [hm1]; omega, ?_⟩⟩
        refine q _ _ (by rw [hm1]; exact Int.emod_nonneg _ (by omega)) (by rw [hm1]; exact Int.emod_lt_of_pos _ (by omega)) (dr4.trans (TapeAt.dr ht4 ht4.p0 (Int.ediv_nonneg ht4.n0 (by split <;> omega))))
    · refine ifF hpl ⟨_, rfl, tp, _, 3, _, rfl, rfl, lstS ht.tp, at3, _, _, rfl, rfl, .inr ⟨by decide, by decide⟩, _, rfl, _, _, rfl, rfl, _, _, rfl, rfl, .inl ⟨_, rfl, _, _, rfl, rfl, modp1, _, rfl, tp, _, 3, 3, rfl, rfl, ht.tp, rfl, ?_⟩⟩
      have hnn : 0 ≤ (tot * 48271 + place + 1) % 2147483647 := Int.emod_nonneg _ (by decide)
      have ht1 := ht.put (p' := place) (n' := num) (t' := (tot * 48271 + place + 1) % 2147483647) ht.p0 ht.n0
      have d1 := d0.trans (TapeAt.dr ht (p' := place) (n' := num) (t' := (tot * 48271 + place + 1) % 2147483647) ht.p0 ht.n0)
      refine ⟨_, rfl, tp, _, 3, _, rfl, rfl, lstS ht1.tp, at3, ?_⟩
      refine ⟨_, rfl, _, _, rfl, rfl, _, rfl, tp, _, 1, 1, rfl, rfl, ht1.tp, rfl, ?_⟩
      have ht3 := ht1.put (p' := place + 1) (n' := num) (t' := ((tot * 48271 + place + 1) % 2147483647)) (by have := ht1.p0; omega) ht1.n0
      have dr3 := d1.trans (TapeAt.dr ht1 (p' := place + 1) (n' := num) (t' := ((tot * 48271 + place + 1) % 2147483647)) (by have := ht1.p0; omega) ht1.n0)
      refine ⟨_, rfl, _, _, rfl, rfl, ⟨by decide, by decide, by decide⟩, _, _, rfl, rfl, _, rfl, ifB (fun hlt => ?_) (fun hlt => ?_)⟩
      · refine ⟨_, rfl, _, _, rfl, rfl, .inr ⟨by decide, by decide⟩, _, rfl, _, _, rfl, rfl, .inr ⟨by decide, by decide⟩, _, _, rfl, rfl, _, _, rfl, rfl, .inl ⟨_, rfl, _, _, rfl, rfl, modp1, ?_⟩⟩
        refine ⟨_, rfl, _, _, rfl, rfl, .inr ⟨by decide, by decide⟩, .inl ⟨_, rfl, _, _, rfl, rfl, modp2, ?_⟩⟩
        refine ⟨_, rfl, .inl ⟨_, rfl, _, rfl, _, _, rfl, _, _, rfl, rfl, by rw [hm1]; omega, ?_⟩⟩
        exact q _ _ (by rw [hm1]; exact Int.emod_nonneg _ (by omega)) (by rw [hm1]; exact Int.emod_lt_of_pos _ (by omega)) dr3
      · refine ⟨_, rfl, _, rfl, tp, _, 2, 2, rfl, rfl, ht3.tp, rfl, ?_⟩
        have ht4 := ht3.put (p' := place + 1) (n' := ((tot * 48271 + place + 1) % 2147483647)) (t' := ((tot * 48271 + place + 1) % 2147483647)) ht3.p0 hnn
        have dr4 := dr3.trans (TapeAt.dr ht3 (p' := place + 1) (n' := ((tot * 48271 + place + 1) % 2147483647)) (t' := ((tot * 48271 + place + 1) % 2147483647)) ht3.p0 hnn)
        refine ⟨_, rfl, tp, _, 2, _, rfl, rfl, lstS ht4.tp, at2, ?_⟩
        refine ⟨_, rfl, _, rfl, _, _, rfl, _, _, rfl, rfl, ⟨by split <;> omega, by split <;> omega⟩, _, rfl, tp, _, 2, 2, rfl, rfl, ht4.tp, rfl, ?_⟩
        refine ⟨_, rfl, .inl ⟨_, rfl, _, rfl, _, _, rfl, _, _, rfl, rfl, by rw [hm1]; omega, ?_⟩⟩
        refine q _ _ (by rw [hm1]; exact Int.emod_nonneg _ (by omega)) (by rw [hm1]; exact Int.emod_lt_of_pos _ (by omega)) (dr4.trans (TapeAt.dr ht4 ht4.p0 (Int.ediv_nonneg ht4.n0 (by split <;> omega))))
  · refine ifF (by intro z; cases z; exact hnum rfl) ?_
    refine ⟨_, rfl, tp, _, 2, _, rfl, rfl, lstS ht.tp, at2, ?_⟩
    refine ⟨_, rfl, _, rfl, _, _, rfl, _, _, rfl, rfl, ⟨by split <;> omega, by split <;> omega⟩, _, rfl, tp, _, 2, 2, rfl, rfl, ht.tp, rfl, ?_⟩
    refine ⟨_, rfl, .inl ⟨_, rfl, _, rfl, _, _, rfl, _, _, rfl, rfl, by rw [hm1]; omega, ?_⟩⟩
    refine q _ _ (by rw [hm1]; exact Int.emod_nonneg _ (by omega)) (by rw [hm1]; exact Int.emod_lt_of_pos _ (by omega)) (d0.trans (TapeAt.dr ht ht.p0 (Int.ediv_nonneg ht.n0 (by split <;> omega))))
end
end Tf

namespace Tf
open PySem PySem.Spec PyProof.Rows L2
/-- a short text of honest signs -/
structure Nm (k : Nat) (s : PySem.Str) : Prop where
  len : s.length ≤ k
  ok : PyData.strOk s = true
theorem Nm.append {j k : Nat} {s t : PySem.Str} (a : Nm j s) (b : Nm k t) : Nm (j + k) (s ++ t) := by
  refine ⟨by rw [Str.length_append]; have := a.len; have := b.len; omega, ?_⟩
  have h1 := a.ok
  have h2 := b.ok
  unfold PyData.strOk at h1 h2 ⊢
  rw [Str.cps_append, Array.all_append, h1, h2]
  rfl
theorem Nm.mono {j k : Nat} {s : PySem.Str} (a : Nm j s) (h : j ≤ k) : Nm k s := ⟨Nat.le_trans a.len h, a.ok⟩
theorem joinTxt (y : PySem.Str) (parts : List PySem.Str) : Txt.join y parts = Str.join y parts := StrLaws.glued_eq_join y parts
theorem nm_join : ∀ ms : List PySem.Str, (∀ m ∈ ms, Nm 1 m) → Nm ms.length (Txt.join "" ms)
  | [], _ => by
    rw [joinTxt]
    exact ⟨by decide +kernel, by decide +kernel⟩
  | [x], h => by
    rw [joinTxt]
    exact h x List.mem_cons_self
  | x :: y :: r, h => by
    have h1 := h x List.mem_cons_self
    have h2 := nm_join (y :: r) fun m hm => h m (List.mem_cons_of_mem _ hm)
    rw [joinTxt] at h2 ⊢
    have h0 : Nm 0 ("" : PySem.Str) := ⟨by decide +kernel, by decide +kernel⟩
    have := (h1.append h0).append h2
    refine this.mono ?_
    simp only [List.length_cons]
    omega
theorem pickAt {α : Type} {xs : List α} {r : Int} (h0 : 0 ≤ r) (h1 : r < (xs.length : Int)) : ∃ v, atI xs r = some v ∧ v ∈ xs := by
  have hr : r = ((r.toNat : Nat) : Int) := by omega
  have hl : r.toNat < xs.length := by omega
  have h := atI_nat (xs := xs) (List.getElem?_eq_getElem hl)
  rw [← hr] at h
  exact ⟨_, h, List.getElem_mem hl⟩
def lettersS : PySem.Str := "abcdefghijklmnopqrstuvwxyzABCDEFGHIJKLMNOPQRSTUVWXYZ0123456789_"
theorem letters_len : lettersS.cps.toList.length = 63 := by decide +kernel
theorem letters_z : lettersS.length ≤ sizeLine := by decide +kernel
theorem letter_nm {c : Nat} (h : c ∈ lettersS.cps.toList) : Nm 1 (⟨#[c]⟩ : PySem.Str) := by
  refine ⟨Nat.le_refl 1, ?_⟩
  have hall : ∀ c ∈ lettersS.cps.toList, decide (c < 1114112) = true := by decide +kernel
  have := hall c h
  unfold PyData.strOk
  simpa using this
theorem sums1 : ∀ ms : List PySem.Str, (∀ m ∈ ms, Nm 1 m) → (ms.map (·.length)).sum ≤ ms.length
  | [], _ => Nat.le_refl _
  | x :: r, h => by
    have h1 := (h x List.mem_cons_self).len
    have h2 := sums1 r fun m hm => h m (List.mem_cons_of_mem _ hm)
    simp only [List.map_cons, List.sum_cons, List.length_cons]
    omega
section
variable {P : Program} {w : World} {K : PySem.W.Frag} {mg : PySem.Str → Option Value} {base : Heap}
abbrev s_law_names : Stmt := top 33
abbrev nm_law_names : List PySem.Str := ["_law_tape_here", "_law_many", "_law_letters", "_law_stem", "_law_names_here", "_law_k", "_law_more", "_law_name", "_law_j"]
theorem sc_law_names : FnScope nm_law_names ["_law_tape_here", "_law_many"] (defScope s_law_names) := ⟨rfl, rfl, rfl, by decide +kernel, rfl, by decide +kernel, by decide +kernel⟩
def spNames : Sp := fun vs H Q _ => ∃ (tp c : Addr) (many : Nat), vs = [.ref tp, .int many] ∧ TapeOk tp c H ∧ many ≤ 8 ∧
  ∀ p ns H', Dr tp c H H' → H p = none → H' p = some (.lst (ns.map V.str)) → ns.length ≤ many → (1 ≤ many → ns ≠ []) → (∀ n ∈ ns, Nm 100 n) → Q (.ref p) H'
theorem ok_names (D : Dfn K mg "_law_names" s_law_names) (M : Mo K mg) (C_law_draw : Callee P w K mg base 1 "_law_draw" ["_law_tape_here", "_law_many"] spDraw) : Callee P w K mg base 2 "_law_names" ["_law_tape_here", "_law_many"] spNames := by
  refine D.ok (fun _ _ _ _ _ _ us hl => match us, hl with | [_, _], _ => rfl) sc_law_names (fun vs H Q E h => ?_) (fun f cdv A outer s H vs Q E hr h => ?_)
  · obtain ⟨tp, c, many, rfl, _⟩ := h
    rfl
  obtain ⟨tp, c, many, rfl, ht, hm8, q⟩ := h
  refine ⟨_, (pss_cons (ps_set (i := 2) sc_law_names.nd rfl (by first | exact Or.inl rfl | exact Or.inr rfl) pe_str)
    (pss_cons (ps_set (i := 3) sc_law_names.nd rfl (by first | exact Or.inl rfl | exact Or.inr rfl) (pe_ix ix_list (pe_lst (pa_cons pe_str (pa_cons pe_str (pa_cons pe_str (pa_cons pe_str (pa_cons pe_str (pa_cons pe_str pa_nil))))))) (pe_callC C_law_draw (hr.mono (by omega)) (by rfl) (pa_cons (pv 0) (pa_cons pe_int pa_nil))) (fun _ _ => rfl)))
    (pss_cons (ps_set (i := 4) sc_law_names.nd rfl (by first | exact Or.inl rfl | exact Or.inr rfl) (pe_lst pa_nil))
    (pss_cons (ps_for PassesOwn.never rfl (pi_range1 (by rfl) M.range (pa_cons (pv 1) pa_nil)) (pg_name (i := 5) sc_law_names.nd rfl (by first | exact Or.inl rfl | exact Or.inr rfl)) (pss_cons (ps_setLc (i := 6) (own := [("_law_j", 8)]) rfl sc_law_names.nd rfl rfl (sw_true rfl rfl rfl (by decide +kernel)) (pi_range1 (by rfl) M.range (pa_cons (pe_ix ix_list (pe_lst (pa_cons pe_int (pa_cons pe_int (pa_cons pe_int (pa_cons pe_int pa_nil))))) (pe_callC C_law_draw (hr.mono (by omega)) (by rfl) (pa_cons (pv 0) (pa_cons pe_int pa_nil))) (fun _ _ => rfl)) pa_nil)) (blkOk_by (own := [("_law_j", 8)]) (N := nm_law_names) (sc := defScope s_law_names) (by decide +kernel)) (fun _ _ _ _ _ => (pg_name (i := 8) sc_law_names.nd rfl (by first | exact Or.inl rfl | exact Or.inr rfl))) (fun _ _ _ _ _ => pts_nil) (fun _ _ _ _ _ => (pe_ix ix_str (pv 2) (pe_callC C_law_draw (hr.mono (by omega)) (by rfl) (pa_cons (pv 0) (pa_cons pe_int pa_nil))) (fun _ _ => rfl))))
    (pss_cons (ps_set (i := 7) sc_law_names.nd rfl (by first | exact Or.inl rfl | exact Or.inr rfl) (pe_op op_add_str (pe_op op_add_str (pv 3) (pe_ix ix_str (pv 2) (pe_callC C_law_draw (hr.mono (by omega)) (by rfl) (pa_cons (pv 0) (pa_cons pe_int pa_nil))) (fun _ _ => rfl))) (pe_join pe_str (pv 6) (by rfl))))
    (pss_cons (ps_if (pt_cmpR op_in_seq (pv 7) (pe_tup (pa_cons pe_str (pa_cons pe_str (pa_cons pe_str pa_nil)))) (by rfl)) (pss_one (ps_set (i := 7) sc_law_names.nd rfl (by first | exact Or.inl rfl | exact Or.inr rfl) (pe_op op_add_str (pv 7) pe_str))) pss_nil)
    (pss_one (ps_if (pt_cmpR op_notIn_seq (pv 7) (pv 4) (by rfl)) (pss_one (ps_expr (pe_bm PySem.F.plainAttrs_list PySem.F.slot_list_append PySem.F.type_list_append mt_append (pv 4) (pa_cons (pv 7) pa_nil)))) pss_nil))))))
    (pss_one (ps_ret (pv 4))))))), ?_⟩
  -- the stem
  refine ⟨sz (by simp only [List.length_cons, List.length_nil]; omega), fun p0 np0 => ⟨_, rfl, tp, c, 6, rfl, ht.same (same_upd np0), by decide, by decide, fun r H1 h0 h1 d1 => ?_⟩⟩
  have d01 := (Dr.new (o := .lst [.str "", .str "", .str "check_in_", .str "or", .str "not", .str "sequence"]) ht np0).trans d1
  have hl1 := d1.keep p0 _ (ht.ne_of np0) upd_same
  obtain ⟨v, hv, hmem⟩ := pickAt (xs := [V.str "", .str "", .str "check_in_", .str "or", .str "not", .str "sequence"]) h0 h1
  obtain ⟨stem, rfl, hstem⟩ : ∃ stem, v = V.str stem ∧ Nm 9 stem := by
    simp only [List.mem_cons, List.not_mem_nil, or_false] at hmem
    rcases hmem with h | h | h | h | h | h
    all_goals exact ⟨_, h, by decide +kernel, by decide +kernel⟩
  refine ⟨p0, _, r, _, rfl, rfl, lstS hl1, hv, ?_⟩
  clear hv hmem hl1 d1
  refine ⟨Nat.zero_le _, fun l nl => ?_⟩
  have nlH := d01.free nl
  have lne := ht.ne_of nlH
  have d02 := d01.trans (Dr.new (o := .lst []) d01.tape nl)
  have hl2 : upd H1 l (.lst []) l = some (.lst []) := upd_same
  generalize upd H1 l (.lst []) = H2 at d02 hl2
  refine ⟨_, rfl, _, rfl, by omega, by omega, ?_⟩
  rw [Int.toNat_natCast]
  refine for_range (fun i σ H3 => ∃ y5 y6 y7 y8 ns, σ = [some (.ref tp), some (.int many), some (.str lettersS), some (.str stem), some (.ref l), y5, y6, y7, y8] ∧ Dr tp c H H3 ∧ H3 l = some (.lst (ns.map V.str)) ∧ ns.length ≤ i ∧ (1 ≤ i → ns ≠ []) ∧ ∀ n ∈ ns, Nm 100 n)
    ⟨_, _, _, _, [], rfl, d02, hl2, Nat.le_refl _, fun z => absurd z (by decide), fun n hn => by cases hn⟩ (fun i σ H3 hi ⟨y5, y6, y7, y8, ns, es, d3, hl3, hlen, hne, hok⟩ => ?_) (fun σ H3 ⟨y5, y6, y7, y8, ns, es, d3, hl3, hlen, hne, hok⟩ => ?_)
  · subst es
    -- how many more letters
    refine ⟨sz (by simp only [List.length_cons, List.length_nil]; omega), fun p1 np1 => ⟨_, rfl, tp, c, 4, rfl, d3.tape.same (same_upd np1), by decide, by decide, fun r H4 h0 h1 d4 => ?_⟩⟩
    have d34 := (Dr.new (o := .lst [.int 0, .int 0, .int 1, .int 3]) d3.tape np1).trans d4
    have hp4 := d4.keep p1 _ (d3.tape.ne_of np1) upd_same
    obtain ⟨v, hv, hmem⟩ := pickAt (xs := [V.int 0, .int 0, .int 1, .int 3]) h0 h1
    obtain ⟨nm, rfl, hnm⟩ : ∃ nm : Nat, v = V.int nm ∧ nm ≤ 3 := by
      simp only [List.mem_cons, List.not_mem_nil, or_false] at hmem
      rcases hmem with h | h | h | h
      · exact ⟨0, h, by decide⟩
      · exact ⟨0, h, by decide⟩
      · exact ⟨1, h, by decide⟩
      · exact ⟨3, h, by decide⟩
    refine ⟨p1, _, r, _, rfl, rfl, lstS hp4, hv, _, rfl, by omega, by omega, fun D5 nD5 => ?_⟩
    rw [Int.toNat_natCast]
    have d04 := d3.trans d34
    have hl4 := d34.keep l _ lne hl3
    clear hv hmem hp4 d4 d34 hl3
    refine lc_range (fun j H5 => ∃ ms : List PySem.Str, Dr tp c H4 H5 ∧ H5 D5 = some (.lst (ms.map V.str)) ∧ ms.length = j ∧ ∀ m ∈ ms, Nm 1 m) ⟨[], Dr.new d04.tape nD5, upd_same, rfl, fun m hm => by cases hm⟩ (fun j H5 hj ⟨ms, d5, hD5, hml, hmo⟩ => ?_) (fun H5 ⟨ms, d5, hD5, hml, hmo⟩ => ?_)
    · refine ⟨rfl, yes_of ?_⟩
      rw [if_pos rfl]
      refine ⟨_, rfl, _, rfl, tp, c, 63, rfl, d5.tape, by decide, by decide, fun r6 H6 h0 h1 d6 => ?_⟩
      obtain ⟨ch, hch, hcm⟩ := pickAt (xs := lettersS.cps.toList) h0 (by rw [letters_len]; exact h1)
      refine ⟨lettersS, r6, ch, rfl, rfl, letters_z, hch, ?_⟩
      have hne5 : D5 ≠ tp := d04.tape.ne_of nD5
      have hD6 := d6.keep D5 _ hne5 hD5
      refine ⟨_, hD6, by rw [List.length_map]; exact szl (by omega), ms ++ [⟨#[ch]⟩], (d5.trans d6).mut d04.tape nD5, ?_, by rw [List.length_append, hml]; rfl, fun m hm => ?_⟩
      · rw [List.map_append]
        exact upd_same
      · rcases List.mem_append.mp hm with hm | hm
        · exact hmo m hm
        · rw [List.mem_singleton.mp hm]
          exact letter_nm hcm
    · have hl5 := d5.keep l _ lne hl4
      have d05 := d04.trans d5
      -- the name
      refine ⟨_, rfl, _, rfl, _, rfl, tp, c, 52, rfl, d05.tape, by decide, by decide, fun r6 H6 h0 h1 d6 => ?_⟩
      obtain ⟨ch, hch, hcm⟩ := pickAt (xs := lettersS.cps.toList) h0 (by rw [letters_len]; omega)
      have hnl := letter_nm hcm
      refine ⟨lettersS, r6, ch, rfl, rfl, letters_z, hch, _, _, rfl, rfl, ?_, ⟨_, rfl⟩, _, rfl, _, D5, ms, rfl, rfl, .inl (lstS (d6.keep D5 _ (d04.tape.ne_of nD5) hD5)), ?_, ?_⟩
      · have := hstem.len
        have := hnl.len
        exact sz (by omega)
      · have := sums1 ms hmo
        have he : ("" : PySem.Str).length = 0 := by decide +kernel
        rw [he]
        omega
      have hname := (hstem.append hnl).append ((nm_join ms hmo).mono (hml ▸ hnm))
      have hl6 := d6.keep l _ lne hl5
      have d06 := d05.trans d6
      refine ⟨_, _, rfl, rfl, ?_, ?_⟩
      · have := (hstem.append hnl).len
        have := (nm_join ms hmo).len
        exact sz (by omega)
      generalize (stem ++ (⟨#[ch]⟩ : PySem.Str)) ++ Txt.join "" ms = name at hname
      -- end: the name is put behind
      have fin : ∀ (nm : PySem.Str) (H7 : Hp), Nm 100 nm → Dr tp c H6 H7 → ∀ (y5 y6 y8 : Option V) (D : Ends), (∀ y5 y6 y7 y8 ns H8, Dr tp c H H8 → H8 l = some (.lst (ns.map V.str)) → ns.length ≤ i + 1 → ns ≠ [] → (∀ n ∈ ns, Nm 100 n) → D.nx [some (.ref tp), some (.int many), some (.str lettersS), some (.str stem), some (.ref l), y5, y6, y7, y8] H8) →
          tIfS (tTest (tOp (rIn K true) (tVar 7) (tVar 4))) (tDrop (tBM K "list" rAppend (tVar 4) (tCons (tVar 7) tNil))) tNext D [some (.ref tp), some (.int many), some (.str lettersS), some (.str stem), some (.ref l), y5, y6, some (.str nm), y8] H7 := by
        intro nm H7 hnm7 d7 y5 y6 y8 D hD
        have hl7 := d7.keep l _ lne hl6
        refine ⟨_, rfl, _, rfl, l, _, rfl, .inl (lstS hl7), rfl, flat_strs ns, _, rfl, ifB (fun hin => ?_) (fun hin => ?_)⟩
        · refine ⟨_, rfl, .inl ⟨rfl, _, lstS hl7⟩, _, rfl, l, _, _, rfl, rfl, hl7, by rw [List.length_map]; exact szl (by omega), ?_⟩
          refine hD _ _ _ _ (ns ++ [nm]) _ ((d06.trans d7).mut ht nlH) ?_ (by rw [List.length_append]; simp only [List.length_cons, List.length_nil]; omega) (by simp) (fun n hn => ?_)
          · rw [List.map_append]
            exact upd_same
          · rcases List.mem_append.mp hn with hn | hn
            · exact hok n hn
            · rw [List.mem_singleton.mp hn]
              exact hnm7
        · refine hD _ _ _ _ ns H7 (d06.trans d7) hl7 (by omega) (fun z => ?_) hok
          subst z
          simp [inV] at hin
      have hD : ∀ y5 y6 y7 y8 ns H8, Dr tp c H H8 → H8 l = some (.lst (ns.map V.str)) → ns.length ≤ i + 1 → ns ≠ [] → (∀ n ∈ ns, Nm 100 n) → ∃ z5 z6 z7 z8 ns', [some (V.ref tp), some (.int many), some (.str lettersS), some (.str stem), some (.ref l), y5, y6, y7, y8] = [some (.ref tp), some (.int many), some (.str lettersS), some (.str stem), some (.ref l), z5, z6, z7, z8] ∧ Dr tp c H H8 ∧ H8 l = some (.lst (ns'.map V.str)) ∧ ns'.length ≤ i + 1 ∧ (1 ≤ i + 1 → ns' ≠ []) ∧ ∀ n ∈ ns', Nm 100 n :=
        fun y5 y6 y7 y8 ns H8 a b c d e => ⟨y5, y6, y7, y8, ns, rfl, a, b, c, fun _ => d, e⟩
      refine ⟨_, rfl, sz (by simp only [List.length_cons, List.length_nil]; omega), fun p7 np7 => ⟨p7, _, rfl, .inr (tupS upd_same), rfl, rfl, _, rfl, ifB (fun hin => ?_) (fun hin => ?_)⟩⟩
      · refine ⟨_, rfl, _, _, rfl, rfl, ?_, fin _ _ ?_ (Dr.new d06.tape np7) _ _ _ _ hD⟩
        · have := hname.len
          have h1 : ("0" : PySem.Str).length = 1 := by decide +kernel
          rw [h1]
          exact sz (by omega)
        · exact (hname.append (k := 1) ⟨by decide +kernel, by decide +kernel⟩).mono (by omega)
      · exact fin _ _ (hname.mono (by omega)) (Dr.new d06.tape np7) _ _ _ _ hD
  · subst es
    exact ⟨_, rfl, q l ns H3 d3 nlH hl3 hlen hne hok⟩
end
end Tf

namespace Tf
open PySem PySem.Spec PyProof.Rows L2
def AtOk (t : At) : Prop := Nm 100 t.nm ∧ 0 ≤ t.lo ∧ t.lo ≤ t.hi ∧ t.hi ≤ 1000000
theorem mem4 {P : V → Prop} {a b c d v : V} (h : v ∈ [a, b, c, d]) (ha : P a) (hb : P b) (hc : P c) (hd : P d) : P v := by
  simp only [List.mem_cons, List.not_mem_nil, or_false] at h
  rcases h with h | h | h | h <;> subst h <;> assumption
theorem ixN0 {n : Nat} (h : 0 < n) : ixN n 0 = some 0 := by
  unfold ixN
  rw [if_pos (by decide), if_pos (by omega)]
  rfl
theorem len_le {n : Nat} (h : n ≤ 8) : n ≤ sizeLine := sz (by omega)
theorem isInt {m : Int} {lo hi : Int} (h1 : lo ≤ m) (h2 : m ≤ hi) : ∃ k : Int, V.int m = V.int k ∧ lo ≤ k ∧ k ≤ hi := ⟨m, rfl, h1, h2⟩
theorem mems {P : V → Prop} : ∀ {xs : List V} {v : V}, v ∈ xs → (∀ x ∈ xs, P x) → P v := fun h f => f _ h
section
variable {P : Program} {w : World} {K : PySem.W.Frag} {mg : PySem.Str → Option Value} {base : Heap}
abbrev s_law_attributes : Stmt := top 34
abbrev nm_law_attributes : List PySem.Str := ["_law_tape_here", "_law_names_here", "_law_words", "_law_rows", "_law_word", "_law_least", "_law_greatest"]
theorem sc_law_attributes : FnScope nm_law_attributes ["_law_tape_here", "_law_names_here"] (defScope s_law_attributes) := ⟨rfl, rfl, rfl, by decide +kernel, rfl, by decide +kernel, by decide +kernel⟩
def spAttrs (K : PySem.W.Frag) : Sp := fun vs H Q _ => ∃ (tp c nl : Addr) (ns : List PySem.Str), vs = [.ref tp, .ref nl] ∧ TapeOk tp c H ∧ nl ≠ tp ∧ H nl = some (.lst (ns.map V.str)) ∧ ns ≠ [] ∧ (∀ n ∈ ns, Nm 100 n) ∧
  ∀ p ys ats H', Dr tp c H H' → SqT K H' p ys → Rows (RepA K H') ys ats → ats.length ≤ 8 → (∀ t ∈ ats, AtOk t) → Q (.ref p) H'
theorem ok_attrs (D : Dfn K mg "_law_attributes" s_law_attributes) (M : Mo K mg) (C_law_draw : Callee P w K mg base 1 "_law_draw" ["_law_tape_here", "_law_many"] spDraw) (C_law_names : Callee P w K mg base 2 "_law_names" ["_law_tape_here", "_law_many"] spNames) : Callee P w K mg base 3 "_law_attributes" ["_law_tape_here", "_law_names_here"] (spAttrs K) := by
  refine D.ok (fun _ _ _ _ _ _ us hl => match us, hl with | [_, _], _ => rfl) sc_law_attributes (fun vs H Q E h => ?_) (fun f cdv A outer s H vs Q E hr h => ?_)
  · obtain ⟨tp, c, nl, ns, rfl, _⟩ := h
    rfl
  obtain ⟨tp, c, nl, ns, rfl, ht, hnt, hnl, hne, hnm, q⟩ := h
  refine ⟨_, (pss_cons (ps_set (i := 2) sc_law_attributes.nd rfl (by first | exact Or.inl rfl | exact Or.inr rfl) (pe_callC C_law_names (hr.mono (by omega)) (by rfl) (pa_cons (pv 0) (pa_cons (pe_ix ix_list (pe_lst (pa_cons pe_int (pa_cons pe_int (pa_cons pe_int (pa_cons pe_int (pa_cons pe_int (pa_cons pe_int (pa_cons pe_int (pa_cons pe_int pa_nil))))))))) (pe_callC C_law_draw (hr.mono (by omega)) (by rfl) (pa_cons (pv 0) (pa_cons pe_int pa_nil))) (fun _ _ => rfl)) pa_nil))))
    (pss_cons (ps_if (PW.pt (pw_and (pt_truth (pv 2) (by intro _; rfl)) (pw_and (pt_cmpR op_notIn_seq (pe_ix ix_list (pv 1) pe_int (fun _ _ => rfl)) (pv 2) (by rfl)) (pw_and1 (pt_cmpR op_eq (pe_callC C_law_draw (hr.mono (by omega)) (by rfl) (pa_cons (pv 0) (pa_cons pe_int pa_nil))) pe_int (nomark _)))))) (pss_one (ps_asg (pe_ix ix_list (pv 1) pe_int (fun _ _ => rfl)) (pg_sub (pv 2) pe_int set_list))) pss_nil)
    (pss_cons (ps_set (i := 3) sc_law_attributes.nd rfl (by first | exact Or.inl rfl | exact Or.inr rfl) (pe_lst pa_nil))
    (pss_cons (ps_for PassesOwn.never rfl (pi_list (pv 2)) (pg_name (i := 4) sc_law_attributes.nd rfl (by first | exact Or.inl rfl | exact Or.inr rfl)) (pss_cons (ps_set (i := 5) sc_law_attributes.nd rfl (by first | exact Or.inl rfl | exact Or.inr rfl) (pe_ix ix_list (pe_lst (pa_cons pe_int (pa_cons pe_int (pa_cons pe_int (pa_cons pe_int pa_nil))))) (pe_callC C_law_draw (hr.mono (by omega)) (by rfl) (pa_cons (pv 0) (pa_cons pe_int pa_nil))) (fun _ _ => rfl)))
    (pss_cons (ps_set (i := 6) sc_law_attributes.nd rfl (by first | exact Or.inl rfl | exact Or.inr rfl) (pe_callB (call_min2 rfl) (by rfl) M.min (by decide +kernel) (pa_cons (pe_op op_add (pv 5) (pe_ix ix_list (pe_lst (pa_cons pe_int (pa_cons pe_int (pa_cons pe_int (pa_cons pe_int (pa_cons pe_int pa_nil)))))) (pe_callC C_law_draw (hr.mono (by omega)) (by rfl) (pa_cons (pv 0) (pa_cons pe_int pa_nil))) (fun _ _ => rfl))) (pa_cons pe_int pa_nil))))
    (pss_one (ps_expr (pe_bm PySem.F.plainAttrs_list PySem.F.slot_list_append PySem.F.type_list_append mt_append (pv 3) (pa_cons (pe_tup (pa_cons (pv 4) (pa_cons (pv 5) (pa_cons (pv 6) (pa_cons (pe_op op_add pe_int (pe_callC C_law_draw (hr.mono (by omega)) (by rfl) (pa_cons (pv 0) (pa_cons (pe_ix ix_list (pe_lst (pa_cons pe_int (pa_cons pe_int (pa_cons pe_int (pa_cons pe_int pa_nil))))) (pe_callC C_law_draw (hr.mono (by omega)) (by rfl) (pa_cons (pv 0) (pa_cons pe_int pa_nil))) (fun _ _ => rfl)) pa_nil)))) pa_nil))))) pa_nil)))))))
    (pss_one (ps_ret (pe_callTy call_tuple_of (by rfl) M.tuple_ (by decide +kernel) (pa_cons (pv 3) pa_nil)))))))), ?_⟩
  refine ⟨_, rfl, len_le (by simp only [List.length_cons, List.length_nil]; omega), fun p0 np0 => ⟨_, rfl, tp, c, 8, rfl, ht.same (same_upd np0), by decide, by decide, fun r H1 h0 h1 d1 => ?_⟩⟩
  have d01 := (Dr.new (o := .lst [.int 0, .int 1, .int 1, .int 1, .int 2, .int 2, .int 3, .int 1]) ht np0).trans d1
  have hl1 := d1.keep p0 _ (ht.ne_of np0) upd_same
  obtain ⟨v, hv, hmem⟩ := pickAt (xs := [V.int 0, .int 1, .int 1, .int 1, .int 2, .int 2, .int 3, .int 1]) h0 h1
  obtain ⟨many, rfl, hmany⟩ : ∃ many : Nat, v = V.int many ∧ many ≤ 8 := by
    simp only [List.mem_cons, List.not_mem_nil, or_false] at hmem
    rcases hmem with h | h | h | h | h | h | h | h
    · exact ⟨0, h, by decide⟩
    · exact ⟨1, h, by decide⟩
    · exact ⟨1, h, by decide⟩
    · exact ⟨1, h, by decide⟩
    · exact ⟨2, h, by decide⟩
    · exact ⟨2, h, by decide⟩
    · exact ⟨3, h, by decide⟩
    · exact ⟨1, h, by decide⟩
  refine ⟨p0, _, r, _, rfl, rfl, lstS hl1, hv, ?_⟩
  clear hv hmem hl1 d1
  refine ⟨tp, c, many, rfl, d01.tape, hmany, fun wl wns H2 d2 nwl hwl hwlen _ hwok => ?_⟩
  have d02 := d01.trans d2
  have nwlH := d01.free nwl
  have wne := ht.ne_of nwlH
  -- the rest, from any words
  have rest : ∀ (H3 : Hp) (wns : List PySem.Str), Dr tp c H H3 → H3 wl = some (.lst (wns.map V.str)) → wns.length ≤ 8 → (∀ n ∈ wns, Nm 100 n) → ∀ D : Ends, D.rt = Q →
      (tSeq (tAsg (tLst tNil) (gName 3)) (tSeq (tFor (iList K (tVar 2)) (gName 4)
        (tSeq (tAsg (tOp (rIxL K) (tLst (tCons (tC (.int 0)) (tCons (tC (.int 0)) (tCons (tC (.int 3)) (tCons (tC (.int 999990)) tNil))))) (tCall spDraw [] E0 (tCons (tVar 0) (tCons (tC (.int 4)) tNil)))) (gName 5))
        (tSeq (tAsg (tCB (fun xs H Q => ∃ i j, xs = [.int i, .int j] ∧ Q (.int (if j < i then j else i)) H) (tCons (tOp (rI0 fun i j => .int (i + j)) (tVar 5) (tOp (rIxL K) (tLst (tCons (tC (.int 0)) (tCons (tC (.int 1)) (tCons (tC (.int 5)) (tCons (tC (.int 12)) (tCons (tC (.int 1000000)) tNil)))))) (tCall spDraw [] E0 (tCons (tVar 0) (tCons (tC (.int 5)) tNil))))) (tCons (tC (.int 1000000)) tNil))) (gName 6))
          (tDrop (tBM K "list" rAppend (tVar 3) (tCons (tTup (tCons (tVar 4) (tCons (tVar 5) (tCons (tVar 6) (tCons (tOp (rI0 fun i j => .int (i + j)) (tC (.int 1)) (tCall spDraw [] E0 (tCons (tVar 0) (tCons (tOp (rIxL K) (tLst (tCons (tC (.int 2)) (tCons (tC (.int 3)) (tCons (tC (.int 9)) (tCons (tC (.int 1000)) tNil))))) (tCall spDraw [] E0 (tCons (tVar 0) (tCons (tC (.int 4)) tNil)))) tNil)))) tNil))))) tNil))))))
        (tRet (tCB (fun xs H Q => ∃ p ys, xs = [.ref p] ∧ ((SqL K H p ys ∧ ∀ l, H l = none → Q (.ref l) (upd H l (.tup ys))) ∨ (SqT K H p ys ∧ Q (.ref p) H))) (tCons (tVar 3) tNil))))) D
        [some (.ref tp), some (.ref nl), some (.ref wl), none, none, none, none] H3 := by
    intro H3 wns d3 hw hwl8 hwok D eD
    refine ⟨Nat.zero_le _, fun rl nrl => ?_⟩
    have nrlH := d3.free nrl
    have d04 := d3.trans (Dr.new (o := .lst []) d3.tape nrl)
    have rne := ht.ne_of nrlH
    have hrl : upd H3 rl (.lst []) rl = some (.lst []) := upd_same
    have hw4 : upd H3 rl (.lst []) wl = some (.lst (wns.map V.str)) := same_upd nrl _ _ hw
    have hwr : wl ≠ rl := fun z => by
      rw [z, nrl] at hw
      cases hw
    generalize upd H3 rl (.lst []) = H4 at d04 hrl hw4
    refine ⟨_, rfl, wl, rfl, ⟨_, lstS hw4⟩, for_list (xs := wns.map V.str) (fun i σ H5 => ∃ y4 y5 y6 ys ats, σ = [some (.ref tp), some (.ref nl), some (.ref wl), some (.ref rl), y4, y5, y6] ∧ Dr tp c H H5 ∧ H5 wl = some (.lst (wns.map V.str)) ∧ H5 rl = some (.lst ys) ∧ Rows (RepA K H5) ys ats ∧ ats.length = i ∧ ∀ t ∈ ats, AtOk t)
      ⟨_, _, _, [], [], rfl, d04, hw4, hrl, .nil, rfl, fun t h => by cases h⟩ (fun i σ H5 _ ⟨_, _, _, _, _, _, _, h, _⟩ => lstS h) (fun i x σ H5 hx ⟨y4, y5, y6, ys, ats, es, d5, hw5, hrl5, hys, hal, hok⟩ => ?_) (fun σ H5 ⟨y4, y5, y6, ys, ats, es, d5, hw5, hrl5, hys, hal, hok⟩ => ?_)⟩
    · subst es
      rw [List.getElem?_map] at hx
      obtain ⟨wd, hwd, rfl⟩ := Option.map_eq_some_iff.mp hx
      have hwdok := hwok wd (List.mem_of_getElem? hwd)
      have hil := (List.getElem?_eq_some_iff.mp hwd).1
      -- least
      refine ⟨len_le (by simp only [List.length_cons, List.length_nil]; omega), fun p5 np5 => ⟨_, rfl, tp, c, 4, rfl, d5.tape.same (same_upd np5), by decide, by decide, fun r H6 h0 h1 d6 => ?_⟩⟩
      have d56 := (Dr.new (o := .lst [.int 0, .int 0, .int 3, .int 999990]) d5.tape np5).trans d6
      have hp6 := d6.keep p5 _ (d5.tape.ne_of np5) upd_same
      obtain ⟨v, hv, hmem⟩ := pickAt (xs := [V.int 0, .int 0, .int 3, .int 999990]) h0 h1
      obtain ⟨least, rfl, hl0, hl1⟩ : ∃ least : Int, v = V.int least ∧ 0 ≤ least ∧ least ≤ 999990 :=
        mem4 (P := fun v => ∃ least : Int, v = V.int least ∧ 0 ≤ least ∧ least ≤ 999990) hmem ⟨0, rfl, by decide, by decide⟩ ⟨0, rfl, by decide, by decide⟩ ⟨3, rfl, by decide, by decide⟩ ⟨999990, rfl, by decide, by decide⟩
      refine ⟨p5, _, r, _, rfl, rfl, lstS hp6, hv, ?_⟩
      clear hv hmem hp6 d6
      have d06 := d5.trans d56
      have hw6 := d56.keep wl _ wne hw5
      have hr6 := d56.keep rl _ rne hrl5
      have hys6 := Rows.te (stays_A K) (d56.tk d5.tape) hys
      clear d56
      -- greatest
      refine ⟨_, rfl, len_le (by simp only [List.length_cons, List.length_nil]; omega), fun p7 np7 => ⟨_, rfl, tp, c, 5, rfl, d06.tape.same (same_upd np7), by decide, by decide, fun r H7 h0 h1 d7 => ?_⟩⟩
      have d67 := (Dr.new (o := .lst [.int 0, .int 1, .int 5, .int 12, .int 1000000]) d06.tape np7).trans d7
      have hp7 := d7.keep p7 _ (d06.tape.ne_of np7) upd_same
      obtain ⟨v, hv, hmem⟩ := pickAt (xs := [V.int 0, .int 1, .int 5, .int 12, .int 1000000]) h0 h1
      obtain ⟨add, rfl, ha0, ha1⟩ : ∃ add : Int, v = V.int add ∧ 0 ≤ add ∧ add ≤ 1000000 := by
        simp only [List.mem_cons, List.not_mem_nil, or_false] at hmem
        rcases hmem with h | h | h | h | h
        · exact ⟨0, h, by decide, by decide⟩
        · exact ⟨1, h, by decide, by decide⟩
        · exact ⟨5, h, by decide, by decide⟩
        · exact ⟨12, h, by decide, by decide⟩
        · exact ⟨1000000, h, by decide, by decide⟩
      refine ⟨p7, _, r, _, rfl, rfl, lstS hp7, hv, _, _, rfl, rfl, _, _, rfl, ?_⟩
      clear hv hmem hp7 d7
      have hg : least ≤ (if (1000000 : Int) < least + add then 1000000 else least + add) ∧ (if (1000000 : Int) < least + add then 1000000 else least + add) ≤ 1000000 := by split <;> omega
      generalize (if (1000000 : Int) < least + add then 1000000 else least + add) = gr at hg
      have d07 := d06.trans d67
      have hw7 := d67.keep wl _ wne hw6
      have hr7 := d67.keep rl _ rne hr6
      have hys7 := Rows.te (stays_A K) (d67.tk d06.tape) hys6
      clear d67
      -- the row
      refine ⟨_, rfl, .inl ⟨rfl, _, lstS hr7⟩, _, rfl, _, rfl, _, rfl, _, rfl, len_le (by simp only [List.length_cons, List.length_nil]; omega), fun p8 np8 => ⟨_, rfl, tp, c, 4, rfl, d07.tape.same (same_upd np8), by decide, by decide, fun r H8 h0 h1 d8 => ?_⟩⟩
      have d78 := (Dr.new (o := .lst [.int 2, .int 3, .int 9, .int 1000]) d07.tape np8).trans d8
      have hp8 := d8.keep p8 _ (d07.tape.ne_of np8) upd_same
      obtain ⟨v, hv, hmem⟩ := pickAt (xs := [V.int 2, .int 3, .int 9, .int 1000]) h0 h1
      obtain ⟨mn, rfl, hm0, hm1⟩ : ∃ mn : Int, v = V.int mn ∧ 1 ≤ mn ∧ mn ≤ 1000 :=
        mem4 (P := fun v => ∃ mn : Int, v = V.int mn ∧ 1 ≤ mn ∧ mn ≤ 1000) hmem ⟨2, rfl, by decide, by decide⟩ ⟨3, rfl, by decide, by decide⟩ ⟨9, rfl, by decide, by decide⟩ ⟨1000, rfl, by decide, by decide⟩
      refine ⟨p8, _, r, _, rfl, rfl, lstS hp8, hv, tp, c, mn, rfl, d78.tape, hm0, by omega, fun r2 H9 h0' h1' d9 => ⟨_, _, rfl, rfl, len_le (by simp only [List.length_cons, List.length_nil]; omega), fun pr npr => ?_⟩⟩
      have d79 := d78.trans d9
      have d09 := d07.trans d79
      have hr9 := d79.keep rl _ rne hr7
      have hw9 := d79.keep wl _ wne hw7
      have hys9 := Rows.te (stays_A K) (d79.tk d07.tape) hys7
      have e10 := same_upd (o := .tup [.str wd, .int least, .int gr, .int (1 + r2)]) npr
      have hr10 := e10 _ _ hr9
      have hlen := hys9.len
      have t1 := te_lst (o := .lst (ys ++ [.ref pr])) hr10
      refine ⟨rl, ys, .ref pr, rfl, rfl, hr10, szl (by omega), _, _, _, _, ats ++ [⟨wd, least, gr⟩], rfl, (d09.same e10).mut ht nrlH, ?_, upd_same, ?_, by rw [List.length_append, hal]; rfl, fun t htm => ?_⟩
      · rw [upd_ne hwr]
        exact e10 _ _ hw9
      · exact (Rows.te (stays_A K) ((te_same e10).trans t1) hys9).append (.one ⟨pr, _, rfl, t1.sq (tupS upd_same)⟩)
      · rcases List.mem_append.mp htm with h | h
        · exact hok t h
        · rw [List.mem_singleton.mp h]
          exact ⟨hwdok, hl0, hg.1, hg.2⟩
    · subst es
      rw [List.length_map] at hal
      refine ⟨_, rfl, rl, ys, rfl, .inl ⟨lstS hrl5, fun l nl => ?_⟩⟩
      show D.rt _ _
      rw [eD]
      exact q l ys ats _ (d5.same (same_upd nl)) (tupS upd_same) (Rows.same (stays_A K) (same_upd nl) hys) (by omega) hok
  have hw2 := hwl
  -- the test
  refine ⟨_, rfl, _, .inl ⟨_, lstS hwl, rfl⟩, ifB (fun hnz => ?_) (fun hz => ?_)⟩
  · obtain ⟨n0, ns', rfl⟩ : ∃ n0 ns', ns = n0 :: ns' := by
      cases ns with
      | nil => exact absurd rfl hne
      | cons a b => exact ⟨a, b, rfl⟩
    have hnl2 := d02.keep nl _ hnt hnl
    refine ⟨_, rfl, nl, _, _, _, rfl, rfl, lstS hnl2, at0, _, rfl, wl, _, rfl, .inl (lstS hwl), rfl, flat_strs wns, _, rfl, ifB (fun hin => ?_) (fun hin => ?_)⟩
    · refine ⟨_, rfl, tp, c, 4, rfl, d02.tape, by decide, by decide, fun r H3 h0 h1 d3 => ⟨rfl, _, rfl, ?_⟩⟩
      have hwl3 := d3.keep wl _ wne hwl
      by_cases hr0 : r = 0
      · refine ifT (by rw [hr0]) ⟨_, rfl, nl, _, _, _, rfl, rfl, lstS (d3.keep nl _ hnt hnl2), at0, _, rfl, wl, _, 0, 0, rfl, rfl, hwl3, ?_, ?_⟩
        · cases wns with
          | nil => cases hnz
          | cons a b => exact ixN0 (by simp)
        · refine rest _ (wns.set 0 n0) ((d02.trans d3).mut ht nwlH) ?_ (by rw [List.length_set]; omega) (fun n hn => ?_) _ rfl
          · rw [List.map_set]
            exact upd_same
          · rcases List.mem_or_eq_of_mem_set hn with h | h
            · exact hwok n h
            · rw [h]
              exact hnm _ List.mem_cons_self
      · exact ifF (by intro z; cases z; exact hr0 rfl) (rest H3 wns (d02.trans d3) hwl3 (by omega) hwok _ rfl)
    · exact iteF (rest H2 wns d02 hwl (by omega) hwok _ rfl)
  · exact iteF (rest H2 wns d02 hwl (by omega) hwok _ rfl)
end
end Tf

namespace Tf
open PySem PySem.Spec PyProof.Rows L2
def RepF (K : PySem.W.Frag) (H : Hp) (n : PySem.Str) (v : V) : Prop := ∃ a x y, v = .ref a ∧ SqT K H a [.str n, x, y]
theorem stays_F (K : PySem.W.Frag) : Stays (RepF K) := fun _ _ _ _ e ⟨a, x, y, hv, h⟩ => ⟨a, x, y, hv, e.sq h⟩
/-- how many comparisons -/
def Cnd.cnt : Cnd → Nat
  | .cmp _ _ _ => 1
  | .neg c => c.cnt
  | .con c d => c.cnt + d.cnt
  | .dis c d => c.cnt + d.cnt
section
variable {P : Program} {w : World} {K : PySem.W.Frag} {mg : PySem.Str → Option Value} {base : Heap}
abbrev s_law_frame : Stmt := top 35
abbrev nm_law_frame : List PySem.Str := ["_law_tape_here", "_law_names_here", "_law_top", "_law_activities", "_law_name"]
theorem sc_law_frame : FnScope nm_law_frame ["_law_tape_here"] (defScope s_law_frame) := ⟨rfl, rfl, rfl, by decide +kernel, rfl, by decide +kernel, by decide +kernel⟩
def spFrame (K : PySem.W.Frag) : Sp := fun vs H Q _ => ∃ (tp c : Addr), vs = [.ref tp] ∧ TapeOk tp c H ∧
  ∀ p pf pa ys zs ns ats H', Dr tp c H H' → SqT K H' p [.ref pf, .ref pa] → SqT K H' pf ys → Rows (RepF K H') ys ns → ns.length ≤ 8 → ns ≠ [] → (∀ n ∈ ns, Nm 100 n) → SqT K H' pa zs → Rows (RepA K H') zs ats → ats.length ≤ 8 → (∀ t ∈ ats, AtOk t) → Q (.ref p) H'
theorem ok_frame (D : Dfn K mg "_law_frame" s_law_frame) (M : Mo K mg) (C_law_draw : Callee P w K mg base 1 "_law_draw" ["_law_tape_here", "_law_many"] spDraw) (C_law_names : Callee P w K mg base 2 "_law_names" ["_law_tape_here", "_law_many"] spNames) (C_law_attributes : Callee P w K mg base 3 "_law_attributes" ["_law_tape_here", "_law_names_here"] (spAttrs K)) : Callee P w K mg base 4 "_law_frame" ["_law_tape_here"] (spFrame K) := by
  refine D.ok (fun _ _ _ _ _ _ us hl => match us, hl with | [_], _ => rfl) sc_law_frame (fun vs H Q E h => ?_) (fun f cdv A outer s H vs Q E hr h => ?_)
  · obtain ⟨tp, c, rfl, _⟩ := h
    rfl
  obtain ⟨tp, c, rfl, ht, q⟩ := h
  refine ⟨_, (pss_cons (ps_set (i := 1) sc_law_frame.nd rfl (by first | exact Or.inl rfl | exact Or.inr rfl) (pe_callC C_law_names (hr.mono (by omega)) (by rfl) (pa_cons (pv 0) (pa_cons (pe_ix ix_list (pe_lst (pa_cons pe_int (pa_cons pe_int (pa_cons pe_int (pa_cons pe_int (pa_cons pe_int (pa_cons pe_int (pa_cons pe_int (pa_cons pe_int pa_nil))))))))) (pe_callC C_law_draw (hr.mono (by omega)) (by rfl) (pa_cons (pv 0) (pa_cons pe_int pa_nil))) (fun _ _ => rfl)) pa_nil))))
    (pss_cons (ps_set (i := 2) sc_law_frame.nd rfl (by first | exact Or.inl rfl | exact Or.inr rfl) (pe_ix ix_list (pe_lst (pa_cons pe_int (pa_cons pe_int (pa_cons pe_int (pa_cons pe_int (pa_cons pe_int pa_nil)))))) (pe_callC C_law_draw (hr.mono (by omega)) (by rfl) (pa_cons (pv 0) (pa_cons pe_int pa_nil))) (fun _ _ => rfl)))
    (pss_cons (ps_set (i := 3) sc_law_frame.nd rfl (by first | exact Or.inl rfl | exact Or.inr rfl) (pe_callTy call_tuple_of (by rfl) M.tuple_ (by decide +kernel) (pa_cons (pe_lc (own := [("_law_name", 4)]) rfl sc_law_frame.nd (pi_list (pv 1)) (blkOk_by (own := [("_law_name", 4)]) (N := nm_law_frame) (sc := defScope s_law_frame) (by decide +kernel)) (fun _ _ _ _ _ => (pg_name (i := 4) sc_law_frame.nd rfl (by first | exact Or.inl rfl | exact Or.inr rfl))) (fun _ _ _ _ _ => pts_nil) (fun _ _ _ _ _ => (pe_tup (pa_cons (pv 4) (pa_cons (pe_op op_add pe_int (pe_callC C_law_draw (hr.mono (by omega)) (by rfl) (pa_cons (pv 0) (pa_cons (pv 2) pa_nil)))) (pa_cons (pe_op op_add pe_int (pe_callC C_law_draw (hr.mono (by omega)) (by rfl) (pa_cons (pv 0) (pa_cons (pv 2) pa_nil)))) pa_nil)))))) pa_nil)))
    (pss_one (ps_ret (pe_tup (pa_cons (pv 3) (pa_cons (pe_callC C_law_attributes (hr.mono (by omega)) (by rfl) (pa_cons (pv 0) (pa_cons (pv 1) pa_nil))) pa_nil)))))))), ?_⟩
  refine ⟨_, rfl, len_le (by simp only [List.length_cons, List.length_nil]; omega), fun p0 np0 => ⟨_, rfl, tp, c, 8, rfl, ht.same (same_upd np0), by decide, by decide, fun r H1 h0 h1 d1 => ?_⟩⟩
  have d01 := (Dr.new (o := .lst [.int 1, .int 2, .int 2, .int 3, .int 3, .int 4, .int 5, .int 8]) ht np0).trans d1
  have hl1 := d1.keep p0 _ (ht.ne_of np0) upd_same
  obtain ⟨v, hv, hmem⟩ := pickAt (xs := [V.int 1, .int 2, .int 2, .int 3, .int 3, .int 4, .int 5, .int 8]) h0 h1
  obtain ⟨many, rfl, hmany1, hmany⟩ : ∃ many : Nat, v = V.int many ∧ 1 ≤ many ∧ many ≤ 8 := by
    simp only [List.mem_cons, List.not_mem_nil, or_false] at hmem
    rcases hmem with h | h | h | h | h | h | h | h
    · exact ⟨1, h, by decide, by decide⟩
    · exact ⟨2, h, by decide, by decide⟩
    · exact ⟨2, h, by decide, by decide⟩
    · exact ⟨3, h, by decide, by decide⟩
    · exact ⟨3, h, by decide, by decide⟩
    · exact ⟨4, h, by decide, by decide⟩
    · exact ⟨5, h, by decide, by decide⟩
    · exact ⟨8, h, by decide, by decide⟩
  refine ⟨p0, _, r, _, rfl, rfl, lstS hl1, hv, ?_⟩
  clear hv hmem hl1 d1
  refine ⟨tp, c, many, rfl, d01.tape, hmany, fun nl ns H2 d2 nnl hnl hlen hne hnm => ?_⟩
  replace hne := hne hmany1
  have d02 := d01.trans d2
  have nnlH := d01.free nnl
  have nne := ht.ne_of nnlH
  -- the top
  refine ⟨len_le (by simp only [List.length_cons, List.length_nil]; omega), fun p3 np3 => ⟨_, rfl, tp, c, 5, rfl, d02.tape.same (same_upd np3), by decide, by decide, fun r H3 h0 h1 d3 => ?_⟩⟩
  have d23 := (Dr.new (o := .lst [.int 1, .int 2, .int 4, .int 9, .int 1000]) d02.tape np3).trans d3
  have hp3 := d3.keep p3 _ (d02.tape.ne_of np3) upd_same
  obtain ⟨v, hv, hmem⟩ := pickAt (xs := [V.int 1, .int 2, .int 4, .int 9, .int 1000]) h0 h1
  obtain ⟨tt, rfl, ht1, ht2⟩ : ∃ tt : Int, v = V.int tt ∧ 1 ≤ tt ∧ tt ≤ 1000 := by
    simp only [List.mem_cons, List.not_mem_nil, or_false] at hmem
    rcases hmem with h | h | h | h | h
    · exact ⟨1, h, by decide, by decide⟩
    · exact ⟨2, h, by decide, by decide⟩
    · exact ⟨4, h, by decide, by decide⟩
    · exact ⟨9, h, by decide, by decide⟩
    · exact ⟨1000, h, by decide, by decide⟩
  refine ⟨p3, _, r, _, rfl, rfl, lstS hp3, hv, ?_⟩
  clear hv hmem hp3 d3
  have d03 := d02.trans d23
  have hnl3 := d23.keep nl _ nne hnl
  -- the activities
  refine ⟨_, rfl, nl, rfl, ⟨_, lstS hnl3⟩, fun D4 nD4 => ?_⟩
  have neD := d03.tape.ne_of nD4
  refine lc_list (xs := ns.map V.str) (fun i H4 => ∃ ys, Dr tp c H3 H4 ∧ H4 D4 = some (.lst ys) ∧ Rows (RepF K H4) ys (ns.take i)) ⟨[], Dr.new d03.tape nD4, upd_same, .nil⟩ (fun i H4 _ ⟨ys, d4, _⟩ => lstS (d4.keep nl _ nne hnl3)) (fun i x H4 hx ⟨ys, d4, hD, hys⟩ => ?_) (fun H4 ⟨ys, d4, hD, hys⟩ => ?_)
  · rw [List.getElem?_map] at hx
    obtain ⟨nm, hnmi, rfl⟩ := Option.map_eq_some_iff.mp hx
    refine ⟨rfl, yes_of ?_⟩
    rw [if_pos rfl]
    refine ⟨_, rfl, _, rfl, _, rfl, tp, c, tt, rfl, d4.tape, ht1, by omega, fun r1 H5 h0 h1 d5 => ⟨_, _, rfl, rfl, _, rfl, _, rfl, tp, c, tt, rfl, d5.tape, ht1, by omega, fun r2 H6 h0' h1' d6 => ⟨_, _, rfl, rfl, tup3, fun pr npr => ?_⟩⟩⟩
    have d46 := d5.trans d6
    have e7 := same_upd (o := .tup [.str nm, .int (1 + r1), .int (1 + r2)]) npr
    have hD7 := e7 _ _ (d46.keep D4 _ neD hD)
    have hl := hys.len
    rw [List.length_take] at hl
    have t1 := te_lst (o := .lst (ys ++ [.ref pr])) hD7
    refine ⟨ys, hD7, szl (by omega), _, ((d4.trans d46).same e7).mut d03.tape nD4, upd_same, ?_⟩
    rw [take_succ hnmi]
    exact (Rows.te (stays_F K) ((d46.tk d4.tape).trans ((te_same e7).trans t1)) hys).append (.one ⟨pr, _, _, rfl, t1.sq (tupS upd_same)⟩)
  · rw [List.length_map, List.take_length] at hys
    refine ⟨D4, ys, rfl, .inl ⟨lstS hD, fun pf npf => ?_⟩⟩
    have d04 := d03.trans d4
    have e5 := same_upd (o := .tup ys) npf
    have hnl5 := e5 _ _ (d4.keep nl _ nne hnl3)
    have d05 := d04.same e5
    have hys5 := Rows.same (stays_F K) e5 hys
    have hpf : SqT K (upd H4 pf (.tup ys)) pf ys := tupS upd_same
    refine ⟨_, rfl, _, rfl, _, rfl, tp, c, nl, ns, rfl, d05.tape, nne, hnl5, hne, hnm, fun pa zs ats H6 d6 hpa hzs hal hao => ⟨tup2, fun pp npp => ?_⟩⟩
    have e7 := same_upd (o := .tup [.ref pf, .ref pa]) npp
    have t67 := (d6.tk d05.tape).trans (te_same e7)
    exact q pp pf pa ys zs ns ats _ ((d05.trans d6).same e7) (tupS upd_same) (t67.sq hpf) (Rows.te (stays_F K) t67 hys5) (Nat.le_trans hlen hmany) hne hnm (same_tup e7 hpa) (Rows.same (stays_A K) e7 hzs) hal hao
/-! ### _law_comparison -/
abbrev s_law_comparison : Stmt := top 36
abbrev nm_law_comparison : List PySem.Str := ["_law_tape_here", "_law_attributes_here", "_law_row", "_law_value", "_law_sign"]
theorem sc_law_comparison : FnScope nm_law_comparison ["_law_tape_here", "_law_attributes_here"] (defScope s_law_comparison) := ⟨rfl, rfl, rfl, by decide +kernel, rfl, by decide +kernel, by decide +kernel⟩
def spCmp (K : PySem.W.Frag) : Sp := fun vs H Q _ => ∃ (tp c pa : Addr) (ys : List V) (ats : List At), vs = [.ref tp, .ref pa] ∧ TapeOk tp c H ∧ SqT K H pa ys ∧ Rows (RepA K H) ys ats ∧ ats.length ≤ 8 ∧ ats ≠ [] ∧ (∀ t ∈ ats, AtOk t) ∧
  ∀ v cn H', Dr tp c H H' → RepC K H' cn v → cn.In (ats.map (·.nm)) → cn.dp = 0 → cn.cnt = 1 → Q v H'
theorem ok_cmp (D : Dfn K mg "_law_comparison" s_law_comparison) (M : Mo K mg) (C_law_draw : Callee P w K mg base 1 "_law_draw" ["_law_tape_here", "_law_many"] spDraw) : Callee P w K mg base 2 "_law_comparison" ["_law_tape_here", "_law_attributes_here"] (spCmp K) := by
  refine D.ok (fun _ _ _ _ _ _ us hl => match us, hl with | [_, _], _ => rfl) sc_law_comparison (fun vs H Q E h => ?_) (fun f cdv A outer s H vs Q E hr h => ?_)
  · obtain ⟨tp, c, pa, ys, ats, rfl, _⟩ := h
    rfl
  obtain ⟨tp, c, pa, ys, ats, rfl, ht, hpa, hys, hl8, hne, hok, q⟩ := h
  refine ⟨_, (pss_cons (ps_set (i := 2) sc_law_comparison.nd rfl (by first | exact Or.inl rfl | exact Or.inr rfl) (pe_ix ix_tup (pv 1) (pe_callC C_law_draw (hr.mono (by omega)) (by rfl) (pa_cons (pv 0) (pa_cons (pe_callB call_len_seq (by rfl) M.len PySem.boot_len (pa_cons (pv 1) pa_nil)) pa_nil))) (fun _ _ => rfl)))
    (pss_cons (ps_set (i := 3) sc_law_comparison.nd rfl (by first | exact Or.inl rfl | exact Or.inr rfl) (pe_op op_add (pe_op op_sub (pe_ix ix_tup (pv 2) pe_int (fun _ _ => rfl)) pe_int) (pe_callC C_law_draw (hr.mono (by omega)) (by rfl) (pa_cons (pv 0) (pa_cons (pe_op op_add (pe_callB (call_min2 rfl) (by rfl) M.min (by decide +kernel) (pa_cons (pe_op op_sub (pe_ix ix_tup (pv 2) pe_int (fun _ _ => rfl)) (pe_ix ix_tup (pv 2) pe_int (fun _ _ => rfl))) (pa_cons pe_int pa_nil))) pe_int) pa_nil)))))
    (pss_cons (ps_if (pt_cmpR op_eq (pe_callC C_law_draw (hr.mono (by omega)) (by rfl) (pa_cons (pv 0) (pa_cons pe_int pa_nil))) pe_int (nomark _)) (pss_one (ps_set (i := 3) sc_law_comparison.nd rfl (by first | exact Or.inl rfl | exact Or.inr rfl) (pe_ix ix_list (pe_lst (pa_cons pe_int (pa_cons pe_int (pa_cons (pe_ix ix_tup (pv 2) pe_int (fun _ _ => rfl)) (pa_cons (pe_op op_add (pe_ix ix_tup (pv 2) pe_int (fun _ _ => rfl)) pe_int) pa_nil))))) (pe_callC C_law_draw (hr.mono (by omega)) (by rfl) (pa_cons (pv 0) (pa_cons pe_int pa_nil))) (fun _ _ => rfl)))) pss_nil)
    (pss_cons (ps_set (i := 4) sc_law_comparison.nd rfl (by first | exact Or.inl rfl | exact Or.inr rfl) (pe_ix ix_list (pe_lst (pa_cons pe_str (pa_cons pe_str (pa_cons pe_str (pa_cons pe_str (pa_cons pe_str (pa_cons pe_str pa_nil))))))) (pe_callC C_law_draw (hr.mono (by omega)) (by rfl) (pa_cons (pv 0) (pa_cons pe_int pa_nil))) (fun _ _ => rfl)))
    (pss_one (ps_ret (pe_tup (pa_cons pe_str (pa_cons (pe_ix ix_tup (pv 2) pe_int (fun _ _ => rfl)) (pa_cons (pv 4) (pa_cons (pe_callB (call_max2 rfl) (by rfl) M.max (by decide +kernel) (pa_cons pe_int (pa_cons (pe_callB (call_min2 rfl) (by rfl) M.min (by decide +kernel) (pa_cons (pv 3) (pa_cons pe_int pa_nil))) pa_nil))) pa_nil))))))))))), ?_⟩
  have hlen := hys.len
  have hpos : 0 < ats.length := List.length_pos_iff.mpr hne
  refine ⟨_, rfl, _, rfl, _, rfl, pa, ys, rfl, .inr hpa, tp, c, _, rfl, ht, by omega, by omega, fun r H1 h0 h1 d1 => ?_⟩
  obtain ⟨v, hv, hmem⟩ := pickAt (xs := ys) h0 h1
  have hpa1 := d1.seq ht hpa
  have hys1 := Rows.te (stays_A K) (d1.tk ht) hys
  obtain ⟨row, hrow, hmr⟩ : ∃ t ∈ ats, RepA K H1 t v := by
    obtain ⟨i, hi⟩ := List.mem_iff_getElem?.mp hmem
    obtain ⟨b, hb, hF⟩ := hys1.get hi
    exact ⟨b, List.mem_of_getElem? hb, hF⟩
  obtain ⟨a, z, rfl, ha⟩ := hmr
  obtain ⟨hnm, hlo, hlh, hhi⟩ := hok row hrow
  refine ⟨pa, ys, r, _, rfl, rfl, hpa1, hv, ?_⟩
  clear hv hmem
  have hmin : 1 ≤ (if (14 : Int) < row.hi - row.lo then 14 else row.hi - row.lo) + 4 ∧ (if (14 : Int) < row.hi - row.lo then 14 else row.hi - row.lo) + 4 ≤ 3000000 := by split <;> omega
  refine ⟨_, rfl, a, _, _, _, rfl, rfl, ha, at1, _, _, rfl, rfl, _, rfl, _, rfl, a, _, _, _, rfl, rfl, ha, at2, _, rfl, a, _, _, _, rfl, rfl, ha, at1, _, _, rfl, rfl, _, _, rfl, _, _, rfl, rfl, tp, c, _, rfl, d1.tape, hmin.1, hmin.2, fun r2 H2 h0' h1' d2 => ⟨_, _, rfl, rfl, ?_⟩⟩
  have d02 := d1.trans d2
  have ha2 := d2.seq d1.tape ha
  -- the end, from any value
  have fin : ∀ (value : Int) (H3 : Hp), Dr tp c H2 H3 → ∀ D : Ends, D.rt = Q →
      (tSeq (tAsg (tOp (rIxL K) (tLst (tCons (tC (.str "<")) (tCons (tC (.str "<=")) (tCons (tC (.str "=")) (tCons (tC (.str "!=")) (tCons (tC (.str ">=")) (tCons (tC (.str ">")) tNil))))))) (tCall spDraw [] E0 (tCons (tVar 0) (tCons (tC (.int 6)) tNil)))) (gName 4))
        (tRet (tTup (tCons (tC (.str "compare")) (tCons (tOp (rIxT K) (tVar 2) (tC (.int 0))) (tCons (tVar 4) (tCons (tCB (fun xs H Q => ∃ i j, xs = [.int i, .int j] ∧ Q (.int (if j > i then j else i)) H) (tCons (tC (.int 0)) (tCons (tCB (fun xs H Q => ∃ i j, xs = [.int i, .int j] ∧ Q (.int (if j < i then j else i)) H) (tCons (tVar 3) (tCons (tC (.int 1000000)) tNil))) tNil))) tNil))))))) D
        [some (.ref tp), some (.ref pa), some (.ref a), some (.int value), none] H3 := by
    intro value H3 d3 D eD
    refine ⟨len_le (by simp only [List.length_cons, List.length_nil]; omega), fun p5 np5 => ⟨_, rfl, tp, c, 6, rfl, d3.tape.same (same_upd np5), by decide, by decide, fun r H6 h0 h1 d6 => ?_⟩⟩
    have d56 := (Dr.new (o := .lst [.str "<", .str "<=", .str "=", .str "!=", .str ">=", .str ">"]) d3.tape np5).trans d6
    have hp6 := d6.keep p5 _ (d3.tape.ne_of np5) upd_same
    obtain ⟨v, hv, hmem⟩ := pickAt (xs := [V.str "<", .str "<=", .str "=", .str "!=", .str ">=", .str ">"]) h0 h1
    obtain ⟨o, rfl⟩ : ∃ o : Cp, v = V.str o.nm := by
      simp only [List.mem_cons, List.not_mem_nil, or_false] at hmem
      rcases hmem with h | h | h | h | h | h
      · exact ⟨.lt, h⟩
      · exact ⟨.le, h⟩
      · exact ⟨.eq, h⟩
      · exact ⟨.ne, h⟩
      · exact ⟨.ge, h⟩
      · exact ⟨.gt, h⟩
    have d06 := d3.trans d56
    refine ⟨p5, _, r, _, rfl, rfl, lstS hp6, hv, _, rfl, a, _, _, _, rfl, rfl, d06.seq d02.tape ha2, at0, _, rfl, _, rfl, _, _, rfl, _, _, rfl, one_four rfl, fun pr npr => ?_⟩
    show D.rt _ _
    rw [eD]
    exact q (.ref pr) (.cmp row.nm o _) _ ((d02.trans d06).same (same_upd npr)) ⟨pr, rfl, tupS upd_same⟩ (List.mem_map_of_mem hrow) rfl rfl
  refine ⟨_, rfl, tp, c, 9, rfl, d02.tape, by decide, by decide, fun r3 H3 h0 h1 d3 => ⟨rfl, _, rfl, ?_⟩⟩
  have ha3 := d3.seq d02.tape ha2
  by_cases hr0 : r3 = 0
  · refine ifT (by rw [hr0]) ?_
    refine ⟨_, rfl, a, _, _, _, rfl, rfl, ha3, at2, _, rfl, a, _, _, _, rfl, rfl, ha3, at2, _, _, rfl, rfl, one_four rfl, fun p5 np5 => ⟨_, rfl, tp, c, 4, rfl, d3.tape.same (same_upd np5), by decide, by decide, fun r H6 h0 h1 d6 => ?_⟩⟩
    have d56 := (Dr.new (o := .lst [.int 0, .int 1000000, .int row.hi, .int (row.hi + 1)]) d3.tape np5).trans d6
    have hp6 := d6.keep p5 _ (d3.tape.ne_of np5) upd_same
    obtain ⟨v, hv, hmem⟩ := pickAt (xs := [V.int 0, .int 1000000, .int row.hi, .int (row.hi + 1)]) h0 h1
    obtain ⟨value, rfl⟩ : ∃ value : Int, v = V.int value :=
      mem4 (P := fun v => ∃ value : Int, v = V.int value) hmem ⟨_, rfl⟩ ⟨_, rfl⟩ ⟨_, rfl⟩ ⟨_, rfl⟩
    exact ⟨p5, _, r, _, rfl, rfl, lstS hp6, hv, fin value H6 (d3.trans d56) _ rfl⟩
  · exact ifF (by intro z; cases z; exact hr0 rfl) (fin _ H3 d3 _ rfl)
end
end Tf

namespace Tf
open PySem PySem.Spec PyProof.Rows L2
/-- all but the tape and the room stays -/
structure Dr2 (tp c rm : Addr) (H H' : Hp) : Prop where
  keep : ∀ b x, b ≠ tp → b ≠ rm → H b = some x → H' b = some x
  tape : TapeOk tp c H'
section
variable {tp c rm : Addr} {H H1 H2 H' : Hp}
theorem Dr.two (a : Dr tp c H H') : Dr2 tp c rm H H' := ⟨fun b x hb _ h => a.keep b x hb h, a.tape⟩
theorem Dr2.trans (a : Dr2 tp c rm H H1) (b : Dr2 tp c rm H1 H2) : Dr2 tp c rm H H2 := ⟨fun x y hx hr h => b.keep x y hx hr (a.keep x y hx hr h), b.tape⟩
theorem Dr2.same (a : Dr2 tp c rm H H1) (b : Same H1 H2) : Dr2 tp c rm H H2 := a.trans (Dr.of a.tape b).two
theorem Dr2.dr (a : Dr2 tp c rm H H1) (b : Dr tp c H1 H2) : Dr2 tp c rm H H2 := a.trans b.two
theorem Dr2.tk {xs : List V} (a : Dr2 tp c rm H H') (h : TapeOk tp c H) (hr : H rm = some (.lst xs)) : Tk H H' := by
  obtain ⟨ys, hy⟩ := h.lst
  constructor
  · intro b zs e
    refine a.keep b _ (fun z => ?_) (fun z => ?_) e
    · rw [z, hy] at e
      cases e
    · rw [z, hr] at e
      cases e
  · intro b o u e
    refine a.keep b _ (fun z => ?_) (fun z => ?_) e
    · rw [z, hy] at e
      cases e
    · rw [z, hr] at e
      cases e
/-- the room is written -/
theorem Dr2.room {o : HO} (h : TapeOk tp c H) (hr : rm ≠ tp) (hc : rm ≠ c) : Dr2 tp c rm H (upd H rm o) := by
  refine ⟨fun b x _ hb e => by rw [upd_ne hb]; exact e, ?_⟩
  obtain ⟨cs, x, y, z, t⟩ := h
  exact ⟨cs, x, y, z, by rw [upd_ne fun w => hr w.symm]; exact t.tp, by rw [upd_ne fun w => hc w.symm]; exact t.cells, t.p0, t.n0⟩
end
section
variable {P : Program} {w : World} {K : PySem.W.Frag} {mg : PySem.Str → Option Value} {base : Heap}
/-! ### _law_condition -/
abbrev s_law_condition : Stmt := top 37
abbrev nm_law_condition : List PySem.Str := ["_law_tape_here", "_law_attributes_here", "_law_room", "_law_depth", "_law_choice", "_law_first"]
theorem sc_law_condition : FnScope nm_law_condition ["_law_tape_here", "_law_attributes_here", "_law_room", "_law_depth"] (defScope s_law_condition) := ⟨rfl, rfl, rfl, by decide +kernel, rfl, by decide +kernel, by decide +kernel⟩
/-- the attributes as they lie -/
structure AtsAt (K : PySem.W.Frag) (H : Hp) (pa : Addr) (ats : List At) : Prop where
  ex : ∃ ys, SqT K H pa ys ∧ Rows (RepA K H) ys ats
  len : ats.length ≤ 8
  ok : ∀ t ∈ ats, AtOk t
theorem AtsAt.te {H H' : Hp} {pa : Addr} {ats : List At} (a : AtsAt K H pa ats) (t : Tk H H') : AtsAt K H' pa ats := ⟨let ⟨ys, h1, h2⟩ := a.ex; ⟨ys, t.sq h1, Rows.te (stays_A K) t h2⟩, a.len, a.ok⟩
def spCond (K : PySem.W.Frag) (d : Nat) : Sp := fun vs H Q _ => ∃ (tp c pa rm : Addr) (ats : List At) (n m depth : Nat), vs = [.ref tp, .ref pa, .ref rm, .int depth] ∧ TapeOk tp c H ∧ rm ≠ tp ∧ rm ≠ c ∧ H rm = some (.lst [.int n, .int m]) ∧ AtsAt K H pa ats ∧ ats ≠ [] ∧ depth < d ∧
  ∀ v cn H' (n' : Nat), Dr2 tp c rm H H' → H' rm = some (.lst [.int n', .int m]) → n' ≤ n → RepC K H' cn v → cn.In (ats.map (·.nm)) → cn.dp ≤ depth → cn.cnt + n' ≤ n + 1 → Q v H'
theorem cond_none (D : Dfn K mg "_law_condition" s_law_condition) : Callee P w K mg base 2 "_law_condition" ["_law_tape_here", "_law_attributes_here", "_law_room", "_law_depth"] (spCond K 0) :=
  D.none (fun _ _ _ _ _ _ us hl => match us, hl with | [_, _, _, _], _ => rfl) fun vs H Q E h => by
    obtain ⟨tp, c, pa, rm, ats, n, m, depth, _, _, _, _, _, _, _, hd, _⟩ := h
    omega
theorem cond_step {d : Nat} (D : Dfn K mg "_law_condition" s_law_condition) (C_law_condition : Callee P w K mg base (d + 2) "_law_condition" ["_law_tape_here", "_law_attributes_here", "_law_room", "_law_depth"] (spCond K d)) (C_law_draw : Callee P w K mg base 1 "_law_draw" ["_law_tape_here", "_law_many"] spDraw) (C_law_comparison : Callee P w K mg base 2 "_law_comparison" ["_law_tape_here", "_law_attributes_here"] (spCmp K)) :
    Callee P w K mg base (d + 3) "_law_condition" ["_law_tape_here", "_law_attributes_here", "_law_room", "_law_depth"] (spCond K (d + 1)) := by
  refine D.ok (fun _ _ _ _ _ _ us hl => match us, hl with | [_, _, _, _], _ => rfl) sc_law_condition (fun vs H Q E h => ?_) (fun f cdv A outer s H vs Q E hr h => ?_)
  · obtain ⟨tp, c, pa, rm, ats, n, m, depth, rfl, _⟩ := h
    rfl
  obtain ⟨tp, c, pa, rm, ats, n, m, depth, rfl, ht, hrt, hrc, hrm, hats, hne, hd, q⟩ := h
  refine ⟨_, (pss_cons (ps_set (i := 4) sc_law_condition.nd rfl (by first | exact Or.inl rfl | exact Or.inr rfl) (pe_callC C_law_draw (hr.mono (by omega)) (by rfl) (pa_cons (pv 0) (pa_cons pe_int pa_nil))))
    (pss_cons (ps_if (PW.pt (pw_and (pt_cmpR op_gt (pv 3) pe_int (nomark _)) (pw_and1 (pt_cmpR op_eq (pv 4) pe_int (nomark _))))) (pss_one (ps_ret (pe_tup (pa_cons pe_str (pa_cons (pe_callC C_law_condition (hr.mono (by omega)) (by rfl) (pa_cons (pv 0) (pa_cons (pv 1) (pa_cons (pv 2) (pa_cons (pe_op op_sub (pv 3) pe_int) pa_nil))))) pa_nil))))) pss_nil)
    (pss_cons (ps_if (PW.pt (pw_and (pt_cmpR op_gt (pv 3) pe_int (nomark _)) (pw_and (pt_cmpR op_lt (pv 4) pe_int (nomark _)) (pw_and1 (pt_cmpR op_gt (pe_ix ix_list (pv 2) pe_int (fun _ _ => rfl)) pe_int (nomark _)))))) (pss_cons (ps_asg (pe_op op_sub (pe_ix ix_list (pv 2) pe_int (fun _ _ => rfl)) pe_int) (pg_sub (pv 2) pe_int set_list))
    (pss_cons (ps_set (i := 5) sc_law_condition.nd rfl (by first | exact Or.inl rfl | exact Or.inr rfl) (pe_callC C_law_condition (hr.mono (by omega)) (by rfl) (pa_cons (pv 0) (pa_cons (pv 1) (pa_cons (pv 2) (pa_cons (pe_op op_sub (pv 3) pe_int) pa_nil))))))
    (pss_one (ps_ret (pe_tup (pa_cons (pe_ix ix_list (pe_lst (pa_cons pe_str (pa_cons pe_str (pa_cons pe_str pa_nil)))) (pe_op op_sub (pv 4) pe_int) (fun _ _ => rfl)) (pa_cons (pv 5) (pa_cons (pe_callC C_law_condition (hr.mono (by omega)) (by rfl) (pa_cons (pv 0) (pa_cons (pv 1) (pa_cons (pv 2) (pa_cons (pe_op op_sub (pv 3) pe_int) pa_nil))))) pa_nil)))))))) pss_nil)
    (pss_one (ps_ret (pe_callC C_law_comparison (hr.mono (by omega)) (by rfl) (pa_cons (pv 0) (pa_cons (pv 1) pa_nil)))))))), ?_⟩
  refine ⟨_, rfl, tp, c, 8, rfl, ht, by decide, by decide, fun ch H1 h0 h1 d1 => ?_⟩
  have hrm1 := d1.keep rm _ hrt hrm
  have hats1 := hats.te (d1.tk ht)
  -- the comparison
  have cmp : ∀ D : Ends, D.rt = Q → tRet (tCall (spCmp K) [] E0 (tCons (tVar 0) (tCons (tVar 1) tNil))) D [some (.ref tp), some (.ref pa), some (.ref rm), some (.int depth), some (.int ch), none] H1 := by
    intro D eD
    obtain ⟨ys, hpa, hys⟩ := hats1.ex
    refine ⟨_, rfl, _, rfl, tp, c, pa, ys, ats, rfl, d1.tape, hpa, hys, hats.len, hne, hats.ok, fun v cn H2 d2 hcn hin hdp hcnt => ?_⟩
    show D.rt _ _
    rw [eD]
    exact q v cn H2 n (d1.trans d2).two (d2.keep rm _ hrt hrm1) (Nat.le_refl _) hcn hin (by omega) (by omega)
  by_cases hdep : depth = 0
  · subst hdep
    refine ⟨_, rfl, _, _, rfl, rfl, _, rfl, ifF (by omega) (iteF ?_)⟩
    refine ⟨_, rfl, _, _, rfl, rfl, _, rfl, ifF (by omega) (iteF ?_)⟩
    exact cmp _ rfl
  refine ⟨_, rfl, _, _, rfl, rfl, _, rfl, ifT (by omega) ?_⟩
  have hdm : (depth : Int) - 1 = ((depth - 1 : Nat) : Int) := by omega
  by_cases hch : ch = 0
  · refine ⟨_, rfl, rfl, _, rfl, ifT (by rw [hch]) ?_⟩
    refine ⟨_, rfl, _, rfl, _, rfl, _, rfl, _, _, rfl, rfl, tp, c, pa, rm, ats, n, m, depth - 1, (by show [V.ref tp, V.ref pa, V.ref rm, V.int ((depth : Int) - 1)] = _; rw [hdm]), d1.tape, hrt, hrc, hrm1, hats1, hne, by omega, fun v cn H2 n' d2 hr2 hn hcn hin hdp hcnt => ⟨tup2, fun p np => ?_⟩⟩
    have e3 := same_upd (o := .tup [.str "not", v]) np
    exact q (.ref p) (.neg cn) _ n' (d1.two.trans (d2.same e3)) (e3 _ _ hr2) hn ⟨p, v, rfl, tupS upd_same, hcn.same e3⟩ hin (by simp only [Cnd.dp]; omega) hcnt
  refine ⟨_, rfl, rfl, _, rfl, ifF (by intro z; cases z; exact hch rfl) ?_⟩
  refine ⟨_, rfl, _, _, rfl, rfl, _, rfl, ifT (by omega) ?_⟩
  by_cases hc4 : ch < 4
  · refine ⟨_, rfl, _, _, rfl, rfl, _, rfl, ifT hc4 ?_⟩
    refine ⟨_, rfl, rm, _, _, _, rfl, rfl, lstS hrm1, at0, _, _, rfl, rfl, _, rfl, ?_⟩
    by_cases hn0 : n = 0
    · exact ifF (by omega) (cmp _ rfl)
    refine ifT (by omega) ?_
    have hnm : (n : Int) - 1 = ((n - 1 : Nat) : Int) := by omega
    refine ⟨_, rfl, rm, _, _, _, rfl, rfl, lstS hrm1, at0, _, _, rfl, rfl, _, rfl, rm, _, 0, 0, rfl, rfl, hrm1, rfl, ?_⟩
    have d2 : Dr2 tp c rm H1 (upd H1 rm (.lst [.int ((n - 1 : Nat) : Int), .int m])) := Dr2.room d1.tape hrt hrc
    have hrm2 : upd H1 rm (.lst [.int ((n - 1 : Nat) : Int), .int m]) rm = some (.lst [.int ((n - 1 : Nat) : Int), .int m]) := upd_same
    have hset : [V.int (n : Int), V.int (m : Int)].set 0 (V.int ((n : Int) - 1)) = [.int ((n - 1 : Nat) : Int), .int m] := by
      rw [hnm]
      rfl
    have hats2 := hats1.te (d2.tk d1.tape hrm1)
    have go : ∀ H2, H2 = upd H1 rm (.lst [.int ((n - 1 : Nat) : Int), .int m]) → ∀ D : Ends, D.rt = Q →
        (tSeq (tAsg (tCall (spCond K d) [] E0 (tCons (tVar 0) (tCons (tVar 1) (tCons (tVar 2) (tCons (tOp (rI0 fun i j => .int (i - j)) (tVar 3) (tC (.int 1))) tNil))))) (gName 5))
          (tRet (tTup (tCons (tOp (rIxL K) (tLst (tCons (tC (.str "and")) (tCons (tC (.str "or")) (tCons (tC (.str "and")) tNil)))) (tOp (rI0 fun i j => .int (i - j)) (tVar 4) (tC (.int 1)))) (tCons (tVar 5) (tCons (tCall (spCond K d) [] E0 (tCons (tVar 0) (tCons (tVar 1) (tCons (tVar 2) (tCons (tOp (rI0 fun i j => .int (i - j)) (tVar 3) (tC (.int 1))) tNil))))) tNil)))))) D
          [some (.ref tp), some (.ref pa), some (.ref rm), some (.int depth), some (.int ch), none] H2 := by
      intro H2 eH D eD
      rw [← eH] at d2 hrm2 hats2
      refine ⟨_, rfl, _, rfl, _, rfl, _, rfl, _, _, rfl, rfl, tp, c, pa, rm, ats, n - 1, m, depth - 1, (by show [V.ref tp, V.ref pa, V.ref rm, V.int ((depth : Int) - 1)] = _; rw [hdm]), d2.tape, hrt, hrc, hrm2, hats2, hne, by omega, fun v cn H3 n3 d3 hr3 hn3 hcn hin hdp hcnt => ?_⟩
      have hats3 := hats2.te (d3.tk d2.tape hrm2)
      refine ⟨tup3, fun pl npl => ?_⟩
      have e4 := same_upd (o := .lst [.str "and", .str "or", .str "and"]) npl
      have t4 := (Dr.of d3.tape e4).tape
      obtain ⟨vk, hvk, hmem⟩ := pickAt (xs := [V.str "and", .str "or", .str "and"]) (r := ch - 1) (by omega) (by simp only [List.length_cons, List.length_nil]; omega)
      refine ⟨_, rfl, _, _, rfl, rfl, pl, _, ch - 1, vk, rfl, rfl, lstS upd_same, hvk, _, rfl, _, rfl, _, rfl, _, rfl, _, rfl, _, _, rfl, rfl, tp, c, pa, rm, ats, n3, m, depth - 1, (by show [V.ref tp, V.ref pa, V.ref rm, V.int ((depth : Int) - 1)] = _; rw [hdm]), t4, hrt, hrc, e4 _ _ hr3, hats3.te (te_same e4), hne, by omega, fun v2 cn2 H5 n5 d5 hr5 hn5 hcn2 hin2 hdp2 hcnt2 => ⟨tup3, fun pt npt => ?_⟩⟩
      have e6 := same_upd (o := .tup [vk, v, v2]) npt
      have dall : Dr2 tp c rm H (upd H5 pt (.tup [vk, v, v2])) := (d1.two.trans (d2.trans (d3.trans ((Dr.of d3.tape e4).two.trans d5)))).same e6
      have hcn6 : RepC K (upd H5 pt (.tup [vk, v, v2])) cn v := RepC.te ((te_same e4).trans ((d5.tk t4 (e4 _ _ hr3)).trans (te_same e6))) hcn
      have hcn26 := hcn2.same e6
      show D.rt _ _
      rw [eD]
      simp only [List.mem_cons, List.not_mem_nil, or_false] at hmem
      have hor : vk = .str "and" ∨ vk = .str "or" := by
        rcases hmem with h | h | h
        · exact .inl h
        · exact .inr h
        · exact .inl h
      rcases hor with h | h
      · exact q (.ref pt) (.con cn cn2) _ n5 dall (e6 _ _ hr5) (by omega) ⟨pt, v, v2, rfl, by rw [h]; exact tupS upd_same, hcn6, hcn26⟩ ⟨hin, hin2⟩ (by simp only [Cnd.dp]; omega) (by simp only [Cnd.cnt]; omega)
      · exact q (.ref pt) (.dis cn cn2) _ n5 dall (e6 _ _ hr5) (by omega) ⟨pt, v, v2, rfl, by rw [h]; exact tupS upd_same, hcn6, hcn26⟩ ⟨hin, hin2⟩ (by simp only [Cnd.dp]; omega) (by simp only [Cnd.cnt]; omega)
    exact go _ (by rw [← hset]) _ rfl
  · exact ⟨_, rfl, _, _, rfl, rfl, _, rfl, ifF hc4 (iteF (cmp _ rfl))⟩
theorem ok_cond (D : Dfn K mg "_law_condition" s_law_condition) (C_law_draw : Callee P w K mg base 1 "_law_draw" ["_law_tape_here", "_law_many"] spDraw) (C_law_comparison : Callee P w K mg base 2 "_law_comparison" ["_law_tape_here", "_law_attributes_here"] (spCmp K)) : ∀ d : Nat, Callee P w K mg base (d + 2) "_law_condition" ["_law_tape_here", "_law_attributes_here", "_law_room", "_law_depth"] (spCond K d)
  | 0 => cond_none D
  | d + 1 => cond_step D (ok_cond D C_law_draw C_law_comparison d) C_law_draw C_law_comparison
end
end Tf

namespace Tf
open PySem PySem.Spec PyProof.Rows L2
def Pt.cnt : Pt → Nat
  | .act _ _ => 0
  | .sil _ => 0
  | .bin _ _ l r => l.cnt + r.cnt
  | .wh _ c t => c.cnt + t.cnt
def Pt.COk (ns : List PySem.Str) : Pt → Prop
  | .act _ m => Nm 100 m
  | .sil _ => True
  | .bin _ _ l r => l.COk ns ∧ r.COk ns
  | .wh _ c t => c.In ns ∧ c.dp ≤ 3 ∧ t.COk ns
def numsFrom (m k : Nat) : List Int := (List.range' m k).map fun (i : Nat) => (i : Int)
theorem nums_one (m : Nat) : numsFrom m 1 = [(m : Int)] := rfl
theorem nums_cons (m k : Nat) : numsFrom m (k + 1) = (m : Int) :: numsFrom (m + 1) k := by
  unfold numsFrom
  rw [List.range'_succ, List.map_cons]
theorem nums_append (m j k : Nat) : numsFrom m (j + k) = numsFrom m j ++ numsFrom (m + j) k := by
  unfold numsFrom
  rw [← List.range'_append_1, List.map_append]
/-- grown, from the number m -/
structure Grown (ns : List PySem.Str) (m nodes : Nat) (t : Pt) : Prop where
  nums : t.parts.map Pt.num = numsFrom m t.parts.length
  len : t.parts.length ≤ nodes
  ok : t.COk ns
theorem Pt.ne (t : Pt) : 1 ≤ t.parts.length := by cases t <;> simp [Pt.parts]
theorem grown_wh {ns : List PySem.Str} {m nodes : Nat} {t : Pt} {c : Cnd} (h : Grown ns (m + 1) nodes t) (hin : c.In ns) (hdp : c.dp ≤ 3) : Grown ns m (nodes + 1) (.wh m c t) := by
  refine ⟨?_, ?_, hin, hdp, h.ok⟩
  · simp only [Pt.parts, List.map_cons, List.length_cons, nums_cons, Pt.num, h.nums]
  · simp only [Pt.parts, List.length_cons]
    have := h.len
    omega
theorem grown_bin {ns : List PySem.Str} {m i j : Nat} {a b : Pt} (k : Kd) (h1 : Grown ns (m + 1) i a) (h2 : Grown ns (m + 1 + a.parts.length) j b) : Grown ns m (i + j + 1) (.bin k m a b) := by
  refine ⟨?_, ?_, h1.ok, h2.ok⟩
  · simp only [Pt.parts, List.map_cons, List.map_append, List.length_cons, List.length_append, nums_cons, nums_append, Pt.num, h1.nums, h2.nums]
  · simp only [Pt.parts, List.length_cons, List.length_append]
    have := h1.len
    have := h2.len
    omega
theorem Grown.mono {ns : List PySem.Str} {m i j : Nat} {t : Pt} (h : Grown ns m i t) (hij : i ≤ j) : Grown ns m j t := ⟨h.nums, Nat.le_trans h.len hij, h.ok⟩
section
variable {P : Program} {w : World} {K : PySem.W.Frag} {mg : PySem.Str → Option Value} {base : Heap}
abbrev s_law_grow : Stmt := top 42
abbrev nm_law_grow : List PySem.Str := ["_law_tape_here", "_law_names_here", "_law_attributes_here", "_law_room", "_law_nodes", "_law_number", "_law_choice", "_law_condition_here", "_law_kinds", "_law_left", "_law_first", "_law_second"]
theorem sc_law_grow : FnScope nm_law_grow ["_law_tape_here", "_law_names_here", "_law_attributes_here", "_law_room", "_law_nodes"] (defScope s_law_grow) := ⟨rfl, rfl, rfl, by decide +kernel, rfl, by decide +kernel, by decide +kernel⟩
def spGrow (K : PySem.W.Frag) (d : Nat) : Sp := fun vs H Q _ => ∃ (tp c nl pa rm : Addr) (ns : List PySem.Str) (ats : List At) (n m nodes : Nat), vs = [.ref tp, .ref nl, .ref pa, .ref rm, .int nodes] ∧ TapeOk tp c H ∧ rm ≠ tp ∧ rm ≠ c ∧ nl ≠ tp ∧ nl ≠ rm ∧ H rm = some (.lst [.int n, .int m]) ∧
  H nl = some (.lst (ns.map V.str)) ∧ ns ≠ [] ∧ ns.length ≤ 8 ∧ (∀ n ∈ ns, Nm 100 n) ∧ AtsAt K H pa ats ∧ 1 ≤ nodes ∧ nodes ≤ 100 ∧ nodes < d ∧
  ∀ v t H' (n' : Nat), Dr2 tp c rm H H' → H' rm = some (.lst [.int n', .int ((m + t.parts.length : Nat) : Int)]) → n' ≤ n → RepP K H' t v → Grown (ats.map (·.nm)) m nodes t → t.cnt + n' ≤ n → Q v H'
theorem grow_none (D : Dfn K mg "_law_grow" s_law_grow) : Callee P w K mg base 7 "_law_grow" ["_law_tape_here", "_law_names_here", "_law_attributes_here", "_law_room", "_law_nodes"] (spGrow K 0) :=
  D.none (fun _ _ _ _ _ _ us hl => match us, hl with | [_, _, _, _, _], _ => rfl) fun vs H Q E h => by
    obtain ⟨tp, c, nl, pa, rm, ns, ats, n, m, nodes, _, _, _, _, _, _, _, _, _, _, _, _, _, _, hd, _⟩ := h
    omega
theorem kinds_at {r : Int} {xs : List V} (hx : xs = [V.str "sequence", .str "choice", .str "parallel", .str "loop", .str "sequence", .str "parallel", .str "choice"]) (h0 : 0 ≤ r) (h1 : r < 7) : ∃ k : Kd, atI xs r = some (.str k.nm) := by
  obtain ⟨v, hv, hm⟩ := pickAt (xs := xs) h0 (by rw [hx]; exact h1)
  rw [hx] at hm
  simp only [List.mem_cons, List.not_mem_nil, or_false] at hm
  rcases hm with h | h | h | h | h | h | h
  · exact ⟨.seq, by rw [hv, h]; rfl⟩
  · exact ⟨.cho, by rw [hv, h]; rfl⟩
  · exact ⟨.par, by rw [hv, h]; rfl⟩
  · exact ⟨.loop, by rw [hv, h]; rfl⟩
  · exact ⟨.seq, by rw [hv, h]; rfl⟩
  · exact ⟨.par, by rw [hv, h]; rfl⟩
  · exact ⟨.cho, by rw [hv, h]; rfl⟩
theorem mod7 : (0 : Int) < 7 := by decide
theorem grow_step {d : Nat} (D : Dfn K mg "_law_grow" s_law_grow) (C_law_grow : Callee P w K mg base (d + 7) "_law_grow" ["_law_tape_here", "_law_names_here", "_law_attributes_here", "_law_room", "_law_nodes"] (spGrow K d)) (C_law_draw : Callee P w K mg base 1 "_law_draw" ["_law_tape_here", "_law_many"] spDraw) (C_law_condition : Callee P w K mg base 6 "_law_condition" ["_law_tape_here", "_law_attributes_here", "_law_room", "_law_depth"] (spCond K 4)) (M : Mo K mg) :
    Callee P w K mg base (d + 8) "_law_grow" ["_law_tape_here", "_law_names_here", "_law_attributes_here", "_law_room", "_law_nodes"] (spGrow K (d + 1)) := by
  refine D.ok (fun _ _ _ _ _ _ us hl => match us, hl with | [_, _, _, _, _], _ => rfl) sc_law_grow (fun vs H Q E h => ?_) (fun f cdv A outer s H vs Q E hr h => ?_)
  · obtain ⟨tp, c, nl, pa, rm, ns, ats, n, m, nodes, rfl, _⟩ := h
    rfl
  obtain ⟨tp, c, nl, pa, rm, ns, ats, n, m, nodes, rfl, ht, hrt, hrc, hnt, hnr, hrm, hnl, hne, hn8, hnm, hats, hno, h100, hd, q⟩ := h
  refine ⟨_, (pss_cons (ps_set (i := 5) sc_law_grow.nd rfl (by first | exact Or.inl rfl | exact Or.inr rfl) (pe_ix ix_list (pv 3) pe_int (fun _ _ => rfl)))
    (pss_cons (ps_asg (pe_op op_add (pv 5) pe_int) (pg_sub (pv 3) pe_int set_list))
    (pss_cons (ps_set (i := 6) sc_law_grow.nd rfl (by first | exact Or.inl rfl | exact Or.inr rfl) (pe_callC C_law_draw (hr.mono (by omega)) (by rfl) (pa_cons (pv 0) (pa_cons pe_int pa_nil))))
    (pss_cons (ps_if (PW.pt (pw_and (pt_cmpR op_gt (pv 6) pe_int (nomark _)) (pw_and (pt_cmpR op_gt (pv 4) pe_int (nomark _)) (pw_and (pt_cmpR op_gt (pe_ix ix_list (pv 3) pe_int (fun _ _ => rfl)) pe_int (nomark _)) (pw_and1 (pt_truth (pv 2) (by intro _; rfl))))))) (pss_cons (ps_asg (pe_op op_sub (pe_ix ix_list (pv 3) pe_int (fun _ _ => rfl)) pe_int) (pg_sub (pv 3) pe_int set_list))
    (pss_cons (ps_set (i := 7) sc_law_grow.nd rfl (by first | exact Or.inl rfl | exact Or.inr rfl) (pe_callC C_law_condition (hr.mono (by omega)) (by rfl) (pa_cons (pv 0) (pa_cons (pv 2) (pa_cons (pv 3) (pa_cons pe_int pa_nil))))))
    (pss_one (ps_ret (pe_tup (pa_cons pe_str (pa_cons (pv 5) (pa_cons (pv 7) (pa_cons (pe_callC C_law_grow (hr.mono (by omega)) (by rfl) (pa_cons (pv 0) (pa_cons (pv 1) (pa_cons (pv 2) (pa_cons (pv 3) (pa_cons (pe_op op_sub (pv 4) pe_int) pa_nil)))))) pa_nil))))))))) pss_nil)
    (pss_cons (ps_if (PW.pt (pw_and (pt_cmpR op_gt (pv 4) pe_int (nomark _)) (pw_and1 (PW.pt (pw_or (pt_cmpR op_lt (pv 6) pe_int (nomark _)) (pw_or1 (pt_cmpR op_gt (pv 4) pe_int (nomark _)))))))) (pss_cons (ps_set (i := 8) sc_law_grow.nd rfl (by first | exact Or.inl rfl | exact Or.inr rfl) (pe_lst (pa_cons pe_str (pa_cons pe_str (pa_cons pe_str (pa_cons pe_str (pa_cons pe_str (pa_cons pe_str (pa_cons pe_str pa_nil)))))))))
    (pss_cons (ps_set (i := 9) sc_law_grow.nd rfl (by first | exact Or.inl rfl | exact Or.inr rfl) (pe_op op_add pe_int (pe_callC C_law_draw (hr.mono (by omega)) (by rfl) (pa_cons (pv 0) (pa_cons (pe_op op_sub (pv 4) pe_int) pa_nil)))))
    (pss_cons (ps_set (i := 10) sc_law_grow.nd rfl (by first | exact Or.inl rfl | exact Or.inr rfl) (pe_callC C_law_grow (hr.mono (by omega)) (by rfl) (pa_cons (pv 0) (pa_cons (pv 1) (pa_cons (pv 2) (pa_cons (pv 3) (pa_cons (pv 9) pa_nil)))))))
    (pss_cons (ps_set (i := 11) sc_law_grow.nd rfl (by first | exact Or.inl rfl | exact Or.inr rfl) (pe_callC C_law_grow (hr.mono (by omega)) (by rfl) (pa_cons (pv 0) (pa_cons (pv 1) (pa_cons (pv 2) (pa_cons (pv 3) (pa_cons (pe_op op_sub (pe_op op_sub (pv 4) pe_int) (pv 9)) pa_nil)))))))
    (pss_one (ps_ret (pe_tup (pa_cons (pe_ix ix_list (pv 8) (pe_op op_mod (pe_callTy call_int1 (by rfl) M.int_ (by decide +kernel) (pa_cons (pv 6) pa_nil)) pe_int) (fun _ _ => rfl)) (pa_cons (pv 5) (pa_cons (pv 10) (pa_cons (pv 11) pa_nil))))))))))) pss_nil)
    (pss_cons (ps_if (pt_cmpR op_eq (pv 6) pe_int (nomark _)) (pss_one (ps_ret (pe_tup (pa_cons pe_str (pa_cons (pv 5) pa_nil))))) pss_nil)
    (pss_one (ps_ret (pe_tup (pa_cons pe_str (pa_cons (pv 5) (pa_cons (pe_ix ix_list (pv 1) (pe_callC C_law_draw (hr.mono (by omega)) (by rfl) (pa_cons (pv 0) (pa_cons (pe_callB call_len_seq (by rfl) M.len PySem.boot_len (pa_cons (pv 1) pa_nil)) pa_nil))) (fun _ _ => rfl)) pa_nil)))))))))))), ?_⟩
  refine ⟨_, rfl, rm, _, _, _, rfl, rfl, lstS hrm, at1, ?_⟩
  have hset : [V.int (n : Int), V.int (m : Int)].set 1 (V.int ((m : Int) + 1)) = [.int n, .int ((m + 1 : Nat) : Int)] := rfl
  refine ⟨_, rfl, _, _, rfl, rfl, _, rfl, rm, _, 1, 1, rfl, rfl, hrm, rfl, ?_⟩
  have d1 : Dr2 tp c rm H (upd H rm (.lst [.int n, .int ((m + 1 : Nat) : Int)])) := Dr2.room ht hrt hrc
  have hrm1 : upd H rm (.lst [.int n, .int ((m + 1 : Nat) : Int)]) rm = some (.lst [.int n, .int ((m + 1 : Nat) : Int)]) := upd_same
  have hats1 := hats.te (d1.tk ht hrm)
  have hnl1 := d1.keep nl _ hnt hnr hnl
  refine ⟨_, rfl, tp, c, 12, rfl, d1.tape, by decide, by decide, fun ch H2 h0 h1 d2 => ?_⟩
  have hrm2 := d2.keep rm _ hrt hrm1
  have hnl2 := d2.keep nl _ hnt hnl1
  have hats2 := hats1.te (d2.tk d1.tape)
  have d02 := d1.dr d2
  clear hats1 hnl1 hrm1
  -- a leaf
  have leaf : ∀ D : Ends, D.rt = Q →
      (tSeq (tIfS (tTest (tOp rEq (tVar 6) (tC (.int 7)))) (tRet (tTup (tCons (tC (.str "silent")) (tCons (tVar 5) tNil)))) tNext)
        (tRet (tTup (tCons (tC (.str "activity")) (tCons (tVar 5) (tCons (tOp (rIxL K) (tVar 1) (tCall spDraw [] E0 (tCons (tVar 0) (tCons (tCB (fun xs H Q => ∃ p ys, xs = [.ref p] ∧ (SqL K H p ys ∨ SqT K H p ys) ∧ Q (.int ys.length) H) (tCons (tVar 1) tNil)) tNil)))) tNil)))))) D
        [some (.ref tp), some (.ref nl), some (.ref pa), some (.ref rm), some (.int nodes), some (.int m), some (.int ch), none, none, none, none, none] H2 := by
    intro D eD
    refine ⟨_, rfl, rfl, _, rfl, ?_⟩
    by_cases hc : ch = 7
    · refine ifT (by rw [hc]) ⟨_, rfl, tup2, fun p np => ?_⟩
      show D.rt _ _
      rw [eD]
      have e3 := same_upd (o := .tup [.str "silent", .int m]) np
      exact q (.ref p) (.sil m) _ n (d02.same e3) (e3 _ _ hrm2) (Nat.le_refl _) ⟨p, rfl, tupS upd_same⟩ ⟨rfl, hno, trivial⟩ (by simp only [Pt.cnt]; omega)
    · refine ifF (by intro z; cases z; exact hc rfl) ?_
      have hlp : 0 < ns.length := List.length_pos_iff.mpr hne
      refine ⟨_, rfl, _, rfl, _, rfl, _, rfl, nl, _, rfl, .inl (lstS hnl2), tp, c, _, rfl, d02.tape, ?_, ?_, fun r H3 h0' h1' d3 => ?_⟩
      · rw [List.length_map]
        omega
      · rw [List.length_map]
        omega
      obtain ⟨vn, hvn, hmem⟩ := pickAt (xs := ns.map V.str) h0' h1'
      obtain ⟨nm, hnmm, rfl⟩ := List.mem_map.mp hmem
      refine ⟨nl, _, r, _, rfl, rfl, lstS (d3.keep nl _ hnt hnl2), hvn, tup3, fun p np => ?_⟩
      show D.rt _ _
      rw [eD]
      have e4 := same_upd (o := .tup [.str "activity", .int m, .str nm]) np
      exact q (.ref p) (.act m nm) _ n ((d02.dr d3).same e4) (e4 _ _ (d3.keep rm _ hrt hrm2)) (Nat.le_refl _) ⟨p, rfl, tupS upd_same⟩ ⟨rfl, hno, hnm nm hnmm⟩ (by simp only [Pt.cnt]; omega)
  -- an inner node
  have inner : ∀ D : Ends, D.rt = Q →
      (tSeq (tIfS (tAnd (tTest (tOp (rI0 fun i j => .bl (decide (j < i))) (tVar 4) (tC (.int 2)))) (tOr (tTest (tOp (rI0 fun i j => .bl (decide (i < j))) (tVar 6) (tC (.int 7)))) (tTest (tOp (rI0 fun i j => .bl (decide (j < i))) (tVar 4) (tC (.int 4))))))
        (tSeq (tAsg (tLst (tCons (tC (.str "sequence")) (tCons (tC (.str "choice")) (tCons (tC (.str "parallel")) (tCons (tC (.str "loop")) (tCons (tC (.str "sequence")) (tCons (tC (.str "parallel")) (tCons (tC (.str "choice")) tNil)))))))) (gName 8))
        (tSeq (tAsg (tOp (rI0 fun i j => .int (i + j)) (tC (.int 1)) (tCall spDraw [] E0 (tCons (tVar 0) (tCons (tOp (rI0 fun i j => .int (i - j)) (tVar 4) (tC (.int 2))) tNil)))) (gName 9))
        (tSeq (tAsg (tCall (spGrow K d) [] E0 (tCons (tVar 0) (tCons (tVar 1) (tCons (tVar 2) (tCons (tVar 3) (tCons (tVar 9) tNil)))))) (gName 10))
        (tSeq (tAsg (tCall (spGrow K d) [] E0 (tCons (tVar 0) (tCons (tVar 1) (tCons (tVar 2) (tCons (tVar 3) (tCons (tOp (rI0 fun i j => .int (i - j)) (tOp (rI0 fun i j => .int (i - j)) (tVar 4) (tC (.int 1))) (tVar 9)) tNil)))))) (gName 11))
        (tRet (tTup (tCons (tOp (rIxL K) (tVar 8) (tOp (rI (fun _ j => 0 < j) fun i j => .int (i % j)) (tCB (fun xs H Q => (∃ i, xs = [.int i] ∧ Q (.int i) H) ∨ ∃ k, xs = [.bl k] ∧ Q (.int (if k then 1 else 0)) H) (tCons (tVar 6) tNil)) (tC (.int 7)))) (tCons (tVar 5) (tCons (tVar 10) (tCons (tVar 11) tNil)))))))))) tNext)
      (tSeq (tIfS (tTest (tOp rEq (tVar 6) (tC (.int 7)))) (tRet (tTup (tCons (tC (.str "silent")) (tCons (tVar 5) tNil)))) tNext)
        (tRet (tTup (tCons (tC (.str "activity")) (tCons (tVar 5) (tCons (tOp (rIxL K) (tVar 1) (tCall spDraw [] E0 (tCons (tVar 0) (tCons (tCB (fun xs H Q => ∃ p ys, xs = [.ref p] ∧ (SqL K H p ys ∨ SqT K H p ys) ∧ Q (.int ys.length) H) (tCons (tVar 1) tNil)) tNil)))) tNil))))))) D
        [some (.ref tp), some (.ref nl), some (.ref pa), some (.ref rm), some (.int nodes), some (.int m), some (.int ch), none, none, none, none, none] H2 := by
    intro D eD
    by_cases hn2 : nodes > 2
    · have body : (tSeq (tAsg (tLst (tCons (tC (.str "sequence")) (tCons (tC (.str "choice")) (tCons (tC (.str "parallel")) (tCons (tC (.str "loop")) (tCons (tC (.str "sequence")) (tCons (tC (.str "parallel")) (tCons (tC (.str "choice")) tNil)))))))) (gName 8))
        (tSeq (tAsg (tOp (rI0 fun i j => .int (i + j)) (tC (.int 1)) (tCall spDraw [] E0 (tCons (tVar 0) (tCons (tOp (rI0 fun i j => .int (i - j)) (tVar 4) (tC (.int 2))) tNil)))) (gName 9))
        (tSeq (tAsg (tCall (spGrow K d) [] E0 (tCons (tVar 0) (tCons (tVar 1) (tCons (tVar 2) (tCons (tVar 3) (tCons (tVar 9) tNil)))))) (gName 10))
        (tSeq (tAsg (tCall (spGrow K d) [] E0 (tCons (tVar 0) (tCons (tVar 1) (tCons (tVar 2) (tCons (tVar 3) (tCons (tOp (rI0 fun i j => .int (i - j)) (tOp (rI0 fun i j => .int (i - j)) (tVar 4) (tC (.int 1))) (tVar 9)) tNil)))))) (gName 11))
        (tRet (tTup (tCons (tOp (rIxL K) (tVar 8) (tOp (rI (fun _ j => 0 < j) fun i j => .int (i % j)) (tCB (fun xs H Q => (∃ i, xs = [.int i] ∧ Q (.int i) H) ∨ ∃ k, xs = [.bl k] ∧ Q (.int (if k then 1 else 0)) H) (tCons (tVar 6) tNil)) (tC (.int 7)))) (tCons (tVar 5) (tCons (tVar 10) (tCons (tVar 11) tNil))))))))))
          { D with nx := (tSeq (tIfS (tTest (tOp rEq (tVar 6) (tC (.int 7)))) (tRet (tTup (tCons (tC (.str "silent")) (tCons (tVar 5) tNil)))) tNext)
        (tRet (tTup (tCons (tC (.str "activity")) (tCons (tVar 5) (tCons (tOp (rIxL K) (tVar 1) (tCall spDraw [] E0 (tCons (tVar 0) (tCons (tCB (fun xs H Q => ∃ p ys, xs = [.ref p] ∧ (SqL K H p ys ∨ SqT K H p ys) ∧ Q (.int ys.length) H) (tCons (tVar 1) tNil)) tNil)))) tNil)))))) D }
          [some (.ref tp), some (.ref nl), some (.ref pa), some (.ref rm), some (.int nodes), some (.int m), some (.int ch), none, none, none, none, none] H2 := by
        refine ⟨len_le (by simp only [List.length_cons, List.length_nil]; omega), fun kl nkl => ?_⟩
        have e3 := same_upd (o := .lst [V.str "sequence", .str "choice", .str "parallel", .str "loop", .str "sequence", .str "parallel", .str "choice"]) nkl
        have hkl : upd H2 kl (.lst [V.str "sequence", .str "choice", .str "parallel", .str "loop", .str "sequence", .str "parallel", .str "choice"]) kl = some (.lst [V.str "sequence", .str "choice", .str "parallel", .str "loop", .str "sequence", .str "parallel", .str "choice"]) := upd_same
        have kt := d02.tape.ne_of nkl
        have kr : kl ≠ rm := fun z => by
          rw [z, hrm2] at nkl
          cases nkl
        generalize upd H2 kl (.lst [V.str "sequence", .str "choice", .str "parallel", .str "loop", .str "sequence", .str "parallel", .str "choice"]) = H3 at e3 hkl
        have d03 := d02.same e3
        have hrm3 := e3 _ _ hrm2
        have hnl3 := e3 _ _ hnl2
        have hats3 := hats2.te (te_same e3)
        refine ⟨_, rfl, _, rfl, _, _, rfl, rfl, tp, c, _, rfl, d03.tape, by omega, by omega, fun r H4 h0' h1' d4 => ⟨_, _, rfl, rfl, ?_⟩⟩
        obtain ⟨left, hleft⟩ : ∃ left : Nat, (1 : Int) + r = (left : Int) := ⟨(1 + r).toNat, by omega⟩
        have hl1 : 1 ≤ left := by omega
        have hl2 : left ≤ nodes - 2 := by omega
        have d04 := d03.dr d4
        have hrm4 := d4.keep rm _ hrt hrm3
        have hnl4 := d4.keep nl _ hnt hnl3
        have hats4 := hats3.te (d4.tk d03.tape)
        have hkl4 := d4.keep kl _ kt hkl
        refine ⟨_, rfl, _, rfl, _, rfl, _, rfl, _, rfl, tp, c, nl, pa, rm, ns, ats, n, m + 1, left, (by show [V.ref tp, V.ref nl, V.ref pa, V.ref rm, V.int ((1 : Int) + r)] = _; rw [hleft]), d04.tape, hrt, hrc, hnt, hnr, hrm4, hnl4, hne, hn8, hnm, hats4, hl1, by omega, by omega, fun v1 t1 H5 n5 d5 hr5 hn5 hp1 g1 hc1 => ?_⟩
        have tk5 := d5.tk d04.tape hrm4
        have hright : (nodes : Int) - 1 - (1 + r) = ((nodes - 1 - left : Nat) : Int) := by omega
        refine ⟨_, rfl, _, rfl, _, rfl, _, rfl, _, rfl, _, _, rfl, rfl, _, rfl, _, _, rfl, rfl, tp, c, nl, pa, rm, ns, ats, n5, m + 1 + t1.parts.length, nodes - 1 - left, (by show [V.ref tp, V.ref nl, V.ref pa, V.ref rm, V.int ((nodes : Int) - 1 - (1 + r))] = _; rw [hright]), d5.tape, hrt, hrc, hnt, hnr, hr5, d5.keep nl _ hnt hnr hnl4, hne, hn8, hnm, hats4.te tk5, by omega, by omega, by omega, fun v2 t2 H6 n6 d6 hr6 hn6 hp2 g2 hc2 => ?_⟩
        have tk6 := d6.tk d5.tape hr5
        have hkl6 := d6.keep kl _ kt kr (d5.keep kl _ kt kr hkl4)
        obtain ⟨k, hk⟩ := kinds_at rfl (Int.emod_nonneg ch (by decide : (7 : Int) ≠ 0)) (Int.emod_lt_of_pos ch mod7)
        refine ⟨_, rfl, _, rfl, .inl ⟨_, rfl, _, _, rfl, rfl, mod7, kl, _, _, _, rfl, rfl, lstS hkl6, hk, _, rfl, _, rfl, _, rfl, one_four rfl, fun p np => ?_⟩⟩
        show D.rt _ _
        rw [eD]
        have e7 := same_upd (o := .tup [.str k.nm, .int m, v1, v2]) np
        have hlen : m + (Pt.bin k m t1 t2).parts.length = m + 1 + t1.parts.length + t2.parts.length := by
          simp only [Pt.parts, List.length_cons, List.length_append]
          omega
        refine q (.ref p) (.bin k m t1 t2) _ n6 ((d04.trans (d5.trans d6)).same e7) ?_ (by omega) ⟨p, v1, v2, rfl, tupS upd_same, hp1.te (tk6.trans (te_same e7)), hp2.same e7⟩ ((grown_bin k g1 g2).mono (by omega)) (by simp only [Pt.cnt]; omega)
        rw [hlen]
        exact e7 _ _ hr6
      refine ⟨_, rfl, _, _, rfl, rfl, _, rfl, ifT (by omega) ?_⟩
      by_cases hc7 : ch < 7
      · exact ⟨_, rfl, _, _, rfl, rfl, _, rfl, ifT hc7 (iteT body)⟩
      · refine ⟨_, rfl, _, _, rfl, rfl, _, rfl, ifF hc7 ?_⟩
        by_cases hn4 : nodes > 4
        · exact ⟨_, rfl, _, _, rfl, rfl, _, rfl, ifT (by omega) body⟩
        · exact ⟨_, rfl, _, _, rfl, rfl, _, rfl, ifF (by omega) (leaf D eD)⟩
    · exact ⟨_, rfl, _, _, rfl, rfl, _, rfl, ifF (by omega) (iteF (leaf D eD))⟩
  -- a condition?
  by_cases hc9 : ch > 9
  · refine ⟨_, rfl, _, _, rfl, rfl, _, rfl, ifT hc9 ?_⟩
    by_cases hn1 : nodes > 1
    · refine ⟨_, rfl, _, _, rfl, rfl, _, rfl, ifT (by omega) ?_⟩
      refine ⟨_, rfl, rm, _, _, _, rfl, rfl, lstS hrm2, at0, _, _, rfl, rfl, _, rfl, ?_⟩
      by_cases hn0 : n = 0
      · exact ifF (by omega) (iteF (inner _ rfl))
      refine ifT (by omega) ?_
      obtain ⟨ys, hpa, hys⟩ := hats2.ex
      refine ⟨_, rfl, _, .inr (.inl ⟨_, hpa, rfl⟩), ?_⟩
      cases hys with
      | nil => exact iteF (inner _ rfl)
      | cons hA hB =>
        refine iteT ?_
        have hnm1 : (n : Int) - 1 = ((n - 1 : Nat) : Int) := by omega
        refine ⟨_, rfl, rm, _, _, _, rfl, rfl, lstS hrm2, at0, _, _, rfl, rfl, _, rfl, rm, _, 0, 0, rfl, rfl, hrm2, rfl, ?_⟩
        have hset2 : [V.int (n : Int), V.int ((m + 1 : Nat) : Int)].set 0 (V.int ((n : Int) - 1)) = [.int ((n - 1 : Nat) : Int), .int ((m + 1 : Nat) : Int)] := by
          rw [hnm1]
          rfl
        have eH : upd H2 rm (.lst ([V.int (n : Int), V.int ((m + 1 : Nat) : Int)].set 0 (V.int ((n : Int) - 1)))) = upd H2 rm (.lst [.int ((n - 1 : Nat) : Int), .int ((m + 1 : Nat) : Int)]) := by rw [hset2]
        have d3 : Dr2 tp c rm H2 (upd H2 rm (.lst ([V.int (n : Int), V.int ((m + 1 : Nat) : Int)].set 0 (V.int ((n : Int) - 1))))) := Dr2.room d02.tape hrt hrc
        have hrm3 : upd H2 rm (.lst ([V.int (n : Int), V.int ((m + 1 : Nat) : Int)].set 0 (V.int ((n : Int) - 1)))) rm = some (.lst [.int ((n - 1 : Nat) : Int), .int ((m + 1 : Nat) : Int)]) := by
          rw [eH]
          exact upd_same
        have hats3 := hats2.te (d3.tk d02.tape hrm2)
        refine ⟨_, rfl, _, rfl, _, rfl, tp, c, pa, rm, _, n - 1, m + 1, 3, rfl, d3.tape, hrt, hrc, hrm3, hats3, by simp, by decide, fun vc cn H4 n4 d4 hr4 hn4 hcn hin hdp hcnt => ?_⟩
        have hats4 := hats3.te (d4.tk d3.tape hrm3)
        have hnode : (nodes : Int) - 1 = ((nodes - 1 : Nat) : Int) := by omega
        refine ⟨_, rfl, _, rfl, _, rfl, _, rfl, _, rfl, _, rfl, _, rfl, _, _, rfl, rfl, tp, c, nl, pa, rm, ns, _, n4, m + 1, nodes - 1, (by show [V.ref tp, V.ref nl, V.ref pa, V.ref rm, V.int ((nodes : Int) - 1)] = _; rw [hnode]), d4.tape, hrt, hrc, hnt, hnr, hr4, d4.keep nl _ hnt hnr (d3.keep nl _ hnt hnr hnl2), hne, hn8, hnm, hats4, by omega, by omega, by omega, fun v1 t1 H5 n5 d5 hr5 hn5 hp1 g1 hc1 => ⟨one_four rfl, fun p np => ?_⟩⟩
        have e6 := same_upd (o := .tup [.str "when", .int m, vc, v1]) np
        have hlen : m + (Pt.wh m cn t1).parts.length = m + 1 + t1.parts.length := by
          simp only [Pt.parts, List.length_cons]
          omega
        refine q (.ref p) (.wh m cn t1) _ n5 ((d02.trans (d3.trans (d4.trans d5))).same e6) ?_ (by omega) ⟨p, vc, v1, rfl, tupS upd_same, hcn.te ((d5.tk d4.tape hr4).trans (te_same e6)), hp1.same e6⟩ ((grown_wh g1 hin hdp).mono (by omega)) (by simp only [Pt.cnt]; omega)
        rw [hlen]
        exact e6 _ _ hr5
    · exact ⟨_, rfl, _, _, rfl, rfl, _, rfl, ifF (by omega) (iteF (inner _ rfl))⟩
  · exact ⟨_, rfl, _, _, rfl, rfl, _, rfl, ifF hc9 (iteF (inner _ rfl))⟩
theorem ok_grow (D : Dfn K mg "_law_grow" s_law_grow) (C_law_draw : Callee P w K mg base 1 "_law_draw" ["_law_tape_here", "_law_many"] spDraw) (C_law_condition : Callee P w K mg base 6 "_law_condition" ["_law_tape_here", "_law_attributes_here", "_law_room", "_law_depth"] (spCond K 4)) (M : Mo K mg) : ∀ d : Nat, Callee P w K mg base (d + 7) "_law_grow" ["_law_tape_here", "_law_names_here", "_law_attributes_here", "_law_room", "_law_nodes"] (spGrow K d)
  | 0 => grow_none D
  | d + 1 => grow_step D (ok_grow D C_law_draw C_law_condition M d) C_law_draw C_law_condition M
end
end Tf

namespace Tf
open PySem PySem.Spec PyProof.Rows L2
section
variable {P : Program} {w : World} {K : PySem.W.Frag} {mg : PySem.Str → Option Value} {base : Heap}
abbrev s_law_plain_process : Stmt := top 43
abbrev nm_law_plain_process : List PySem.Str := ["_law_tape_here", "_law_nodes", "_law_comparisons", "_law_frame_here", "_law_names_here", "_law_row"]
theorem sc_law_plain_process : FnScope nm_law_plain_process ["_law_tape_here", "_law_nodes", "_law_comparisons"] (defScope s_law_plain_process) := ⟨rfl, rfl, rfl, by decide +kernel, rfl, by decide +kernel, by decide +kernel⟩
def spProcess (K : PySem.W.Frag) : Sp := fun vs H Q _ => ∃ (tp c : Addr) (nodes comps : Nat), vs = [.ref tp, .int nodes, .int comps] ∧ TapeOk tp c H ∧ 1 ≤ nodes ∧ nodes ≤ 7 ∧ comps ≤ 2 ∧
  ∀ p acts pa x t ats H', Dr tp c H H' → SqT K H' p [acts, .ref pa, x] → RepP K H' t x → AtsAt K H' pa ats → Grown (ats.map (·.nm)) 0 nodes t → t.cnt ≤ comps → Q (.ref p) H'
theorem ok_process (D : Dfn K mg "_law_plain_process" s_law_plain_process) (C_law_draw : Callee P w K mg base 1 "_law_draw" ["_law_tape_here", "_law_many"] spDraw) (C_law_frame : Callee P w K mg base 4 "_law_frame" ["_law_tape_here"] (spFrame K)) (C_law_grow : Callee P w K mg base 15 "_law_grow" ["_law_tape_here", "_law_names_here", "_law_attributes_here", "_law_room", "_law_nodes"] (spGrow K 8)) : Callee P w K mg base 16 "_law_plain_process" ["_law_tape_here", "_law_nodes", "_law_comparisons"] (spProcess K) := by
  refine D.ok (fun _ _ _ _ _ _ us hl => match us, hl with | [_, _, _], _ => rfl) sc_law_plain_process (fun vs H Q E h => ?_) (fun f cdv A outer s H vs Q E hr h => ?_)
  · obtain ⟨tp, c, nodes, comps, rfl, _⟩ := h
    rfl
  obtain ⟨tp, c, nodes, comps, rfl, ht, hn1, hn7, hc2, q⟩ := h
  refine ⟨_, (pss_cons (ps_set (i := 3) sc_law_plain_process.nd rfl (by first | exact Or.inl rfl | exact Or.inr rfl) (pe_callC C_law_frame (hr.mono (by omega)) (by rfl) (pa_cons (pv 0) pa_nil)))
    (pss_cons (ps_setLc (i := 4) (own := [("_law_row", 5)]) rfl sc_law_plain_process.nd rfl rfl (sw_true rfl rfl rfl (by decide +kernel)) (pi_tup (pe_ix ix_tup (pv 3) pe_int (fun _ _ => rfl))) (blkOk_by (own := [("_law_row", 5)]) (N := nm_law_plain_process) (sc := defScope s_law_plain_process) (by decide +kernel)) (fun _ _ _ _ _ => (pg_name (i := 5) sc_law_plain_process.nd rfl (by first | exact Or.inl rfl | exact Or.inr rfl))) (fun _ _ _ _ _ => pts_nil) (fun _ _ _ _ _ => (pe_ix (ix_tupK (K := K) rfl) (pv 5) pe_int (fun _ _ => rfl))))
    (pss_one (ps_ret (pe_op op_catA (pv 3) (pe_tup (pa_cons (pe_callC C_law_grow (hr.mono (by omega)) (by rfl) (pa_cons (pv 0) (pa_cons (pv 4) (pa_cons (pe_ix ix_tup (pv 3) pe_int (fun _ _ => rfl)) (pa_cons (pe_lst (pa_cons (pe_callC C_law_draw (hr.mono (by omega)) (by rfl) (pa_cons (pv 0) (pa_cons (pe_op op_add (pv 2) pe_int) pa_nil))) (pa_cons pe_int pa_nil))) (pa_cons (pv 1) pa_nil)))))) pa_nil))))))), ?_⟩
  refine ⟨_, rfl, tp, c, rfl, ht, fun p pf pa ys zs ns ats H1 d1 hp hpf hys hn8 hne hnm hpa hzs hal hao => ?_⟩
  have hats : AtsAt K H1 pa ats := ⟨⟨zs, hpa, hzs⟩, hal, hao⟩
  refine ⟨_, rfl, p, _, _, _, rfl, rfl, hp, at0, pf, rfl, ⟨_, hpf⟩, fun D1 nD1 => ?_⟩
  refine lc_mapT (bs := ns) (RepF K) (fun (_ : Hp) (n : PySem.Str) v => v = V.str n) (stays_F K) stays_str (fun n => n) rfl hpf hys nD1 (sz (by omega)) (fun _ => rfl) (fun i x n Hc hni hF eH Q1 hQ => ?_) (fun H2 ws e2 hD hws => ?_)
  · obtain ⟨a, x', y', rfl, ha⟩ := hF
    exact ⟨_, rfl, a, _, _, _, rfl, rfl, ha, at0, hQ _ _ (Same.refl Hc) rfl⟩
  have hwe := rows_strs (H := H2) hws
  rw [List.map_id'] at hwe
  subst hwe
  have d02 := d1.same e2
  have hats2 := hats.te (te_same e2)
  have hD1t := d1.tape.ne_of nD1
  refine ⟨_, rfl, _, rfl, _, rfl, _, rfl, p, _, _, _, rfl, rfl, same_tup e2 hp, at1, _, rfl, _, rfl, _, _, rfl, rfl, tp, c, _, rfl, d02.tape, by omega, by omega, fun r H3 h0 h1 d3 => ⟨len_le (by simp only [List.length_cons, List.length_nil]; omega), fun rm nrm => ?_⟩⟩
  obtain ⟨n, hn⟩ : ∃ n : Nat, r = (n : Int) := ⟨r.toNat, by omega⟩
  subst hn
  have d03 := d02.trans d3
  have hrt := d03.tape.ne_of nrm
  have hrc : rm ≠ c := fun z => by
    obtain ⟨cs, x, y, w', t⟩ := d03.tape
    have := t.cells
    rw [← z, nrm] at this
    cases this
  have nrmH := d03.free nrm
  have e4 := same_upd (o := .lst [V.int (n : Int), V.int 0]) nrm
  have d04 := d03.same e4
  have t14 := (te_same e2).trans ((d3.tk d02.tape).trans (te_same e4))
  have hnl4 := e4 _ _ (d3.keep D1 _ hD1t hD)
  have hDr : D1 ≠ rm := fun z => by
    rw [z] at hD
    have := d3.keep rm _ hrt hD
    rw [nrm] at this
    cases this
  have hrm4 : upd H3 rm (.lst [V.int (n : Int), V.int 0]) rm = some (.lst [.int (n : Int), .int ((0 : Nat) : Int)]) := upd_same
  refine ⟨_, rfl, tp, c, D1, pa, rm, ns, ats, n, 0, nodes, rfl, d04.tape, hrt, hrc, hD1t, hDr, hrm4, hnl4, hne, hn8, hnm, hats.te t14, hn1, by omega, by omega, fun v t H5 n' d5 hr5 hn' hv hg hcnt => ⟨one_le (.inl rfl), fun p1 np1 => ?_⟩⟩
  have d05 : Dr tp c H H5 := ⟨fun b x hb e => d5.keep b x hb (fun z => by rw [z, nrmH] at e; cases e) (d04.keep b x hb e), d5.tape⟩
  have e6 := same_upd (o := .tup [v]) np1
  have t15 := t14.trans ((d5.tk d04.tape hrm4).trans (te_same e6))
  refine catA (t15.sq hp) (tupS upd_same) (sz (by simp only [List.length_cons, List.length_nil]; omega)) fun p2 H7 e7 hp2 => ?_
  exact q p2 (.ref pf) pa v t ats H7 ((d05.same e6).same e7) hp2 (hv.same (e6.trans e7)) ((hats.te t15).te (te_same e7)) hg (by omega)
/-! ### _law_marks -/
def Cnd.subs : Cnd → List Cnd
  | .cmp _ _ _ => []
  | .neg c => [c]
  | .con c d => [c, d]
  | .dis c d => [c, d]
theorem subs_dp {c s : Cnd} (h : s ∈ c.subs) : s.dp < c.dp := by
  cases c with
  | cmp n o i => simp [Cnd.subs] at h
  | neg c =>
    simp only [Cnd.subs, List.mem_cons, List.not_mem_nil, or_false] at h
    subst h
    exact Nat.lt_succ_self _
  | con c d =>
    simp only [Cnd.subs, List.mem_cons, List.not_mem_nil, or_false] at h
    simp only [Cnd.dp]
    rcases h with rfl | rfl <;> omega
  | dis c d =>
    simp only [Cnd.subs, List.mem_cons, List.not_mem_nil, or_false] at h
    simp only [Cnd.dp]
    rcases h with rfl | rfl <;> omega
theorem subs_cnt {c : Cnd} (h : c.subs ≠ []) : (c.subs.map Cnd.cnt).sum = c.cnt := by
  cases c with
  | cmp n o i => simp [Cnd.subs] at h
  | neg c => simp [Cnd.subs, Cnd.cnt]
  | con c d => simp [Cnd.subs, Cnd.cnt]
  | dis c d => simp [Cnd.subs, Cnd.cnt]
theorem RepC.subs {H : Hp} {c : Cnd} {v : V} (h : RepC K H c v) (hs : c.subs ≠ []) : ∃ a k xs, v = .ref a ∧ SqT K H a (.str k :: xs) ∧ ¬ V.str k = V.str "compare" ∧ Rows (RepC K H) xs c.subs := by
  cases c with
  | cmp n o i => simp [Cnd.subs] at hs
  | neg c =>
    obtain ⟨a, x, hv, ha, hx⟩ := h
    exact ⟨a, _, _, hv, ha, by decide +kernel, .cons hx .nil⟩
  | con c d =>
    obtain ⟨a, x, y, hv, ha, hx, hy⟩ := h
    exact ⟨a, _, _, hv, ha, by decide +kernel, .cons hx (.cons hy .nil)⟩
  | dis c d =>
    obtain ⟨a, x, y, hv, ha, hx, hy⟩ := h
    exact ⟨a, _, _, hv, ha, by decide +kernel, .cons hx (.cons hy .nil)⟩
theorem cut_ints (ns : List Int) (lo hi : Option Int) : ∃ ms : List Int, cutV (ns.map V.int) lo hi = ms.map V.int ∧ ms.length ≤ ns.length := by
  refine ⟨(ns.drop (HT.sIx (ns.map V.int).length 0 lo)).take (HT.sIx (ns.map V.int).length (ns.map V.int).length hi - HT.sIx (ns.map V.int).length 0 lo), ?_, ?_⟩
  · unfold cutV
    rw [List.map_take, List.map_drop]
  · rw [List.length_take, List.length_drop]
    omega
theorem cut_cut (ns : List Int) (lo hi lo2 hi2 : Option Int) {n : Nat} (h : ns.length ≤ n) : ∃ ms : List Int, cutV (cutV (ns.map V.int) lo hi) lo2 hi2 = ms.map V.int ∧ ms.length ≤ n := by
  obtain ⟨ms, e1, l1⟩ := cut_ints ns lo hi
  obtain ⟨ms2, e2, l2⟩ := cut_ints ms lo2 hi2
  exact ⟨ms2, by rw [e1, e2], by omega⟩
theorem slT {H : Hp} {a : Addr} {xs zs : List V} {lo hi : Option Int} {Q : VK} (ha : SqT K H a xs) (hz : cutV xs lo hi = zs) (q : ∀ p H', Same H H' → SqT K H' p zs → Q (.ref p) H') : rSlA K (.ref a) lo hi H Q := by
  refine ⟨a, xs, rfl, ha, fun ⟨e1, e2⟩ => ?_, fun _ p np => q p _ (same_upd np) (by rw [hz]; exact tupS upd_same)⟩
  have : cutV xs lo hi = xs := by
    unfold cutV
    rw [e1, e2, List.drop_zero, Nat.sub_zero, List.take_length]
  refine q a H (Same.refl H) ?_
  rw [← hz, this]
  exact ha
abbrev s_law_marks : Stmt := top 44
abbrev nm_law_marks : List PySem.Str := ["_law_condition_here", "_law_name", "_law_marks_here", "_law_part"]
theorem sc_law_marks : FnScope nm_law_marks ["_law_condition_here", "_law_name"] (defScope s_law_marks) := ⟨rfl, rfl, rfl, by decide +kernel, rfl, by decide +kernel, by decide +kernel⟩
def spMarks (K : PySem.W.Frag) (d : Nat) : Sp := fun vs H Q _ => ∃ (cn : Cnd) (x : V) (nm : PySem.Str), vs = [x, .str nm] ∧ RepC K H cn x ∧ cn.dp < d ∧ cn.cnt ≤ 100 ∧
  ∀ p (ns : List Int) H', Same H H' → H' p = some (.lst (ns.map V.int)) → ns.length ≤ 2 * cn.cnt → Q (.ref p) H'
theorem marks_none (D : Dfn K mg "_law_marks" s_law_marks) : Callee P w K mg base 0 "_law_marks" ["_law_condition_here", "_law_name"] (spMarks K 0) :=
  D.none (fun _ _ _ _ _ _ us hl => match us, hl with | [_, _], _ => rfl) fun vs H Q E h => by
    obtain ⟨cn, x, nm, _, _, hd, _⟩ := h
    omega
theorem bit_small {b : Bool} : -(2 ^ 64) < (if b = true then (1 : Int) else 0) ∧ (if b = true then (1 : Int) else 0) < 2 ^ 64 := by cases b <;> decide
theorem marks_step {d : Nat} (D : Dfn K mg "_law_marks" s_law_marks) (C_law_marks : Callee P w K mg base d "_law_marks" ["_law_condition_here", "_law_name"] (spMarks K d)) (M : Mo K mg) : Callee P w K mg base (d + 1) "_law_marks" ["_law_condition_here", "_law_name"] (spMarks K (d + 1)) := by
  refine D.ok (fun _ _ _ _ _ _ us hl => match us, hl with | [_, _], _ => rfl) sc_law_marks (fun vs H Q E h => ?_) (fun f cdv A outer s H vs Q E hr h => ?_)
  · obtain ⟨cn, x, nm, rfl, _⟩ := h
    rfl
  obtain ⟨cn, x, nm, rfl, hx, hd, hcnt, q⟩ := h
  refine ⟨_, (pss_cons (ps_if (pt_cmpR op_eq (pe_ix ix_tup (pv 0) pe_int (fun _ _ => rfl)) pe_str (nomark _)) (pss_cons (ps_set (i := 2) sc_law_marks.nd rfl (by first | exact Or.inl rfl | exact Or.inr rfl) (pe_slice sl_list (pe_lst (pa_cons (pe_ix ix_tup (pv 0) pe_int (fun _ _ => rfl)) (pa_cons (pe_op op_add (pe_ix ix_tup (pv 0) pe_int (fun _ _ => rfl)) pe_int) pa_nil))) (po_some (pe_callTy call_int1 (by rfl) M.int_ (by decide +kernel) (pa_cons (pe_cmpR op_in_seq (pe_ix ix_tup (pv 0) pe_int (fun _ _ => rfl)) (pe_tup (pa_cons pe_str (pa_cons pe_str pa_nil))) (by rfl)) pa_nil))) po_none))
    (pss_one (ps_ret (pe_slice sl_list (pv 2) po_none (po_some (pe_op op_mul (pe_callTy call_int1 (by rfl) M.int_ (by decide +kernel) (pa_cons (pe_cmpR op_eq (pe_ix ix_tup (pv 0) pe_int (fun _ _ => rfl)) (pv 1) (nomark _)) pa_nil)) (pe_op op_sub pe_int (pe_callTy call_int1 (by rfl) M.int_ (by decide +kernel) (pa_cons (pe_cmpR op_in_seq (pe_ix ix_tup (pv 0) pe_int (fun _ _ => rfl)) (pe_tup (pa_cons pe_str (pa_cons pe_str pa_nil))) (by rfl)) pa_nil))))))))) pss_nil)
    (pss_cons (ps_set (i := 2) sc_law_marks.nd rfl (by first | exact Or.inl rfl | exact Or.inr rfl) (pe_lst pa_nil))
    (pss_cons (ps_for PassesOwn.never rfl (pi_tup (pe_slice sl_tupA (pv 0) (po_some pe_int) po_none)) (pg_name (i := 3) sc_law_marks.nd rfl (by first | exact Or.inl rfl | exact Or.inr rfl)) (pss_one (ps_set (i := 2) sc_law_marks.nd rfl (by first | exact Or.inl rfl | exact Or.inr rfl) (pe_op op_cat (pv 2) (pe_callC C_law_marks (hr.mono (by omega)) (by rfl) (pa_cons (pv 3) (pa_cons (pv 1) pa_nil)))))))
    (pss_one (ps_ret (pv 2)))))), ?_⟩
  by_cases hs : cn.subs = []
  · obtain ⟨n, o, i, rfl⟩ : ∃ n o i, cn = .cmp n o i := by
      cases cn with
      | cmp n o i => exact ⟨n, o, i, rfl⟩
      | neg c => simp [Cnd.subs] at hs
      | con c d => simp [Cnd.subs] at hs
      | dis c d => simp [Cnd.subs] at hs
    obtain ⟨a, rfl, ha⟩ := hx
    refine ⟨_, rfl, a, _, _, _, rfl, rfl, ha, at0, rfl, _, rfl, ifT (by decide +kernel) ?_⟩
    refine ⟨_, rfl, a, _, _, _, rfl, rfl, ha, at3, _, rfl, a, _, _, _, rfl, rfl, ha, at3, _, _, rfl, rfl, one_le (.inr rfl), fun p1 np1 => ?_⟩
    have e1 := same_upd (o := .lst [V.int i, .int (i + 1)]) np1
    have hp1 : upd H p1 (.lst [V.int i, .int (i + 1)]) p1 = some (.lst ([i, i + 1].map V.int)) := upd_same
    refine ⟨_, rfl, a, _, _, _, rfl, rfl, same_tup e1 ha, at2, tup2, fun p2 np2 => ?_⟩
    have e2 := same_upd (o := .tup [V.str "<=", .str ">"]) np2
    refine ⟨p2, _, rfl, .inr (tupS upd_same), rfl, rfl, .inr ⟨_, rfl, _, rfl, p1, _, rfl, lstS (e2 _ _ hp1), fun p3 np3 => ?_⟩⟩
    have e3 := same_upd (o := .lst (cutV ([i, i + 1].map V.int) (some (if (if false = true then !inV (V.str o.nm) [V.str "<=", .str ">"] else inV (V.str o.nm) [V.str "<=", .str ">"]) = true then 1 else 0)) none)) np3
    have e13 := e1.trans (e2.trans e3)
    refine ⟨_, rfl, _, rfl, a, _, _, _, rfl, rfl, same_tup e13 ha, at1, _, rfl, rfl, .inr ⟨_, rfl, _, rfl, a, _, _, _, rfl, rfl, same_tup e13 ha, at2, tup2, fun p4 np4 => ⟨p4, _, rfl, .inr (tupS upd_same), rfl, rfl, .inr ⟨_, rfl, _, _, rfl, rfl, _, _, rfl, rfl, .inl bit_small, _, rfl, p3, _, rfl, lstS (same_upd np4 _ _ upd_same), fun p5 np5 => ?_⟩⟩⟩⟩
    have fin : ∀ (X : List V) (H' : Hp), Same H H' → H' p5 = some (.lst X) → (∃ ms : List Int, X = ms.map V.int ∧ ms.length ≤ 2) → Q (.ref p5) H' := by
      rintro X H' e hX ⟨ms, rfl, hl⟩
      exact q p5 ms H' e hX (by simp only [Cnd.cnt]; omega)
    exact fin _ _ (e13.trans ((same_upd np4).trans (same_upd np5))) upd_same (cut_cut _ _ _ _ _ (Nat.le_refl 2))
  · obtain ⟨a, k, xs, rfl, ha, hk, hsub⟩ := hx.subs hs
    refine ⟨_, rfl, a, _, _, _, rfl, rfl, ha, at0, rfl, _, rfl, ifF hk ?_⟩
    refine ⟨Nat.zero_le _, fun p1 np1 => ?_⟩
    have e1 := same_upd (o := .lst []) np1
    have hp1 : upd H p1 (.lst []) p1 = some (.lst (([] : List Int).map V.int)) := upd_same
    generalize upd H p1 (.lst []) = H1 at e1 hp1
    refine ⟨_, rfl, 1, rfl, ?_⟩
    unfold tNoPart
    refine slT (same_tup e1 ha) (cut_tail _ _) fun ps H2 e2 hps => ?_
    have e12 := e1.trans e2
    have hsub2 := hsub.imp fun b v h => RepC.same h e12
    have hlen := hsub2.len
    have hsum := subs_cnt hs
    refine ⟨ps, rfl, ⟨_, hps⟩, for_tup (xs := xs) (fun i σ H3 => ∃ p y ns, σ = [some (.ref a), some (.str nm), some (.ref p), y] ∧ Same H2 H3 ∧ H3 p = some (.lst (ns.map V.int)) ∧ ns.length ≤ 2 * ((cn.subs.take i).map Cnd.cnt).sum)
      ⟨_, _, [], rfl, Same.refl _, e2 _ _ hp1, Nat.zero_le _⟩ (fun i σ H3 _ ⟨_, _, _, _, e, _⟩ => same_tup e hps) (fun i v σ H3 hv ⟨p, y, ns, es, e3, hp, hnl⟩ => ?_) (fun σ H3 ⟨p, y, ns, es, e3, hp, hnl⟩ => ?_)⟩
    · subst es
      obtain ⟨sc, hsi, hF⟩ := hsub2.get hv
      have hm := List.mem_of_getElem? hsi
      have hdp := subs_dp hm
      have hst : ((cn.subs.take (i + 1)).map Cnd.cnt).sum = ((cn.subs.take i).map Cnd.cnt).sum + sc.cnt := by
        rw [take_succ hsi, List.map_append, List.sum_append]
        simp
      have hle := sum_take Cnd.cnt (i + 1) cn.subs
      refine ⟨_, rfl, _, rfl, _, rfl, sc, v, nm, rfl, hF.same e3, by omega, by omega, fun p4 ms H4 e4 hp4 hml => ?_⟩
      refine catL (e4 _ _ hp) hp4 (by rw [List.length_map, List.length_map]; exact sz (by omega)) fun p5 H5 e5 np5 hp5 => ⟨p5, _, ns ++ ms, rfl, e3.trans (e4.trans e5), ?_, by rw [List.length_append]; omega⟩
      rw [List.map_append]
      exact hp5
    · subst es
      rw [hlen, List.take_length, hsum] at hnl
      exact ⟨_, rfl, q p ns H3 (e12.trans e3) hp hnl⟩
theorem ok_marks (D : Dfn K mg "_law_marks" s_law_marks) (M : Mo K mg) : ∀ d : Nat, Callee P w K mg base d "_law_marks" ["_law_condition_here", "_law_name"] (spMarks K d)
  | 0 => marks_none D
  | d + 1 => marks_step D (ok_marks D M d) M
end
end Tf

namespace Tf
open PySem PySem.Spec PyProof.Rows L2
def Pt.own : Pt → Nat
  | .wh _ c _ => c.cnt
  | _ => 0
theorem parts_own : ∀ t : Pt, (t.parts.map Pt.own).sum = t.cnt
  | .act n m => by simp [Pt.parts, Pt.own, Pt.cnt]
  | .sil n => by simp [Pt.parts, Pt.own, Pt.cnt]
  | .bin k n l r => by simp [Pt.parts, Pt.own, Pt.cnt, parts_own l, parts_own r]
  | .wh n c t => by simp [Pt.parts, Pt.own, Pt.cnt, parts_own t]
theorem cok_parts {ns : List PySem.Str} : ∀ (t : Pt), t.COk ns → ∀ p ∈ t.parts, p.COk ns
  | .act n m, h, p, hp => by
    simp only [Pt.parts, List.mem_cons, List.not_mem_nil, or_false] at hp
    subst hp
    exact h
  | .sil n, h, p, hp => by
    simp only [Pt.parts, List.mem_cons, List.not_mem_nil, or_false] at hp
    subst hp
    exact h
  | .bin k n l r, h, p, hp => by
    simp only [Pt.parts, List.mem_cons, List.mem_append] at hp
    rcases hp with rfl | hp | hp
    · exact h
    · exact cok_parts l h.1 p hp
    · exact cok_parts r h.2 p hp
  | .wh n c t, h, p, hp => by
    simp only [Pt.parts, List.mem_cons] at hp
    rcases hp with rfl | hp
    · exact h
    · exact cok_parts t h.2.2 p hp
theorem rows_ints : ∀ ks : List Int, Rows (fun (k : Int) v => v = V.int k) (ks.map V.int) ks
  | [] => .nil
  | _ :: ks => .cons rfl (rows_ints ks)
theorem rows_intsE : ∀ {xs : List V} {ks : List Int}, Rows (fun (k : Int) v => v = V.int k) xs ks → xs = ks.map V.int
  | _, _, .nil => rfl
  | _, _, .cons a t => by rw [List.map_cons, ← rows_intsE t, a]
section
variable {P : Program} {w : World} {K : PySem.W.Frag} {mg : PySem.Str → Option Value} {base : Heap}
abbrev s_law_values : Stmt := top 39
abbrev nm_law_values : List PySem.Str := ["_law_tree", "_law_row", "_law_values_here", "_law_node", "_law_mark"]
theorem sc_law_values : FnScope nm_law_values ["_law_tree", "_law_row"] (defScope s_law_values) := ⟨rfl, rfl, rfl, by decide +kernel, rfl, by decide +kernel, by decide +kernel⟩
def spValues (K : PySem.W.Frag) : Sp := fun vs H Q _ => ∃ (t : Pt) (x v : V) (row : At) (ns : List PySem.Str), vs = [x, v] ∧ RepP K H t x ∧ RepA K H row v ∧ t.dp < 20 ∧ t.parts.length ≤ 1000 ∧ t.cnt ≤ 10 ∧ t.COk ns ∧
  ∀ p (ms : List Int) H', Same H H' → H' p = some (.lst (ms.map V.int)) → ms ≠ [] → ms.length ≤ 100 → Q (.ref p) H'
theorem ok_values (D : Dfn K mg "_law_values" s_law_values) (M : Mo K mg) (C_law_parts : Callee P w K mg base 20 "_law_parts" ["_law_tree"] (spLParts K 20)) (C_law_marks : Callee P w K mg base 20 "_law_marks" ["_law_condition_here", "_law_name"] (spMarks K 20)) : Callee P w K mg base 21 "_law_values" ["_law_tree", "_law_row"] (spValues K) := by
  refine D.ok (fun _ _ _ _ _ _ us hl => match us, hl with | [_, _], _ => rfl) sc_law_values (fun vs H Q E h => ?_) (fun f cdv A outer s H vs Q E hr h => ?_)
  · obtain ⟨t, x, v, row, ns, rfl, _⟩ := h
    rfl
  obtain ⟨t, x, v, row, ns, rfl, hx, ⟨ra, rz, rfl, hra⟩, hd, hpl, hcnt, hcok, q⟩ := h
  refine ⟨_, (pss_cons (ps_set (i := 2) sc_law_values.nd rfl (by first | exact Or.inl rfl | exact Or.inr rfl) (pe_lst (pa_cons (pe_ix ix_tup (pv 1) pe_int (fun _ _ => rfl)) pa_nil)))
    (pss_cons (ps_for PassesOwn.never rfl (pi_list (pe_callC C_law_parts (hr.mono (by omega)) (by rfl) (pa_cons (pv 0) pa_nil))) (pg_name (i := 3) sc_law_values.nd rfl (by first | exact Or.inl rfl | exact Or.inr rfl)) (pss_one (ps_if (pt_cmpR op_eq (pe_ix ix_tup (pv 3) pe_int (fun _ _ => rfl)) pe_str (nomark _)) (pss_one (ps_set (i := 2) sc_law_values.nd rfl (by first | exact Or.inl rfl | exact Or.inr rfl) (pe_op op_cat (pv 2) (pe_lc (own := [("_law_mark", 4)]) rfl sc_law_values.nd (pi_list (pe_callC C_law_marks (hr.mono (by omega)) (by rfl) (pa_cons (pe_ix ix_tup (pv 3) pe_int (fun _ _ => rfl)) (pa_cons (pe_ix ix_tup (pv 1) pe_int (fun _ _ => rfl)) pa_nil)))) (blkOk_by (own := [("_law_mark", 4)]) (N := nm_law_values) (sc := defScope s_law_values) (by decide +kernel)) (fun _ _ _ _ _ => (pg_name (i := 4) sc_law_values.nd rfl (by first | exact Or.inl rfl | exact Or.inr rfl))) (fun _ _ _ _ _ => (pts_one (PW.pt (pw_and (pt_cmpR op_lt (pe_ix (ix_tupK (K := K) rfl) (pv 1) pe_int (fun _ _ => rfl)) (pv 4) (nomark _)) (pw_and1 (pt_cmpR op_le (pv 4) (pe_ix (ix_tupK (K := K) rfl) (pv 1) pe_int (fun _ _ => rfl)) (nomark _))))))) (fun _ _ _ _ _ => (pv 4)))))) pss_nil)))
    (pss_one (ps_ret (pe_callB (cr_sortedSet rfl) (by rfl) M.sorted (by decide +kernel) (pa_cons (pe_callTy (cr_setL rfl) (by rfl) M.set_ (by decide +kernel) (pa_cons (pv 2) pa_nil)) pa_nil)))))), ?_⟩
  refine ⟨_, rfl, ra, _, _, _, rfl, rfl, hra, at1, one_le (.inl rfl), fun p0 np0 => ?_⟩
  have e0 := same_upd (o := .lst [V.int row.lo]) np0
  have hp0 : upd H p0 (.lst [V.int row.lo]) p0 = some (.lst ([row.lo].map V.int)) := upd_same
  generalize upd H p0 (.lst [V.int row.lo]) = H0 at e0 hp0
  refine ⟨_, rfl, t, x, rfl, hx.same e0, hd, hpl, fun pp ys H1 e1 npp hpp hys => ?_⟩
  have hlen := hys.len
  have e01 := e0.trans e1
  have hra1 := same_tup e01 hra
  refine ⟨pp, rfl, ⟨_, lstS hpp⟩, for_list (xs := ys) (fun i σ H2 => ∃ p y3 y4 ms, σ = [some x, some (.ref ra), some (.ref p), y3, y4] ∧ Same H1 H2 ∧ H2 p = some (.lst (ms.map V.int)) ∧ row.lo ∈ ms ∧ ms.length ≤ 1 + 2 * ((t.parts.take i).map Pt.own).sum)
    ⟨_, _, _, [row.lo], rfl, Same.refl _, e1 _ _ hp0, List.mem_cons_self, by simp⟩ (fun i σ H2 _ ⟨_, _, _, _, _, e, _⟩ => lstS (e _ _ hpp)) (fun i v σ H2 hv ⟨p, y3, y4, ms, es, e2, hp, hmem, hml⟩ => ?_) (fun σ H2 ⟨p, y3, y4, ms, es, e2, hp, hmem, hml⟩ => ?_)⟩
  · subst es
    obtain ⟨nd, hni, hF⟩ := hys.get hv
    have hF2 := RepP.same hF e2
    have hst : ((t.parts.take (i + 1)).map Pt.own).sum = ((t.parts.take i).map Pt.own).sum + nd.own := by
      rw [take_succ hni, List.map_append, List.sum_append]
      simp
    have hle := sum_take Pt.own (i + 1) t.parts
    rw [parts_own] at hle
    have hck := cok_parts t hcok nd (List.mem_of_getElem? hni)
    by_cases hw : ∃ n c t', nd = .wh n c t'
    · obtain ⟨n, cn, t', rfl⟩ := hw
      obtain ⟨a, cv, y, rfl, ha, hc, _⟩ := hF2
      simp only [Pt.own] at hst
      refine ⟨_, rfl, a, _, _, _, rfl, rfl, ha, at0, rfl, _, rfl, ifT (by decide +kernel) ?_⟩
      refine ⟨_, rfl, _, rfl, a, _, _, _, rfl, rfl, ha, at2, _, rfl, ra, _, _, _, rfl, rfl, same_tup e2 hra1, at0, cn, cv, row.nm, rfl, hc, by have := hck.2.1; omega, by omega, fun pm ks H3 e3 hpm hkl => ?_⟩
      have e13 := e2.trans e3
      refine ⟨pm, rfl, ⟨_, lstS hpm⟩, fun D4 nD4 => ?_⟩
      refine lc_filter (bs := ks) (fun (_ : Hp) (k : Int) v => v = V.int k) (fun _ _ _ _ _ h => h) (fun k => decide (row.lo < k) && decide (k ≤ row.hi)) rfl rfl (lstS hpm) (rows_ints ks) nD4 (sz (by omega)) (fun _ => rfl) (by exact (by decide : (4 : Nat) < 5)) (fun i2 z k Hc hki hF3 eH Q1 hQ => ?_) (fun H5 ws e5 hD5 hws => ?_)
      · subst hF3
        have hrc := same_tup (e13.trans eH) hra1
        refine ⟨_, rfl, ra, _, _, _, rfl, rfl, hrc, at1, _, rfl, _, _, rfl, rfl, _, rfl, ?_⟩
        have z := hQ Hc (Same.refl Hc)
        by_cases hlk : row.lo < k
        · refine ifT hlk ⟨_, rfl, _, rfl, ra, _, _, _, rfl, rfl, hrc, at2, _, _, rfl, rfl, _, rfl, ?_⟩
          rw [decide_eq_true hlk, Bool.true_and] at z
          exact z
        · refine ifF hlk ?_
          rw [decide_eq_false hlk, Bool.false_and] at z
          exact z
      · have hwi := rows_intsE hws
        subst hwi
        have hfl := List.length_filter_le (fun k => decide (row.lo < k) && decide (k ≤ row.hi)) ks
        refine catL ((e3.trans e5) _ _ hp) hD5 (by rw [List.length_map, List.length_map]; exact sz (by omega)) fun p6 H6 e6 np6 hp6 => ⟨p6, _, _, ms ++ ks.filter (fun k => decide (row.lo < k) && decide (k ≤ row.hi)), rfl, e13.trans (e5.trans e6), ?_, List.mem_append_left _ hmem, ?_⟩
        · rw [List.map_append]
          exact hp6
        · rw [List.length_append]
          omega
    · have hkind : ¬ V.str nd.kind = V.str "when" := by
        cases nd with
        | act n m =>
          show ¬ V.str "activity" = V.str "when"
          decide +kernel
        | sil n =>
          show ¬ V.str "silent" = V.str "when"
          decide +kernel
        | bin k n l r =>
          show ¬ V.str k.nm = V.str "when"
          cases k <;> decide +kernel
        | wh n c t' => exact absurd ⟨n, c, t', rfl⟩ hw
      obtain ⟨a, xs, rfl, ha⟩ := hF2.two
      exact ⟨_, rfl, a, _, _, _, rfl, rfl, ha, at0, rfl, _, rfl, ifF hkind ⟨p, _, _, ms, rfl, e2, hp, hmem, by omega⟩⟩
  · subst es
    have hle : ((t.parts.take ys.length).map Pt.own).sum ≤ t.cnt := by
      have := sum_take Pt.own ys.length t.parts
      rw [parts_own] at this
      exact this
    refine ⟨_, rfl, p, ms, rfl, lstS hp, Nat.lt_of_le_of_lt (show ms.length + 1 ≤ 30 by omega) (by decide +kernel), fun sa n na hn => ⟨sa, _, n, rfl, upd_same, ?_, fun ks p2 pw mem hkn np2 => ?_⟩⟩
    · exact Nat.lt_of_le_of_lt (hn ms fun k hk => hk) (by omega)
    · have hnl := hn ms fun k hk => hk
      refine q p2 ks _ (e01.trans (e2.trans ((same_upd na).trans (same_upd np2)))) upd_same ?_ (by omega)
      intro z
      have := (mem row.lo).mpr (decide_eq_true hmem)
      rw [z] at this
      cases this
/-! ### _law_data -/
abbrev s_law_data : Stmt := top 41
abbrev nm_law_data : List PySem.Str := ["_law_tape_here", "_law_process", "_law_data_here", "_law_row", "_law_values_here", "_law_value"]
theorem sc_law_data : FnScope nm_law_data ["_law_tape_here", "_law_process"] (defScope s_law_data) := ⟨rfl, rfl, rfl, by decide +kernel, rfl, by decide +kernel, by decide +kernel⟩
def spData (K : PySem.W.Frag) : Sp := fun vs H Q _ => ∃ (tp c pr pa : Addr) (acts x : V) (t : Pt) (ats : List At) (ns : List PySem.Str), vs = [.ref tp, .ref pr] ∧ TapeOk tp c H ∧ SqT K H pr [acts, .ref pa, x] ∧ RepP K H t x ∧ AtsAt K H pa ats ∧ t.dp < 20 ∧ t.parts.length ≤ 1000 ∧ t.cnt ≤ 10 ∧ t.COk ns ∧
  ∀ p (ds : List Int) H', Dr tp c H H' → SqT K H' p (ds.map V.int) → ds.length = ats.length → Q (.ref p) H'
theorem ok_data (D : Dfn K mg "_law_data" s_law_data) (M : Mo K mg) (C_law_draw : Callee P w K mg base 1 "_law_draw" ["_law_tape_here", "_law_many"] spDraw) (C_law_values : Callee P w K mg base 21 "_law_values" ["_law_tree", "_law_row"] (spValues K)) : Callee P w K mg base 22 "_law_data" ["_law_tape_here", "_law_process"] (spData K) := by
  refine D.ok (fun _ _ _ _ _ _ us hl => match us, hl with | [_, _], _ => rfl) sc_law_data (fun vs H Q E h => ?_) (fun f cdv A outer s H vs Q E hr h => ?_)
  · obtain ⟨tp, c, pr, pa, acts, x, t, ats, ns, rfl, _⟩ := h
    rfl
  obtain ⟨tp, c, pr, pa, acts, x, t, ats, ns, rfl, ht, hpr, hx, ⟨⟨ys, hpa, hys⟩, hl8, hao⟩, hd, hpl, hcnt, hcok, q⟩ := h
  refine ⟨_, (pss_cons (ps_set (i := 2) sc_law_data.nd rfl (by first | exact Or.inl rfl | exact Or.inr rfl) (pe_lst pa_nil))
    (pss_cons (ps_for PassesOwn.never rfl (pi_tup (pe_ix ix_tup (pv 1) pe_int (fun _ _ => rfl))) (pg_name (i := 3) sc_law_data.nd rfl (by first | exact Or.inl rfl | exact Or.inr rfl)) (pss_cons (ps_set (i := 4) sc_law_data.nd rfl (by first | exact Or.inl rfl | exact Or.inr rfl) (pe_callC C_law_values (hr.mono (by omega)) (by rfl) (pa_cons (pe_ix ix_tup (pv 1) pe_int (fun _ _ => rfl)) (pa_cons (pv 3) pa_nil))))
    (pss_cons (ps_set (i := 5) sc_law_data.nd rfl (by first | exact Or.inl rfl | exact Or.inr rfl) (pe_ix ix_list (pv 4) (pe_callC C_law_draw (hr.mono (by omega)) (by rfl) (pa_cons (pv 0) (pa_cons (pe_callB call_len_seq (by rfl) M.len PySem.boot_len (pa_cons (pv 4) pa_nil)) pa_nil))) (fun _ _ => rfl)))
    (pss_one (ps_expr (pe_bm PySem.F.plainAttrs_list PySem.F.slot_list_append PySem.F.type_list_append mt_append (pv 2) (pa_cons (pe_ix ix_list (pe_lst (pa_cons (pv 5) (pa_cons (pv 5) (pa_cons (pe_op op_add (pe_ix ix_tup (pv 3) pe_int (fun _ _ => rfl)) (pe_callC C_law_draw (hr.mono (by omega)) (by rfl) (pa_cons (pv 0) (pa_cons (pe_op op_add (pe_op op_sub (pe_ix ix_tup (pv 3) pe_int (fun _ _ => rfl)) (pe_ix ix_tup (pv 3) pe_int (fun _ _ => rfl))) pe_int) pa_nil)))) pa_nil)))) (pe_callC C_law_draw (hr.mono (by omega)) (by rfl) (pa_cons (pv 0) (pa_cons pe_int pa_nil))) (fun _ _ => rfl)) pa_nil)))))))
    (pss_one (ps_ret (pe_callTy call_tuple_of (by rfl) M.tuple_ (by decide +kernel) (pa_cons (pv 2) pa_nil)))))), ?_⟩
  refine ⟨Nat.zero_le _, fun dl ndl => ?_⟩
  have d0 := Dr.new (o := .lst []) ht ndl
  have hdl0 : upd H dl (.lst []) dl = some (.lst (([] : List Int).map V.int)) := upd_same
  have dne := ht.ne_of ndl
  generalize upd H dl (.lst []) = H0 at d0 hdl0
  have hlen := hys.len
  refine ⟨_, rfl, pr, _, _, _, rfl, rfl, d0.seq ht hpr, at1, pa, rfl, ⟨_, d0.seq ht hpa⟩, for_tup (xs := ys) (fun i σ H1 => ∃ y3 y4 y5 ds, σ = [some (.ref tp), some (.ref pr), some (.ref dl), y3, y4, y5] ∧ Dr tp c H H1 ∧ H1 dl = some (.lst (ds.map V.int)) ∧ ds.length = i)
    ⟨_, _, _, [], rfl, d0, hdl0, rfl⟩ (fun i σ H1 _ ⟨_, _, _, _, _, d, _⟩ => d.seq ht hpa) (fun i v σ H1 hv ⟨y3, y4, y5, ds, es, d1, hdl, hdn⟩ => ?_) (fun σ H1 ⟨y3, y4, y5, ds, es, d1, hdl, hdn⟩ => ?_)⟩
  · subst es
    obtain ⟨row, hri, hF⟩ := hys.get hv
    obtain ⟨_, hlo, hlh, hhi⟩ := hao row (List.mem_of_getElem? hri)
    have hil := (List.getElem?_eq_some_iff.mp hri).1
    have t1 := d1.tk ht
    have hF1 := stays_A K _ _ _ _ t1 hF
    refine ⟨_, rfl, pr, _, _, _, rfl, rfl, t1.sq hpr, at2, _, rfl, t, x, v, row, ns, rfl, hx.te t1, hF1, hd, hpl, hcnt, hcok, fun pv ms H2 e2 hpv hmne hml => ?_⟩
    have d2 := d1.same e2
    obtain ⟨ra, rz, rfl, hra⟩ := stays_A K _ _ _ _ (te_same e2) hF1
    have hmp : 0 < ms.length := List.length_pos_iff.mpr hmne
    refine ⟨_, rfl, _, rfl, _, rfl, pv, _, rfl, .inl (lstS hpv), tp, c, _, rfl, d2.tape, ?_, ?_, fun r H3 h0 h1 d3 => ?_⟩
    · rw [List.length_map]
      omega
    · rw [List.length_map]
      omega
    obtain ⟨vv, hvv, hmem⟩ := pickAt (xs := ms.map V.int) h0 h1
    obtain ⟨k, _, rfl⟩ := List.mem_map.mp hmem
    have hpvt : pv ≠ tp := fun z => by
      obtain ⟨xs, hx⟩ := d2.tape
      obtain ⟨a, b, c', hta⟩ := hx
      have := hta.tp
      rw [← z, hpv] at this
      cases ms with
      | nil => exact hmne rfl
      | cons a b => cases this
    refine ⟨pv, _, r, _, rfl, rfl, lstS (d3.keep pv _ hpvt hpv), hvv, ?_⟩
    have d03 := d2.trans d3
    have hra3 := d3.seq d2.tape hra
    have hdl3 := d3.keep dl _ dne (e2 _ _ hdl)
    -- one of three
    refine ⟨_, rfl, .inl ⟨rfl, _, lstS hdl3⟩, _, rfl, _, rfl, _, rfl, ra, _, _, _, rfl, rfl, hra3, at1, _, rfl, _, rfl, ra, _, _, _, rfl, rfl, hra3, at2, _, rfl, ra, _, _, _, rfl, rfl, hra3, at1, _, _, rfl, rfl, _, _, rfl, rfl, tp, c, _, rfl, d03.tape, by omega, by omega, fun r2 H4 h0' h1' d4 => ⟨_, _, rfl, rfl, tup3, fun p5 np5 => ⟨_, rfl, tp, c, 3, rfl, (d03.trans d4).tape.same (same_upd np5), by decide, by decide, fun r6 H6 h06 h16 d6 => ?_⟩⟩⟩
    have d46 := (Dr.new (o := .lst [V.int k, .int k, .int (row.lo + r2)]) d4.tape np5).trans d6
    have hp6 := d6.keep p5 _ (d4.tape.ne_of np5) upd_same
    obtain ⟨v6, hv6, hmem6⟩ := pickAt (xs := [V.int k, .int k, .int (row.lo + r2)]) h06 h16
    obtain ⟨fin, rfl⟩ : ∃ fin : Int, v6 = V.int fin := by
      simp only [List.mem_cons, List.not_mem_nil, or_false] at hmem6
      rcases hmem6 with h | h | h
      · exact ⟨_, h⟩
      · exact ⟨_, h⟩
      · exact ⟨_, h⟩
    have hdl6 := d46.keep dl _ dne (d4.keep dl _ dne hdl3)
    refine ⟨p5, _, r6, _, rfl, rfl, lstS hp6, hv6, dl, _, _, rfl, rfl, hdl6, by rw [List.length_map]; exact szl (by omega), _, _, _, ds ++ [fin], rfl, ((d03.trans d4).trans d46).mut ht ndl, ?_, by rw [List.length_append, hdn]; rfl⟩
    rw [List.map_append]
    exact upd_same
  · subst es
    rw [hlen] at hdn
    refine ⟨_, rfl, dl, _, rfl, .inl ⟨lstS hdl, fun l nl => ?_⟩⟩
    exact q l ds _ (d1.same (same_upd nl)) (tupS upd_same) hdn
end
end Tf

namespace Tf
open PySem PySem.Spec PyProof.Rows L2
/-! ### trees as data -/
def encC : Cnd → PyData
  | .cmp n o i => .tuple [.str "compare", .str n, .str o.nm, .int i]
  | .neg c => .tuple [.str "not", encC c]
  | .con c d => .tuple [.str "and", encC c, encC d]
  | .dis c d => .tuple [.str "or", encC c, encC d]
def encPt : Pt → PyData
  | .act n m => .tuple [.str "activity", .int n, .str m]
  | .sil n => .tuple [.str "silent", .int n]
  | .bin k n l r => .tuple [.str k.nm, .int n, encPt l, encPt r]
  | .wh n c t => .tuple [.str "when", .int n, encC c, encPt t]
theorem RepC.dpD {K : PySem.W.Frag} {H : Hp} : ∀ {c : Cnd} {v : V}, RepC K H c v → Dp K H v (encC c)
  | .cmp n o i, v, ⟨a, hv, h⟩ => by subst hv; exact .tup h (.cons (.str _) (.cons (.str _) (.cons (.str _) (.cons (.int _) .nil))))
  | .neg c, v, ⟨a, x, hv, h, h1⟩ => by subst hv; exact .tup h (.cons (.str _) (.cons (RepC.dpD h1) .nil))
  | .con c d, v, ⟨a, x, y, hv, h, h1, h2⟩ => by subst hv; exact .tup h (.cons (.str _) (.cons (RepC.dpD h1) (.cons (RepC.dpD h2) .nil)))
  | .dis c d, v, ⟨a, x, y, hv, h, h1, h2⟩ => by subst hv; exact .tup h (.cons (.str _) (.cons (RepC.dpD h1) (.cons (RepC.dpD h2) .nil)))
theorem RepP.dpD {K : PySem.W.Frag} {H : Hp} : ∀ {t : Pt} {v : V}, RepP K H t v → Dp K H v (encPt t)
  | .act n m, v, ⟨a, hv, h⟩ => by subst hv; exact .tup h (.cons (.str _) (.cons (.int _) (.cons (.str _) .nil)))
  | .sil n, v, ⟨a, hv, h⟩ => by subst hv; exact .tup h (.cons (.str _) (.cons (.int _) .nil))
  | .bin k n l r, v, ⟨a, x, y, hv, h, h1, h2⟩ => by subst hv; exact .tup h (.cons (.str _) (.cons (.int _) (.cons (RepP.dpD h1) (.cons (RepP.dpD h2) .nil))))
  | .wh n c t, v, ⟨a, x, y, hv, h, h1, h2⟩ => by subst hv; exact .tup h (.cons (.str _) (.cons (.int _) (.cons (RepC.dpD h1) (.cons (RepP.dpD h2) .nil))))
theorem strL {s : PySem.Str} (h : PyData.strOk s = true) : (PyData.str s).canLay0 = true := by
  simp only [PyData.canLay0]
  exact h
theorem encC_lay {ns : List PySem.Str} (hn : ∀ n ∈ ns, Nm 100 n) : ∀ c : Cnd, c.In ns → (encC c).canLay0 = true
  | .cmp n o i, h => by
    have h1 := strL (hn n h).ok
    have h2 : (PyData.str o.nm).canLay0 = true := by cases o <;> decide +kernel
    have h3 : (PyData.str "compare").canLay0 = true := by decide +kernel
    simp only [encC, PyData.canLay0, PyData.canLayAll0] at h1 h2 h3 ⊢
    rw [h1, h2, h3]
    rfl
  | .neg c, h => by
    have h1 := encC_lay hn c h
    have h3 : (PyData.str "not").canLay0 = true := by decide +kernel
    simp only [encC, PyData.canLay0, PyData.canLayAll0] at h3 ⊢
    rw [h1, h3]
    rfl
  | .con c d, h => by
    have h1 := encC_lay hn c h.1
    have h2 := encC_lay hn d h.2
    have h3 : (PyData.str "and").canLay0 = true := by decide +kernel
    simp only [encC, PyData.canLay0, PyData.canLayAll0] at h3 ⊢
    rw [h1, h2, h3]
    rfl
  | .dis c d, h => by
    have h1 := encC_lay hn c h.1
    have h2 := encC_lay hn d h.2
    have h3 : (PyData.str "or").canLay0 = true := by decide +kernel
    simp only [encC, PyData.canLay0, PyData.canLayAll0] at h3 ⊢
    rw [h1, h2, h3]
    rfl
theorem encC_depth : ∀ c : Cnd, (encC c).depth = c.dp + 1
  | .cmp n o i => by simp [encC, PyData.depth, PyData.depthAll, Cnd.dp]
  | .neg c => by simp [encC, PyData.depth, PyData.depthAll, Cnd.dp, encC_depth c]
  | .con c d => by
    simp only [encC, PyData.depth, PyData.depthAll, encC_depth c, encC_depth d, Cnd.dp]
    omega
  | .dis c d => by
    simp only [encC, PyData.depth, PyData.depthAll, encC_depth c, encC_depth d, Cnd.dp]
    omega
theorem encPt_lay {ns : List PySem.Str} (hn : ∀ n ∈ ns, Nm 100 n) : ∀ t : Pt, t.COk ns → (encPt t).canLay0 = true
  | .act n m, h => by
    have h1 := strL h.ok
    have h3 : (PyData.str "activity").canLay0 = true := by decide +kernel
    simp only [encPt, PyData.canLay0, PyData.canLayAll0] at h1 h3 ⊢
    rw [h1, h3]
    rfl
  | .sil n, h => by
    have h3 : (PyData.str "silent").canLay0 = true := by decide +kernel
    simp only [encPt, PyData.canLay0, PyData.canLayAll0] at h3 ⊢
    rw [h3]
    rfl
  | .bin k n l r, h => by
    have h1 := encPt_lay hn l h.1
    have h2 := encPt_lay hn r h.2
    have h3 : (PyData.str k.nm).canLay0 = true := by cases k <;> decide +kernel
    simp only [encPt, PyData.canLay0, PyData.canLayAll0] at h3 ⊢
    rw [h1, h2, h3]
    rfl
  | .wh n c t, h => by
    have h1 := encC_lay hn c h.1
    have h2 := encPt_lay hn t h.2.2
    have h3 : (PyData.str "when").canLay0 = true := by decide +kernel
    simp only [encPt, PyData.canLay0, PyData.canLayAll0] at h3 ⊢
    rw [h1, h2, h3]
    rfl
theorem encPt_depth {ns : List PySem.Str} : ∀ t : Pt, t.COk ns → (encPt t).depth ≤ t.dp + 6
  | .act n m, h => by simp [encPt, PyData.depth, PyData.depthAll]
  | .sil n, h => by simp [encPt, PyData.depth, PyData.depthAll]
  | .bin k n l r, h => by
    have h1 := encPt_depth l h.1
    have h2 := encPt_depth r h.2
    simp only [encPt, PyData.depth, PyData.depthAll, Pt.dp]
    omega
  | .wh n c t, h => by
    have h1 := encC_depth c
    have h2 := encPt_depth t h.2.2
    have h3 := h.2.1
    simp only [encPt, PyData.depth, PyData.depthAll, Pt.dp]
    omega
theorem encPt_shaped {ns : List PySem.Str} (hn : ∀ n ∈ ns, Nm 100 n) {t : Pt} (h : t.COk ns) (hd : t.dp ≤ 40) : SeqAt.shaped (encPt t) = true := by
  unfold SeqAt.shaped
  have h1 := encPt_depth t h
  rw [encPt_lay hn t h, Bool.true_and]
  exact decide_eq_true (by omega)
theorem encPts_shaped {ns : List PySem.Str} (hn : ∀ n ∈ ns, Nm 100 n) : ∀ {l : List Pt}, (∀ t ∈ l, t.COk ns ∧ t.dp ≤ 40) → PyData.canLayAll0 (l.map encPt) = true ∧ PyData.depthAll (l.map encPt) ≤ 46
  | [], _ => ⟨rfl, Nat.zero_le _⟩
  | t :: l, h => by
    obtain ⟨h1, h2⟩ := h t List.mem_cons_self
    obtain ⟨h3, h4⟩ := encPts_shaped hn fun z hz => h z (List.mem_cons_of_mem _ hz)
    have h5 := encPt_depth t h1
    constructor
    · simp only [List.map_cons, PyData.canLayAll0, encPt_lay hn t h1, h3, Bool.and_self]
    · simp only [List.map_cons, PyData.depthAll]
      omega
theorem encPtL_shaped {ns : List PySem.Str} (hn : ∀ n ∈ ns, Nm 100 n) {l : List Pt} (h : ∀ t ∈ l, t.COk ns ∧ t.dp ≤ 40) : SeqAt.shaped (.list (l.map encPt)) = true := by
  unfold SeqAt.shaped
  obtain ⟨h1, h2⟩ := encPts_shaped hn h
  simp only [PyData.canLay0, PyData.depth, h1, Bool.true_and]
  exact decide_eq_true (by omega)
theorem Rows.dpP {K : PySem.W.Frag} {H : Hp} : ∀ {xs : List V} {ts : List Pt}, Rows (RepP K H) xs ts → DpAll K H xs (ts.map encPt)
  | _, _, .nil => .nil
  | _, _, .cons a t => .cons (RepP.dpD a) (Rows.dpP t)
theorem encPt_kind (t : Pt) : ∃ xs, encPt t = .tuple (.str t.kind :: xs) := by cases t <;> exact ⟨_, rfl⟩
theorem eqv_kind {a b : Pt} (h : PyData.eqv (encPt a) (encPt b) = true) : a.kind = b.kind := by
  obtain ⟨xs, hx⟩ := encPt_kind a
  obtain ⟨ys, hy⟩ := encPt_kind b
  rw [hx, hy, eqv_tup, eqvA_cons, eqv_str, Bool.and_eq_true] at h
  exact eq_of_beq h.1
theorem parts_dp : ∀ (t : Pt), ∀ p ∈ t.parts, p.dp ≤ t.dp
  | .act n m, p, hp => by
    simp only [Pt.parts, List.mem_cons, List.not_mem_nil, or_false] at hp
    subst hp
    exact Nat.le_refl _
  | .sil n, p, hp => by
    simp only [Pt.parts, List.mem_cons, List.not_mem_nil, or_false] at hp
    subst hp
    exact Nat.le_refl _
  | .bin k n l r, p, hp => by
    simp only [Pt.parts, List.mem_cons, List.mem_append] at hp
    simp only [Pt.dp]
    rcases hp with rfl | hp | hp
    · exact Nat.le_refl _
    · have := parts_dp l p hp
      omega
    · have := parts_dp r p hp
      omega
  | .wh n c t, p, hp => by
    simp only [Pt.parts, List.mem_cons] at hp
    simp only [Pt.dp]
    rcases hp with rfl | hp
    · exact Nat.le_refl _
    · have := parts_dp t p hp
      omega
def isSp : Pt → Bool
  | .bin .seq _ _ _ => true
  | .wh _ _ _ => true
  | _ => false
theorem isSp_kind {t : Pt} (h : isSp t = true) : t.kind = "sequence" ∨ t.kind = "when" := by
  cases t with
  | act n m => cases h
  | sil n => cases h
  | wh n c t => exact .inr rfl
  | bin k n l r =>
    cases k with
    | seq => exact .inl rfl
    | cho => cases h
    | par => cases h
    | loop => cases h
/-- an edit that is meant for a node of the tree -/
def EdG (t : Pt) (e : Ek × Int) : Prop := ∃ p ∈ t.parts, p.num = e.2 ∧ (e.1 = .uno → p.kind = "sequence") ∧ (e.1 = .unc → p.kind = "when")
section
variable {P : Program} {w : World} {K : PySem.W.Frag} {mg : PySem.Str → Option Value} {base : Heap}
abbrev s_law_edits : Stmt := top 45
abbrev nm_law_edits : List PySem.Str := ["_law_tape_here", "_law_tree", "_law_most", "_law_nodes", "_law_special", "_law_edits_here", "_law_k", "_law_pool", "_law_kinds", "_law_edit", "_law_node"]
theorem sc_law_edits : FnScope nm_law_edits ["_law_tape_here", "_law_tree", "_law_most"] (defScope s_law_edits) := ⟨rfl, rfl, rfl, by decide +kernel, rfl, by decide +kernel, by decide +kernel⟩
def spEdits (K : PySem.W.Frag) : Sp := fun vs H Q _ => ∃ (tp c : Addr) (t : Pt) (x : V) (ns : List PySem.Str) (most : Nat), vs = [.ref tp, x, .int most] ∧ TapeOk tp c H ∧ RepP K H t x ∧ t.dp < 20 ∧ t.parts.length ≤ 1000 ∧ t.COk ns ∧ (∀ n ∈ ns, Nm 100 n) ∧ most ≤ 3 ∧
  ∀ p ys eds H', Dr tp c H H' → SqT K H' p ys → Rows (RepE K H') ys eds → eds.length ≤ most → (∀ e ∈ eds, EdG t e) → Q (.ref p) H'
theorem ok_edits (D : Dfn K mg "_law_edits" s_law_edits) (M : Mo K mg) (C_law_draw : Callee P w K mg base 1 "_law_draw" ["_law_tape_here", "_law_many"] spDraw) (C_law_parts : Callee P w K mg base 20 "_law_parts" ["_law_tree"] (spLParts K 20)) : Callee P w K mg base 21 "_law_edits" ["_law_tape_here", "_law_tree", "_law_most"] (spEdits K) := by
  refine D.ok (fun _ _ _ _ _ _ us hl => match us, hl with | [_, _, _], _ => rfl) sc_law_edits (fun vs H Q E h => ?_) (fun f cdv A outer s H vs Q E hr h => ?_)
  · obtain ⟨tp, c, t, x, ns, most, rfl, _⟩ := h
    rfl
  obtain ⟨tp, c, t, x, ns, most, rfl, ht, hx, hd, hpl, hcok, hns, hm3, q⟩ := h
  refine ⟨_, (pss_cons (ps_set (i := 3) sc_law_edits.nd rfl (by first | exact Or.inl rfl | exact Or.inr rfl) (pe_callC C_law_parts (hr.mono (by omega)) (by rfl) (pa_cons (pv 1) pa_nil)))
    (pss_cons (ps_setLc (i := 4) (own := [("_law_node", 10)]) rfl sc_law_edits.nd rfl rfl (sw_true rfl rfl rfl (by decide +kernel)) (pi_list (pv 3)) (blkOk_by (own := [("_law_node", 10)]) (N := nm_law_edits) (sc := defScope s_law_edits) (by decide +kernel)) (fun _ _ _ _ _ => (pg_name (i := 10) sc_law_edits.nd rfl (by first | exact Or.inl rfl | exact Or.inr rfl))) (fun _ _ _ _ _ => (pts_one (PW.pt (pw_or (pt_cmpR op_eq (pe_ix (ix_tupK (K := K) rfl) (pv 10) pe_int (fun _ _ => rfl)) pe_str (nomark _)) (pw_or1 (pt_cmpR op_eq (pe_ix (ix_tupK (K := K) rfl) (pv 10) pe_int (fun _ _ => rfl)) pe_str (nomark _))))))) (fun _ _ _ _ _ => (pv 10)))
    (pss_cons (ps_set (i := 5) sc_law_edits.nd rfl (by first | exact Or.inl rfl | exact Or.inr rfl) (pe_lst pa_nil))
    (pss_cons (ps_for PassesOwn.never rfl (pi_range1 (by rfl) M.range (pa_cons (pe_callC C_law_draw (hr.mono (by omega)) (by rfl) (pa_cons (pv 0) (pa_cons (pe_op op_add (pv 2) pe_int) pa_nil))) pa_nil)) (pg_name (i := 6) sc_law_edits.nd rfl (by first | exact Or.inl rfl | exact Or.inr rfl)) (pss_cons (ps_set (i := 7) sc_law_edits.nd rfl (by first | exact Or.inl rfl | exact Or.inr rfl) (pe_ix ix_list (pe_lst (pa_cons (pv 3) (pa_cons (pv 4) (pa_cons (pv 4) pa_nil)))) (pe_op op_mul (pe_callC C_law_draw (hr.mono (by omega)) (by rfl) (pa_cons (pv 0) (pa_cons pe_int pa_nil))) (pe_callTy call_int1 (by rfl) M.int_ (by decide +kernel) (pa_cons (pe_cmpR op_gt (pe_callB call_len_seq (by rfl) M.len PySem.boot_len (pa_cons (pv 4) pa_nil)) pe_int (nomark _)) pa_nil))) (fun _ _ => rfl)))
    (pss_cons (ps_set (i := 10) sc_law_edits.nd rfl (by first | exact Or.inl rfl | exact Or.inr rfl) (pe_ix ix_list (pv 7) (pe_callC C_law_draw (hr.mono (by omega)) (by rfl) (pa_cons (pv 0) (pa_cons (pe_callB call_len_seq (by rfl) M.len PySem.boot_len (pa_cons (pv 7) pa_nil)) pa_nil))) (fun _ _ => rfl)))
    (pss_cons (ps_set (i := 8) sc_law_edits.nd rfl (by first | exact Or.inl rfl | exact Or.inr rfl) (pe_lst (pa_cons pe_str (pa_cons pe_str pa_nil))))
    (pss_cons (ps_if (pt_cmpR (op_inD (hu_D hr)) (pv 10) (pv 4) (by rfl)) (pss_one (ps_set (i := 8) sc_law_edits.nd rfl (by first | exact Or.inl rfl | exact Or.inr rfl) (pe_op op_cat (pe_op op_rep (pe_lst (pa_cons (pe_ix ix_list (pe_lst (pa_cons pe_str (pa_cons pe_str pa_nil))) (pe_callTy call_int1 (by rfl) M.int_ (by decide +kernel) (pa_cons (pe_cmpR op_eq (pe_ix ix_tup (pv 10) pe_int (fun _ _ => rfl)) pe_str (nomark _)) pa_nil)) (fun _ _ => rfl)) pa_nil)) pe_int) (pv 8)))) pss_nil)
    (pss_cons (ps_set (i := 9) sc_law_edits.nd rfl (by first | exact Or.inl rfl | exact Or.inr rfl) (pe_tup (pa_cons (pe_ix ix_list (pv 8) (pe_callC C_law_draw (hr.mono (by omega)) (by rfl) (pa_cons (pv 0) (pa_cons (pe_callB call_len_seq (by rfl) M.len PySem.boot_len (pa_cons (pv 8) pa_nil)) pa_nil))) (fun _ _ => rfl)) (pa_cons (pe_ix ix_tup (pv 10) pe_int (fun _ _ => rfl)) (pa_cons (pe_ix ix_list (pe_lst (pa_cons pe_int (pa_cons pe_int (pa_cons pe_int (pa_cons pe_int (pa_cons pe_int (pa_cons pe_int (pa_cons pe_int pa_nil)))))))) (pe_callC C_law_draw (hr.mono (by omega)) (by rfl) (pa_cons (pv 0) (pa_cons pe_int pa_nil))) (fun _ _ => rfl)) pa_nil)))))
    (pss_cons (ps_if (PW.pt (pw_and (pt_truth (pv 5) (by intro _; rfl)) (pw_and1 (pt_cmpR op_eq (pe_callC C_law_draw (hr.mono (by omega)) (by rfl) (pa_cons (pv 0) (pa_cons pe_int pa_nil))) pe_int (nomark _))))) (pss_one (ps_set (i := 9) sc_law_edits.nd rfl (by first | exact Or.inl rfl | exact Or.inr rfl) (pe_op op_catA (pe_slice sl_tupA (pe_ix ix_list (pv 5) pe_int (fun _ _ => rfl)) po_none (po_some pe_int)) (pe_slice sl_tupA (pv 9) (po_some pe_int) po_none)))) pss_nil)
    (pss_one (ps_expr (pe_bm PySem.F.plainAttrs_list PySem.F.slot_list_append PySem.F.type_list_append mt_append (pv 5) (pa_cons (pv 9) pa_nil)))))))))))
    (pss_one (ps_ret (pe_callTy call_tuple_of (by rfl) M.tuple_ (by decide +kernel) (pa_cons (pv 5) pa_nil)))))))), ?_⟩
  refine ⟨_, rfl, t, x, rfl, hx, hd, hpl, fun nl nys H1 e1 nnl hnl hnys => ?_⟩
  have hlen := hnys.len
  have nlt := ht.ne_of nnl
  -- the special ones
  refine ⟨_, rfl, nl, rfl, ⟨_, lstS hnl⟩, fun sl nsl => ?_⟩
  refine lc_filter (bs := t.parts) (RepP K) (stays_P K) isSp rfl rfl (lstS hnl) hnys nsl (sz (by omega)) (fun _ => rfl) (by exact (by decide : (10 : Nat) < 11)) (fun i z nd Hc hni hF eH Q1 hQ => ?_) (fun H2 sys e2 hsl hsys => ?_)
  · have z := hQ Hc (Same.refl Hc)
    cases nd with
    | act n m =>
      obtain ⟨a, rfl, ha⟩ := hF
      exact ⟨_, rfl, a, _, _, _, rfl, rfl, ha, at0, rfl, _, rfl, ifF (by decide +kernel) ⟨_, rfl, a, _, _, _, rfl, rfl, ha, at0, rfl, _, rfl, z⟩⟩
    | sil n =>
      obtain ⟨a, rfl, ha⟩ := hF
      exact ⟨_, rfl, a, _, _, _, rfl, rfl, ha, at0, rfl, _, rfl, ifF (by decide +kernel) ⟨_, rfl, a, _, _, _, rfl, rfl, ha, at0, rfl, _, rfl, z⟩⟩
    | wh n cn t' =>
      obtain ⟨a, u, v, rfl, ha, hu, hv⟩ := hF
      exact ⟨_, rfl, a, _, _, _, rfl, rfl, ha, at0, rfl, _, rfl, ifF (by decide +kernel) ⟨_, rfl, a, _, _, _, rfl, rfl, ha, at0, rfl, _, rfl, z⟩⟩
    | bin k n l r =>
      obtain ⟨a, u, v, rfl, ha, hu, hv⟩ := hF
      refine ⟨_, rfl, a, _, _, _, rfl, rfl, ha, at0, rfl, _, rfl, ?_⟩
      cases k with
      | seq => exact ifT (by decide +kernel) z
      | cho => exact ifF (by decide +kernel) ⟨_, rfl, a, _, _, _, rfl, rfl, ha, at0, rfl, _, rfl, z⟩
      | par => exact ifF (by decide +kernel) ⟨_, rfl, a, _, _, _, rfl, rfl, ha, at0, rfl, _, rfl, z⟩
      | loop => exact ifF (by decide +kernel) ⟨_, rfl, a, _, _, _, rfl, rfl, ha, at0, rfl, _, rfl, z⟩
  have e12 := e1.trans e2
  have slt : sl ≠ tp := (ht.same e1).ne_of nsl
  have hnl2 := e2 _ _ hnl
  have hnys2 := Rows.same (stays_P K) e2 hnys
  have d2 := Dr.of ht e12
  have hsle := List.length_filter_le isSp t.parts
  have hslen := hsys.len
  have hspm : ∀ z ∈ t.parts.filter isSp, z ∈ t.parts ∧ isSp z = true := fun z hz => List.mem_filter.mp hz
  generalize t.parts.filter isSp = spec at hsys hsle hslen hspm
  -- the edits
  refine ⟨Nat.zero_le _, fun el nel => ?_⟩
  have elt := d2.tape.ne_of nel
  have nelH := d2.free nel
  have e3 := same_upd (o := .lst []) nel
  have hel3 : upd H2 el (.lst []) el = some (.lst []) := upd_same
  have nle : nl ≠ el := ne_of_none hnl2 nel
  have sle : sl ≠ el := ne_of_none hsl nel
  generalize upd H2 el (.lst []) = H3 at e3 hel3
  have d3 := d2.same e3
  have hmost : (most : Int) + 1 ≤ 3000000 := by omega
  refine ⟨_, rfl, _, rfl, _, _, rfl, rfl, tp, c, _, rfl, d3.tape, by omega, hmost, fun r H4 h0 h1 d4 => ⟨_, rfl, by omega, by omega, ?_⟩⟩
  have d34' := (Dr.of d2.tape e3).trans d4
  have hrn : r.toNat ≤ most := by omega
  generalize r.toNat = rn at hrn
  refine for_range (fun i σ H5 => ∃ s6 s7 s8 s9 s10 ees eds, σ = [some (.ref tp), some x, some (.int most), some (.ref nl), some (.ref sl), some (.ref el), s6, s7, s8, s9, s10] ∧ Dr tp c H2 H5 ∧ H5 nl = some (.lst nys) ∧ H5 sl = some (.lst sys) ∧ H5 el = some (.lst ees) ∧ Rows (RepE K H5) ees eds ∧ eds.length = i ∧ ∀ e ∈ eds, EdG t e)
    ⟨_, _, _, _, _, [], [], rfl, d34', d4.keep nl _ nlt (e3 _ _ hnl2), d4.keep sl _ slt (e3 _ _ hsl), d4.keep el _ elt hel3, .nil, rfl, fun e he => by cases he⟩ (fun i σ H5 hi ⟨s6, s7, s8, s9, s10, ees, eds, es, d5, hnl5, hsl5, hel5, hees, hel, hgood⟩ => ?_) (fun σ H5 ⟨s6, s7, s8, s9, s10, ees, eds, es, d5, hnl5, hsl5, hel5, hees, hel, hgood⟩ => ?_)
  · subst es
    have tk5 := d5.tk d2.tape
    have hnys5 := Rows.te (stays_P K) tk5 hnys2
    have hsys5 := Rows.te (stays_P K) tk5 hsys
    have hel3' : eds.length ≤ 3 := by omega
    have heel := hees.len
    -- put behind
    have app : ∀ (pe : Addr) (ek : Ek) (num : Int) (w' : V) (H9 : Hp) (s6 s7 s8 s10 : Option V) (D : Ends), (∀ H' s6 s7 s8 s9 s10 ees eds, Dr tp c H2 H' → H' nl = some (.lst nys) → H' sl = some (.lst sys) → H' el = some (.lst ees) → Rows (RepE K H') ees eds → eds.length = i + 1 → (∀ e ∈ eds, EdG t e) → D.nx [some (.ref tp), some x, some (.int most), some (.ref nl), some (.ref sl), some (.ref el), s6, s7, s8, s9, s10] H') → Dr tp c H5 H9 → SqT K H9 pe [.str ek.nm, .int num, w'] → EdG t (ek, num) →
        tDrop (tBM K "list" rAppend (tVar 5) (tCons (tVar 9) tNil)) D [some (.ref tp), some x, some (.int most), some (.ref nl), some (.ref sl), some (.ref el), s6, s7, s8, some (.ref pe), s10] H9 := by
      intro pe ek num w' H9 s6 s7 s8 s10 D hD d9 hpe hg
      have hel9 := d9.keep el _ elt hel5
      have t1 := te_lst (o := .lst (ees ++ [V.ref pe])) hel9
      refine ⟨_, rfl, .inl ⟨rfl, _, lstS hel9⟩, _, rfl, el, ees, _, rfl, rfl, hel9, szl (by omega), ?_⟩
      refine hD _ _ _ _ _ _ (ees ++ [V.ref pe]) (eds ++ [(ek, num)]) ((d5.trans d9).mut d2.tape nel) ?_ ?_ upd_same ((Rows.te (stays_E K) ((d9.tk d5.tape).trans t1) hees).append (.one ⟨pe, _, rfl, t1.sq hpe⟩)) (by rw [List.length_append, hel]; rfl) (fun e he => ?_)
      · rw [upd_ne nle]
        exact d9.keep nl _ nlt hnl5
      · rw [upd_ne sle]
        exact d9.keep sl _ slt hsl5
      · rcases List.mem_append.mp he with h | h
        · exact hgood e h
        · rw [List.mem_singleton.mp h]
          exact hg
    -- from the kinds on
    have cont : ∀ (kl : Addr) (kxs : List V) (nd : Pt) (na : Addr) (nx : List V) (H6 : Hp) (s6 s7 s9 : Option V) (D : Ends), (∀ H' s6 s7 s8 s9 s10 ees eds, Dr tp c H2 H' → H' nl = some (.lst nys) → H' sl = some (.lst sys) → H' el = some (.lst ees) → Rows (RepE K H') ees eds → eds.length = i + 1 → (∀ e ∈ eds, EdG t e) → D.nx [some (.ref tp), some x, some (.int most), some (.ref nl), some (.ref sl), some (.ref el), s6, s7, s8, s9, s10] H') → Dr tp c H5 H6 → H6 kl = some (.lst kxs) → kl ≠ tp → kxs ≠ [] → kxs.length ≤ 4 → (∀ z ∈ kxs, ∃ e : Ek, z = .str e.nm ∧ (e = .uno → nd.kind = "sequence") ∧ (e = .unc → nd.kind = "when")) → nd ∈ t.parts → SqT K H6 na (.str nd.kind :: .int nd.num :: nx) →
        (tSeq (tAsg (tTup (tCons (tOp (rIxL K) (tVar 8) (tCall spDraw [] E0 (tCons (tVar 0) (tCons (tCB (fun xs H Q => ∃ p ys, xs = [.ref p] ∧ (SqL K H p ys ∨ SqT K H p ys) ∧ Q (.int ys.length) H) (tCons (tVar 8) tNil)) tNil)))) (tCons (tOp (rIxT K) (tVar 10) (tC (.int 1))) (tCons (tOp (rIxL K) (tLst (tCons (tC (.int 1)) (tCons (tC (.int 2)) (tCons (tC (.int 3)) (tCons (tC (.int 4)) (tCons (tC (.int 6)) (tCons (tC (.int 9)) (tCons (tC (.int 1000)) tNil)))))))) (tCall spDraw [] E0 (tCons (tVar 0) (tCons (tC (.int 7)) tNil)))) tNil)))) (gName 9))
          (tSeq (tIfS (tAnd (fun σ H Q => tVar 5 σ H fun x H' => ∃ k, TruV K x H' k ∧ Q k H') (tTest (tOp rEq (tCall spDraw [] E0 (tCons (tVar 0) (tCons (tC (.int 8)) tNil))) (tC (.int 0))))) (tAsg (tOp (rCatA K) (tSl (rSlA K) (tOp (rIxL K) (tVar 5) (tC (.int 0))) tNoPart (tPart (tC (.int 2)))) (tSl (rSlA K) (tVar 9) (tPart (tC (.int 2))) tNoPart)) (gName 9)) tNext)
            (tDrop (tBM K "list" rAppend (tVar 5) (tCons (tVar 9) tNil))))) D [some (.ref tp), some x, some (.int most), some (.ref nl), some (.ref sl), some (.ref el), s6, s7, some (.ref kl), s9, some (.ref na)] H6 := by
      intro kl kxs nd na nx H6 s6 s7 s9 D hD d6 hkl hkt hkne hk4 hkk hndm hna
      have hkp : 0 < kxs.length := List.length_pos_iff.mpr hkne
      refine ⟨_, rfl, _, rfl, _, rfl, kl, _, rfl, .inl (lstS hkl), tp, c, _, rfl, d6.tape, by omega, by omega, fun r H7 h0 h1 d7 => ?_⟩
      obtain ⟨v, hv, hmem⟩ := pickAt (xs := kxs) h0 h1
      obtain ⟨ek, rfl, hu1, hu2⟩ := hkk v hmem
      refine ⟨kl, _, r, _, rfl, rfl, lstS (d7.keep kl _ hkt hkl), hv, _, rfl, na, _, _, _, rfl, rfl, d7.seq d6.tape hna, at1, ?_⟩
      refine ⟨len_le (by simp only [List.length_cons, List.length_nil]; omega), fun p7 np7 => ⟨_, rfl, tp, c, 7, rfl, d7.tape.same (same_upd np7), by decide, by decide, fun r8 H8 h0' h1' d8 => ?_⟩⟩
      have d78 := (Dr.new (o := .lst [V.int 1, .int 2, .int 3, .int 4, .int 6, .int 9, .int 1000]) d7.tape np7).trans d8
      obtain ⟨wv, hwv, _⟩ := pickAt (xs := [V.int 1, .int 2, .int 3, .int 4, .int 6, .int 9, .int 1000]) h0' h1'
      refine ⟨p7, _, r8, wv, rfl, rfl, lstS (d8.keep p7 _ (d7.tape.ne_of np7) upd_same), hwv, tup3, fun pe npe => ?_⟩
      have d68 := d7.trans d78
      have e9 := same_upd (o := .tup [V.str ek.nm, .int nd.num, wv]) npe
      have hpe : SqT K (upd H8 pe (.tup [V.str ek.nm, .int nd.num, wv])) pe [.str ek.nm, .int nd.num, wv] := tupS upd_same
      have d59 := (d6.trans d68).same e9
      generalize upd H8 pe (.tup [V.str ek.nm, .int nd.num, wv]) = H9 at hpe d59
      have hg : EdG t (ek, nd.num) := ⟨nd, hndm, rfl, hu1, hu2⟩
      have hel9 := d59.keep el _ elt hel5
      refine ⟨_, rfl, _, .inl ⟨_, lstS hel9, rfl⟩, ?_⟩
      cases hees with
      | nil => exact iteF (app pe ek _ wv H9 _ _ _ _ D hD d59 hpe hg)
      | @cons v0 e0 vs' es' hA hB =>
        refine iteT ⟨_, rfl, tp, c, 8, rfl, d59.tape, by decide, by decide, fun rr H10 h0'' h1'' d10 => ⟨rfl, _, rfl, ?_⟩⟩
        have d510 := d59.trans d10
        have hpe10 := d10.seq d59.tape hpe
        by_cases hr0 : rr = 0
        · refine ifT (by rw [hr0]) ?_
          obtain ⟨a0, z0, rfl, ha0⟩ := hA
          have hg0 := hgood e0 List.mem_cons_self
          have ha10 := d510.seq d5.tape ha0
          refine ⟨_, rfl, el, _, _, _, rfl, rfl, lstS (d10.keep el _ elt hel9), at0, ?_⟩
          unfold tNoPart
          refine ⟨2, rfl, ?_⟩
          refine slT (zs := [V.str e0.1.nm, .int e0.2]) ha10 rfl fun pA H11 e11 hpA => ?_
          refine ⟨_, rfl, 2, rfl, ?_⟩
          refine slT (zs := [wv]) (same_tup e11 hpe10) rfl fun pB H12 e12 hpB => ?_
          refine catA (same_tup e12 hpA) hpB (len_le (by simp only [List.length_cons, List.length_nil]; omega)) fun pC H13 e13 hpC => ?_
          exact app pC e0.1 e0.2 wv H13 _ _ _ _ D hD (((d510.same e11).same e12).same e13) hpC hg0
        · exact ifF (by intro z; cases z; exact hr0 rfl) (app pe ek _ wv H10 _ _ _ _ D hD d510 hpe10 hg)
    have hD0 : ∀ H' s6 s7 s8 s9 s10 ees eds, Dr tp c H2 H' → H' nl = some (.lst nys) → H' sl = some (.lst sys) → H' el = some (.lst ees) → Rows (RepE K H') ees eds → eds.length = i + 1 → (∀ e ∈ eds, EdG t e) →
        ∃ z6 z7 z8 z9 z10 ees' eds', [some (.ref tp), some x, some (.int most), some (.ref nl), some (.ref sl), some (.ref el), s6, s7, s8, s9, s10] = [some (.ref tp), some x, some (.int most), some (.ref nl), some (.ref sl), some (.ref el), z6, z7, z8, z9, z10] ∧ Dr tp c H2 H' ∧ H' nl = some (.lst nys) ∧ H' sl = some (.lst sys) ∧ H' el = some (.lst ees') ∧ Rows (RepE K H') ees' eds' ∧ eds'.length = i + 1 ∧ ∀ e ∈ eds', EdG t e :=
      fun H' s6 s7 s8 s9 s10 ees eds a1 a2 a3 a4 a5 a6 a7 => ⟨s6, s7, s8, s9, s10, ees, eds, rfl, a1, a2, a3, a4, a5, a6, a7⟩
    -- the pool
    refine ⟨_, rfl, _, rfl, _, rfl, tup3, fun pl npl => ⟨_, rfl, tp, c, 3, rfl, d5.tape.same (same_upd npl), by decide, by decide, fun r6 H6 h06 h16 d6 => ?_⟩⟩
    have d56 := (Dr.new (o := .lst [V.ref nl, .ref sl, .ref sl]) d5.tape npl).trans d6
    have hpl6 := d6.keep pl _ (d5.tape.ne_of npl) upd_same
    have hsl6 := d56.keep sl _ slt hsl5
    have hnl6 := d56.keep nl _ nlt hnl5
    obtain ⟨pa, pxs, pts, hpa, hpx, hpr, hpne, hpsub, hpat, hpl1⟩ : ∃ pa pxs pts, atI [V.ref nl, .ref sl, .ref sl] (r6 * (if decide ((0 : Int) < sys.length) = true then 1 else 0)) = some (.ref pa) ∧ H6 pa = some (.lst pxs) ∧ Rows (RepP K H6) pxs pts ∧ pts ≠ [] ∧ (∀ z ∈ pts, z ∈ t.parts) ∧ pa ≠ tp ∧ pts.length ≤ 1000 := by
      have tk6 := d56.tk d5.tape
      have hn : (∃ pa pxs pts, (.ref nl : V) = .ref pa ∧ H6 pa = some (.lst pxs) ∧ Rows (RepP K H6) pxs pts ∧ pts ≠ [] ∧ (∀ z ∈ pts, z ∈ t.parts) ∧ pa ≠ tp ∧ pts.length ≤ 1000) := ⟨nl, nys, t.parts, rfl, hnl6, Rows.te (stays_P K) tk6 hnys5, fun z => by have := t.ne; rw [z] at this; exact absurd this (by decide), fun z hz => hz, nlt, hpl⟩
      by_cases hsp : spec = []
      · have hs0 : sys.length = 0 := by rw [hslen, hsp]; rfl
        rw [hs0, show decide ((0 : Int) < ((0 : Nat) : Int)) = false by decide, if_neg Bool.false_ne_true, Int.mul_zero]
        obtain ⟨pa, pxs, pts, e, hh⟩ := hn
        exact ⟨pa, pxs, pts, by rw [← e]; exact at0, hh⟩
      · have hs0 : 0 < sys.length := by
          rw [hslen]
          exact List.length_pos_iff.mpr hsp
        rw [decide_eq_true (by omega), if_pos rfl, Int.mul_one]
        obtain ⟨v, hv, hmem⟩ := pickAt (xs := [V.ref nl, .ref sl, .ref sl]) h06 h16
        have hs : (∃ pa pxs pts, (.ref sl : V) = .ref pa ∧ H6 pa = some (.lst pxs) ∧ Rows (RepP K H6) pxs pts ∧ pts ≠ [] ∧ (∀ z ∈ pts, z ∈ t.parts) ∧ pa ≠ tp ∧ pts.length ≤ 1000) := ⟨sl, sys, spec, rfl, hsl6, Rows.te (stays_P K) tk6 hsys5, hsp, fun z hz => (hspm z hz).1, slt, by omega⟩
        simp only [List.mem_cons, List.not_mem_nil, or_false] at hmem
        rcases hmem with h | h | h
        · obtain ⟨pa, pxs, pts, e, hh⟩ := hn
          exact ⟨pa, pxs, pts, by rw [hv, h, e], hh⟩
        · obtain ⟨pa, pxs, pts, e, hh⟩ := hs
          exact ⟨pa, pxs, pts, by rw [hv, h, e], hh⟩
        · obtain ⟨pa, pxs, pts, e, hh⟩ := hs
          exact ⟨pa, pxs, pts, by rw [hv, h, e], hh⟩
    refine ⟨_, rfl, sl, sys, rfl, .inl (lstS hsl6), _, _, rfl, rfl, .inr ⟨_, rfl, _, _, rfl, rfl, .inl ⟨by omega, by omega⟩, pl, _, _, _, rfl, rfl, lstS hpl6, hpa, ?_⟩⟩
    -- the node
    have hplen := hpr.len
    have hpp : 0 < pts.length := List.length_pos_iff.mpr hpne
    refine ⟨_, rfl, _, rfl, _, rfl, pa, pxs, rfl, .inl (lstS hpx), tp, c, _, rfl, d6.tape, by omega, by omega, fun r7 H7 h07 h17 d7 => ?_⟩
    obtain ⟨vn, hvn, hnm⟩ := pickAt (xs := pxs) h07 h17
    have hpr7 := Rows.te (stays_P K) (d7.tk d6.tape) hpr
    obtain ⟨nd, hndm, hnd⟩ : ∃ nd ∈ pts, RepP K H7 nd vn := by
      obtain ⟨j, hj⟩ := List.mem_iff_getElem?.mp hnm
      obtain ⟨b, hb, hF⟩ := hpr7.get hj
      exact ⟨b, List.mem_of_getElem? hb, hF⟩
    have hndp := hpsub nd hndm
    refine ⟨pa, pxs, r7, vn, rfl, rfl, lstS (d7.keep pa _ hpat hpx), hvn, ?_⟩
    have d57 := d56.trans d7
    obtain ⟨na, nx, rfl, hna⟩ := hnd.two
    -- the kinds
    refine ⟨tup2, fun kl nkl => ?_⟩
    have e8 := same_upd (o := .lst [V.str "optional", .str "repeatable"]) nkl
    have hkl8 : upd H7 kl (.lst [V.str "optional", .str "repeatable"]) kl = some (.lst [V.str "optional", .str "repeatable"]) := upd_same
    have klt := d57.tape.ne_of nkl
    generalize upd H7 kl (.lst [V.str "optional", .str "repeatable"]) = H8 at e8 hkl8
    have d58 := d57.same e8
    have hna8 := same_tup e8 hna
    have hnd8 := hnd.same e8
    have hsys8 := Rows.te (stays_P K) (d58.tk d5.tape) hsys5
    have hsl8 := d58.keep sl _ slt hsl5
    have hkk0 : ∀ z ∈ [V.str "optional", .str "repeatable"], ∃ e : Ek, z = .str e.nm ∧ (e = .uno → nd.kind = "sequence") ∧ (e = .unc → nd.kind = "when") := by
      intro z hz
      simp only [List.mem_cons, List.not_mem_nil, or_false] at hz
      rcases hz with rfl | rfl
      · exact ⟨.opt, rfl, fun h => (Ek.noConfusion h : False).elim, fun h => (Ek.noConfusion h : False).elim⟩
      · exact ⟨.rep, rfl, fun h => (Ek.noConfusion h : False).elim, fun h => (Ek.noConfusion h : False).elim⟩
    have hck := cok_parts t hcok nd hndp
    have hdk := parts_dp t nd hndp
    refine ⟨_, rfl, _, rfl, encPt nd, spec.map encPt, hnd8.dpD, .lst (lstS hsl8) hsys8.dpP, encPt_shaped hns hck (by omega), encPtL_shaped hns (fun z hz => ⟨cok_parts t hcok z (hspm z hz).1, by have := parts_dp t z (hspm z hz).1; omega⟩), _, rfl, ifB (fun hin => ?_) (fun hin => ?_)⟩
    · obtain ⟨z, hz, hze⟩ := List.any_eq_true.mp hin
      obtain ⟨sp, hsp, rfl⟩ := List.mem_map.mp hz
      have hkind : nd.kind = "sequence" ∨ nd.kind = "when" := by
        rw [← eqv_kind hze]
        exact isSp_kind (hspm sp hsp).2
      refine ⟨tup2, fun p1 np1 => ⟨_, rfl, na, _, _, _, rfl, rfl, same_tup (same_upd np1) hna8, at0, rfl, ?_⟩⟩
      obtain ⟨ek, hat, hu1, hu2⟩ : ∃ ek : Ek, atI [V.str "unordered", .str "unconditional"] (if decide (V.str nd.kind = V.str "when") = true then 1 else 0) = some (.str ek.nm) ∧ (ek = .uno → nd.kind = "sequence") ∧ (ek = .unc → nd.kind = "when") := by
        rcases hkind with h | h
        · rw [h, show decide (V.str ("sequence" : PySem.Str) = V.str "when") = false by decide +kernel, if_neg Bool.false_ne_true]
          exact ⟨.uno, rfl, fun _ => rfl, fun h => (Ek.noConfusion h : False).elim⟩
        · rw [h, decide_eq_true rfl, if_pos rfl]
          exact ⟨.unc, rfl, fun h => (Ek.noConfusion h : False).elim, fun _ => rfl⟩
      refine .inr ⟨_, rfl, p1, _, _, _, rfl, rfl, lstS upd_same, hat, one_le (.inl rfl), fun p2 np2 => ⟨p2, 2, [V.str ek.nm], rfl, rfl, upd_same, by decide, by decide, len_le (by show 1 * 2 ≤ 8; decide), fun p3 np3 => ?_⟩⟩
      have e9 := (same_upd (o := .lst [V.str "unordered", .str "unconditional"]) np1).trans ((same_upd (o := .lst [V.str ek.nm]) np2).trans (same_upd (o := .lst (List.replicate (2 : Int).toNat [V.str ek.nm]).flatten) np3))
      refine ⟨_, rfl, ?_⟩
      refine catL (xs := [V.str ek.nm, .str ek.nm]) (ys := [V.str "optional", .str "repeatable"]) upd_same (e9 _ _ hkl8) (len_le (by simp only [List.length_cons, List.length_nil]; omega)) fun p4 H10 e10 np4 hp4 => ?_
      have e810 := e9.trans e10
      have d510 := d58.same e810
      have p4t : p4 ≠ tp := (d58.same e9).tape.ne_of np4
      refine cont p4 _ nd na nx H10 _ _ _ _ hD0 d510 hp4 p4t (by simp) (by simp) (fun z hz => ?_) hndp (same_tup e810 hna8)
      simp only [List.cons_append, List.nil_append, List.mem_cons, List.not_mem_nil, or_false] at hz
      rcases hz with rfl | rfl | rfl | rfl
      · exact ⟨ek, rfl, hu1, hu2⟩
      · exact ⟨ek, rfl, hu1, hu2⟩
      · exact hkk0 _ List.mem_cons_self
      · exact hkk0 _ (List.mem_cons_of_mem _ List.mem_cons_self)
    · exact cont kl _ nd na nx H8 _ _ _ _ hD0 d58 hkl8 klt (by simp) (by simp) hkk0 hndp hna8
  · subst es
    refine ⟨_, rfl, el, ees, rfl, .inl ⟨lstS hel5, fun l nl => ?_⟩⟩
    exact q l ees eds _ ((d2.trans d5).same (same_upd nl)) (tupS upd_same) (Rows.same (stays_E K) (same_upd nl) hees) (by omega) hgood
end
end Tf

/-! Bounds: the rests that are met are few and small. -/
namespace Tf
open PySem PySem.Spec PyProof.Rows L2
/-- what can be left -/
def PD : R → List R
  | .step _ => [.done]
  | .done => []
  | .bin .cho a b => PD a ++ PD b
  | .bin .seq a b => (PD a).map (fun p => joined .seq p b) ++ PD b
  | .bin .par a b => (a :: PD a).flatMap fun p => (b :: PD b).map fun q => joined .par p q
  | .bin .loop a b => (PD a).map (fun p => joined .seq p (again a b)) ++ (PD b).map fun p => joined .seq p (.bin .loop a b)
theorem joined_done_l (k : Kd) (hk : k = .seq ∨ k = .par) (r : R) : joined k .done r = r := by
  unfold joined
  rw [if_pos hk, if_pos rfl]
theorem joined_done_r (k : Kd) (hk : k = .seq ∨ k = .par) (l : R) : joined k l .done = l := by
  unfold joined
  rw [if_pos hk]
  by_cases h : l = .done
  · rw [if_pos h, h]
  · rw [if_neg h, if_pos rfl]
/-- a joined rest goes on as the bare one -/
theorem after_joined {k : Kd} {l r x : R} {s : Int} (h : x ∈ afterStep (joined k l r) s) : x ∈ afterStep (.bin k l r) s := by
  by_cases hk : k = .seq ∨ k = .par
  · by_cases hl : l = .done
    · subst hl
      rw [joined_done_l k hk] at h
      rcases hk with rfl | rfl
      · simp only [afterStep, canEnd, if_true, List.map_nil, List.nil_append]
        exact mem_ded.mpr h
      · simp only [afterStep, List.map_nil, List.nil_append]
        refine mem_ded.mpr (List.mem_map.mpr ⟨x, h, joined_done_l _ (.inr rfl) x⟩)
    · by_cases hr : r = .done
      · subst hr
        rw [joined_done_r k hk] at h
        rcases hk with rfl | rfl
        · simp only [afterStep]
          exact mem_ded.mpr (List.mem_append_left _ (List.mem_map.mpr ⟨x, h, joined_done_r _ (.inl rfl) x⟩))
        · simp only [afterStep]
          exact mem_ded.mpr (List.mem_append_left _ (List.mem_map.mpr ⟨x, h, joined_done_r _ (.inr rfl) x⟩))
      · unfold joined at h
        rw [if_pos hk, if_neg hl, if_neg hr] at h
        exact h
  · unfold joined at h
    rw [if_neg hk] at h
    exact h
theorem mem_seq {a b x : R} {s : Int} : x ∈ afterStep (.bin .seq a b) s ↔ (∃ p ∈ afterStep a s, x = joined .seq p b) ∨ (canEnd a = true ∧ x ∈ afterStep b s) := by
  simp only [afterStep, mem_ded, List.mem_append, List.mem_map]
  constructor
  · rintro (⟨p, hp, rfl⟩ | h)
    · exact .inl ⟨p, hp, rfl⟩
    · split at h
      · rename_i hc
        exact .inr ⟨hc, h⟩
      · cases h
  · rintro (⟨p, hp, rfl⟩ | ⟨hc, h⟩)
    · exact .inl ⟨p, hp, rfl⟩
    · exact .inr (by rw [if_pos hc]; exact h)
theorem mem_loop {a b x : R} {s : Int} : x ∈ afterStep (.bin .loop a b) s ↔ (∃ p ∈ afterStep a s, x = joined .seq p (again a b)) ∨ (canEnd a = true ∧ ∃ p ∈ afterStep b s, x = joined .seq p (.bin .loop a b)) := by
  simp only [afterStep, mem_ded, List.mem_append, List.mem_map]
  constructor
  · rintro (⟨p, hp, rfl⟩ | h)
    · exact .inl ⟨p, hp, rfl⟩
    · split at h
      · rename_i hc
        obtain ⟨p, hp, rfl⟩ := List.mem_map.mp h
        exact .inr ⟨hc, p, hp, rfl⟩
      · cases h
  · rintro (⟨p, hp, rfl⟩ | ⟨hc, p, hp, rfl⟩)
    · exact .inl ⟨p, hp, rfl⟩
    · exact .inr (by rw [if_pos hc]; exact List.mem_map.mpr ⟨p, hp, rfl⟩)
theorem mem_cho {a b x : R} {s : Int} : x ∈ afterStep (.bin .cho a b) s ↔ x ∈ afterStep a s ∨ x ∈ afterStep b s := by
  simp only [afterStep, mem_ded, List.mem_append]
theorem mem_par {a b x : R} {s : Int} : x ∈ afterStep (.bin .par a b) s ↔ (∃ p ∈ afterStep a s, x = joined .par p b) ∨ ∃ p ∈ afterStep b s, x = joined .par a p := by
  simp only [afterStep, mem_ded, List.mem_append, List.mem_map]
  constructor
  · rintro (⟨p, hp, rfl⟩ | ⟨p, hp, rfl⟩)
    · exact .inl ⟨p, hp, rfl⟩
    · exact .inr ⟨p, hp, rfl⟩
  · rintro (⟨p, hp, rfl⟩ | ⟨p, hp, rfl⟩)
    · exact .inl ⟨p, hp, rfl⟩
    · exact .inr ⟨p, hp, rfl⟩
theorem mem_again {a b x : R} {s : Int} (h : x ∈ afterStep (again a b) s) : (∃ p ∈ afterStep b s, x = joined .seq p (.bin .loop a b)) ∨ x ∈ afterStep (.bin .loop a b) s := by
  unfold again at h
  rcases mem_cho.mp h with h | h
  · simp [afterStep] at h
  · rcases mem_seq.mp (after_joined h) with h | ⟨_, h⟩
    · exact .inl h
    · exact .inr h
/-- the closure -/
theorem pd_closed : ∀ r : R, (∀ s x, x ∈ afterStep r s → x ∈ PD r) ∧ ∀ y ∈ PD r, ∀ s x, x ∈ afterStep y s → x ∈ PD r
  | .step n => by
    refine ⟨fun s x h => ?_, fun y hy s x h => ?_⟩
    · simp only [afterStep] at h
      split at h
      · exact h
      · cases h
    · rw [List.mem_singleton.mp hy] at h
      simp [afterStep] at h
  | .done => ⟨fun s x h => by simp [afterStep] at h, fun y hy => by cases hy⟩
  | .bin .cho a b => by
    obtain ⟨a1, a2⟩ := pd_closed a
    obtain ⟨b1, b2⟩ := pd_closed b
    refine ⟨fun s x h => ?_, fun y hy s x h => ?_⟩
    · exact List.mem_append.mpr ((mem_cho.mp h).imp (a1 s x) (b1 s x))
    · rcases List.mem_append.mp hy with hy | hy
      · exact List.mem_append_left _ (a2 y hy s x h)
      · exact List.mem_append_right _ (b2 y hy s x h)
  | .bin .seq a b => by
    obtain ⟨a1, a2⟩ := pd_closed a
    obtain ⟨b1, b2⟩ := pd_closed b
    have key : ∀ p, (∀ s x, x ∈ afterStep p s → x ∈ PD a) → ∀ s x, x ∈ afterStep (.bin .seq p b) s → x ∈ PD (.bin .seq a b) := by
      intro p hp s x h
      rcases mem_seq.mp h with ⟨q, hq, rfl⟩ | ⟨_, h⟩
      · exact List.mem_append_left _ (List.mem_map.mpr ⟨q, hp s q hq, rfl⟩)
      · exact List.mem_append_right _ (b1 s x h)
    refine ⟨key a a1, fun y hy s x h => ?_⟩
    rcases List.mem_append.mp hy with hy | hy
    · obtain ⟨p, hp, rfl⟩ := List.mem_map.mp hy
      exact key p (a2 p hp) s x (after_joined h)
    · exact List.mem_append_right _ (b2 y hy s x h)
  | .bin .par a b => by
    obtain ⟨a1, a2⟩ := pd_closed a
    obtain ⟨b1, b2⟩ := pd_closed b
    have a3 : ∀ p ∈ a :: PD a, ∀ s x, x ∈ afterStep p s → x ∈ PD a := fun p hp => by
      rcases List.mem_cons.mp hp with rfl | hp
      · exact a1
      · exact a2 p hp
    have b3 : ∀ p ∈ b :: PD b, ∀ s x, x ∈ afterStep p s → x ∈ PD b := fun p hp => by
      rcases List.mem_cons.mp hp with rfl | hp
      · exact b1
      · exact b2 p hp
    have key : ∀ p ∈ a :: PD a, ∀ q ∈ b :: PD b, ∀ s x, x ∈ afterStep (.bin .par p q) s → x ∈ PD (.bin .par a b) := by
      intro p hp q hq s x h
      rcases mem_par.mp h with ⟨z, hz, rfl⟩ | ⟨z, hz, rfl⟩
      · exact List.mem_flatMap.mpr ⟨z, List.mem_cons_of_mem _ (a3 p hp s z hz), List.mem_map.mpr ⟨q, hq, rfl⟩⟩
      · exact List.mem_flatMap.mpr ⟨p, hp, List.mem_map.mpr ⟨z, List.mem_cons_of_mem _ (b3 q hq s z hz), rfl⟩⟩
    refine ⟨key a List.mem_cons_self b List.mem_cons_self, fun y hy s x h => ?_⟩
    obtain ⟨p, hp, hy⟩ := List.mem_flatMap.mp hy
    obtain ⟨q, hq, rfl⟩ := List.mem_map.mp hy
    exact key p hp q hq s x (after_joined h)
  | .bin .loop a b => by
    obtain ⟨a1, a2⟩ := pd_closed a
    obtain ⟨b1, b2⟩ := pd_closed b
    have inB : ∀ s p, p ∈ afterStep b s → joined .seq p (.bin .loop a b) ∈ PD (.bin .loop a b) := fun s p hp => List.mem_append_right _ (List.mem_map.mpr ⟨p, b1 s p hp, rfl⟩)
    have lp : ∀ s x, x ∈ afterStep (.bin .loop a b) s → x ∈ PD (.bin .loop a b) := by
      intro s x h
      rcases mem_loop.mp h with ⟨p, hp, rfl⟩ | ⟨_, p, hp, rfl⟩
      · exact List.mem_append_left _ (List.mem_map.mpr ⟨p, a1 s p hp, rfl⟩)
      · exact inB s p hp
    refine ⟨lp, fun y hy s x h => ?_⟩
    rcases List.mem_append.mp hy with hy | hy
    · obtain ⟨p, hp, rfl⟩ := List.mem_map.mp hy
      rcases mem_seq.mp (after_joined h) with ⟨q, hq, rfl⟩ | ⟨_, h⟩
      · exact List.mem_append_left _ (List.mem_map.mpr ⟨q, a2 p hp s q hq, rfl⟩)
      · rcases mem_again h with ⟨q, hq, rfl⟩ | h
        · exact inB s q hq
        · exact lp s x h
    · obtain ⟨p, hp, rfl⟩ := List.mem_map.mp hy
      rcases mem_seq.mp (after_joined h) with ⟨q, hq, rfl⟩ | ⟨_, h⟩
      · exact List.mem_append_right _ (List.mem_map.mpr ⟨q, b2 p hp s q hq, rfl⟩)
      · exact lp s x h
/-- how many -/
def cR : R → Nat
  | .step _ => 1
  | .done => 0
  | .bin .par a b => (1 + cR a) * (1 + cR b)
  | .bin _ a b => cR a + cR b
theorem pd_len : ∀ r : R, (PD r).length = cR r
  | .step n => rfl
  | .done => rfl
  | .bin .cho a b => by simp only [PD, List.length_append, pd_len a, pd_len b, cR]
  | .bin .seq a b => by simp only [PD, List.length_append, List.length_map, pd_len a, pd_len b, cR]
  | .bin .loop a b => by simp only [PD, List.length_append, List.length_map, pd_len a, pd_len b, cR]
  | .bin .par a b => by
    have h : ∀ l : List R, (l.flatMap fun p => (b :: PD b).map fun q => joined .par p q).length = l.length * (1 + cR b) := by
      intro l
      induction l with
      | nil => simp
      | cons x l ih =>
        rw [List.flatMap_cons, List.length_append, ih, List.length_map, List.length_cons, List.length_cons, pd_len b, Nat.succ_mul]
        omega
    simp only [PD, cR]
    rw [h, List.length_cons, pd_len a, Nat.add_comm (cR a) 1]
theorem pd_dp : ∀ (r x : R), x ∈ PD r → dpR x ≤ dpR r + 3
  | .step n, x, h => by
    rw [List.mem_singleton.mp h]
    exact Nat.zero_le _
  | .done, x, h => by cases h
  | .bin .cho a b, x, h => by
    simp only [dpR]
    rcases List.mem_append.mp h with h | h
    · have := pd_dp a x h
      omega
    · have := pd_dp b x h
      omega
  | .bin .seq a b, x, h => by
    simp only [dpR]
    rcases List.mem_append.mp h with h | h
    · obtain ⟨p, hp, rfl⟩ := List.mem_map.mp h
      have := pd_dp a p hp
      have := dp_joined .seq p b
      omega
    · have := pd_dp b x h
      omega
  | .bin .par a b, x, h => by
    obtain ⟨p, hp, h⟩ := List.mem_flatMap.mp h
    obtain ⟨q, hq, rfl⟩ := List.mem_map.mp h
    have h1 : dpR p ≤ dpR a + 3 := by
      rcases List.mem_cons.mp hp with rfl | hp
      · omega
      · exact pd_dp a p hp
    have h2 : dpR q ≤ dpR b + 3 := by
      rcases List.mem_cons.mp hq with rfl | hq
      · omega
      · exact pd_dp b q hq
    have := dp_joined .par p q
    simp only [dpR]
    omega
  | .bin .loop a b, x, h => by
    have hg := dp_again a b
    rcases List.mem_append.mp h with h | h
    · obtain ⟨p, hp, rfl⟩ := List.mem_map.mp h
      have := pd_dp a p hp
      have := dp_joined .seq p (again a b)
      simp only [dpR] at hg ⊢
      omega
    · obtain ⟨p, hp, rfl⟩ := List.mem_map.mp h
      have := pd_dp b p hp
      have := dp_joined .seq p (.bin .loop a b)
      simp only [dpR] at this ⊢
      omega
theorem pd_lv : ∀ (r x : R), x ∈ PD r → lvR x ≤ lvR r * (1 + 2 * dpR r)
  | .step n, x, h => by
    rw [List.mem_singleton.mp h]
    exact Nat.zero_le _
  | .done, x, h => by cases h
  | .bin k a b, x, h => by
    have ha : ∀ y ∈ PD a, lvR y ≤ lvR a * (1 + 2 * max (dpR a) (dpR b)) := fun y hy => Nat.le_trans (pd_lv a y hy) (Nat.mul_le_mul_left _ (by omega))
    have hb : ∀ y ∈ PD b, lvR y ≤ lvR b * (1 + 2 * max (dpR a) (dpR b)) := fun y hy => Nat.le_trans (pd_lv b y hy) (Nat.mul_le_mul_left _ (by omega))
    have hm : lvR (.bin k a b) * (1 + 2 * dpR (.bin k a b)) = lvR a * (1 + 2 * max (dpR a) (dpR b)) + lvR b * (1 + 2 * max (dpR a) (dpR b)) + 2 * lvR a + 2 * lvR b := by
      simp only [lvR, dpR]
      generalize max (dpR a) (dpR b) = d
      rw [show 1 + 2 * (d + 1) = (1 + 2 * d) + 2 by omega, Nat.mul_add, Nat.add_mul]
      omega
    have la : lvR a ≤ lvR a * (1 + 2 * max (dpR a) (dpR b)) := Nat.le_mul_of_pos_right _ (by omega)
    have lb : lvR b ≤ lvR b * (1 + 2 * max (dpR a) (dpR b)) := Nat.le_mul_of_pos_right _ (by omega)
    rw [hm]
    generalize lvR a * (1 + 2 * max (dpR a) (dpR b)) = X at ha la
    generalize lvR b * (1 + 2 * max (dpR a) (dpR b)) = Y at hb lb
    cases k with
    | loop =>
      rcases List.mem_append.mp h with h | h
      · obtain ⟨p, hp, rfl⟩ := List.mem_map.mp h
        have h1 := ha p hp
        have h2 := lv_joined .seq p (again a b)
        have h3 := lv_joined .seq b (.bin .loop a b)
        simp only [again, lvR] at h2 h3
        simp only [again]
        omega
      · obtain ⟨p, hp, rfl⟩ := List.mem_map.mp h
        have h1 := hb p hp
        have h2 := lv_joined .seq p (.bin .loop a b)
        simp only [lvR] at h2
        omega
    | cho =>
      rcases List.mem_append.mp h with h | h
      · have := ha _ h
        omega
      · have := hb _ h
        omega
    | par =>
      obtain ⟨p, hp, h⟩ := List.mem_flatMap.mp h
      obtain ⟨q, hq, rfl⟩ := List.mem_map.mp h
      have h1 : lvR p ≤ X := by
        rcases List.mem_cons.mp hp with rfl | hp
        · exact la
        · exact ha p hp
      have h2 : lvR q ≤ Y := by
        rcases List.mem_cons.mp hq with rfl | hq
        · exact lb
        · exact hb q hq
      have := lv_joined .par p q
      omega
    | seq =>
      rcases List.mem_append.mp h with h | h
      · obtain ⟨p, hp, rfl⟩ := List.mem_map.mp h
        have h1 := ha p hp
        have h2 := lv_joined .seq p b
        omega
      · have := hb _ h
        omega
/-! ### letters -/
def RL : R → Prop
  | .step n => 0 ≤ n ∧ n < 7
  | .done => True
  | .bin _ a b => RL a ∧ RL b
theorem rl_joined {k : Kd} {l r : R} (hl : RL l) (hr : RL r) : RL (joined k l r) := by
  unfold joined
  split
  · split
    · exact hr
    · split
      · exact hl
      · exact ⟨hl, hr⟩
  · exact ⟨hl, hr⟩
theorem rl_again {a b : R} (ha : RL a) (hb : RL b) : RL (again a b) := ⟨trivial, rl_joined hb ⟨ha, hb⟩⟩
theorem rl_after : ∀ (r : R) (s : Int) (x : R), RL r → x ∈ afterStep r s → RL x
  | .step n, s, x, h, hx => by
    simp only [afterStep] at hx
    split at hx
    · rw [List.mem_singleton.mp hx]
      exact trivial
    · cases hx
  | .done, s, x, h, hx => by simp [afterStep] at hx
  | .bin .cho a b, s, x, h, hx => (mem_cho.mp hx).elim (rl_after a s x h.1) (rl_after b s x h.2)
  | .bin .seq a b, s, x, h, hx => by
    rcases mem_seq.mp hx with ⟨p, hp, rfl⟩ | ⟨_, hx⟩
    · exact rl_joined (rl_after a s p h.1 hp) h.2
    · exact rl_after b s x h.2 hx
  | .bin .par a b, s, x, h, hx => by
    rcases mem_par.mp hx with ⟨p, hp, rfl⟩ | ⟨p, hp, rfl⟩
    · exact rl_joined (rl_after a s p h.1 hp) h.2
    · exact rl_joined h.1 (rl_after b s p h.2 hp)
  | .bin .loop a b, s, x, h, hx => by
    rcases mem_loop.mp hx with ⟨p, hp, rfl⟩ | ⟨_, p, hp, rfl⟩
    · exact rl_joined (rl_after a s p h.1 hp) (rl_again h.1 h.2)
    · exact rl_joined (rl_after b s p h.2 hp) h
theorem rl_first : ∀ (r : R) (s : Int), RL r → s ∈ firstSteps r → 0 ≤ s ∧ s < 7
  | .step n, s, h, hs => by
    rw [List.mem_singleton.mp hs]
    exact h
  | .done, s, h, hs => by cases hs
  | .bin .cho a b, s, h, hs => (List.mem_append.mp hs).elim (rl_first a s h.1) (rl_first b s h.2)
  | .bin .par a b, s, h, hs => (List.mem_append.mp hs).elim (rl_first a s h.1) (rl_first b s h.2)
  | .bin .seq a b, s, h, hs => by
    simp only [firstSteps] at hs
    rcases List.mem_append.mp hs with hs | hs
    · exact rl_first a s h.1 hs
    · split at hs
      · exact rl_first b s h.2 hs
      · cases hs
  | .bin .loop a b, s, h, hs => by
    simp only [firstSteps] at hs
    rcases List.mem_append.mp hs with hs | hs
    · exact rl_first a s h.1 hs
    · split at hs
      · exact rl_first b s h.2 hs
      · cases hs
def seven : List Int := [0, 1, 2, 3, 4, 5, 6]
theorem mem_seven {s : Int} (h : 0 ≤ s ∧ s < 7) : s ∈ seven := by
  simp only [seven, List.mem_cons, List.not_mem_nil, or_false]
  omega
/-! ### levels -/
structure LOk (r : R) (n : Nat) (q : Wd × List R) : Prop where
  len : q.1.length = n
  nd : q.2.Nodup
  rl : ∀ x ∈ q.2, RL x
  pd : ∀ x ∈ q.2, x = r ∨ x ∈ PD r
theorem next_le {rs : List R} (h : ∀ x ∈ rs, RL x) : (nextSteps rs).length ≤ 7 := by
  refine sub_len (nextSteps rs) seven ?_ fun s hs => ?_
  · exact (sortD_sorted _).imp fun h => by omega
  · obtain ⟨x, hx, hs⟩ := List.mem_flatMap.mp (mem_sortD.mp hs)
    exact mem_seven (rl_first x s (h x hx) hs)
theorem fm_len {α β : Type} (g : α → Option β) : ∀ l : List α, (l.filterMap g).length ≤ l.length
  | [] => Nat.le_refl _
  | x :: l => by
    have := fm_len g l
    rw [List.filterMap_cons]
    split
    · simp only [List.length_cons]
      omega
    · simp only [List.length_cons]
      omega
theorem lev_ok {r : R} (hr : RL r) (most : Nat) : ∀ n, (∀ q ∈ lev (some r) most n, LOk r n q) ∧ (lev (some r) most n).length ≤ 7 ^ n
  | 0 => by
    refine ⟨fun q hq => ?_, Nat.le_refl _⟩
    rw [List.mem_singleton.mp hq]
    exact ⟨rfl, by simp, fun x hx => by rw [List.mem_singleton.mp hx]; exact hr, fun x hx => .inl (List.mem_singleton.mp hx)⟩
  | n + 1 => by
    obtain ⟨h1, h2⟩ := lev_ok hr most n
    refine ⟨fun q hq => ?_, ?_⟩
    · obtain ⟨q0, hq0, hq⟩ := List.mem_flatMap.mp hq
      obtain ⟨s, hs, hg⟩ := List.mem_filterMap.mp hq
      rw [goOn_eq hg]
      have h0 := h1 q0 hq0
      have hsub : ∀ x ∈ leftOf q0.2 (most - n - 1) s, ∃ y ∈ q0.2, x ∈ afterStep y s := fun x hx => mem_afterMore.mp (List.mem_filter.mp hx).1
      refine ⟨by rw [List.length_append, h0.len]; rfl, (nodup_ded _).filter _, fun x hx => ?_, fun x hx => ?_⟩
      · obtain ⟨y, hy, hx⟩ := hsub x hx
        exact rl_after y s x (h0.rl y hy) hx
      · obtain ⟨y, hy, hx⟩ := hsub x hx
        rcases h0.pd y hy with rfl | hy
        · exact .inr ((pd_closed y).1 s x hx)
        · exact .inr ((pd_closed r).2 y hy s x hx)
    · have h3 := flat_const (fun q : Wd × List R => (nextSteps q.2).filterMap (goOn q.1 q.2 (most - n - 1))) 7 (lev (some r) most n) fun q hq => Nat.le_trans (fm_len _ _) (next_le (h1 q hq).rl)
      have h4 : (lev (some r) most (n + 1)).length ≤ (lev (some r) most n).length * 7 := h3
      rw [Nat.pow_succ]
      omega
theorem sum_const {α : Type} (f : α → Nat) (n : Nat) : ∀ l : List α, (∀ x ∈ l, f x ≤ n) → (l.map f).sum ≤ l.length * n
  | [], _ => by simp
  | x :: l, h => by
    rw [List.map_cons, List.sum_cons, List.length_cons, Nat.succ_mul]
    have h1 := h x List.mem_cons_self
    have h2 := sum_const f n l fun y hy => h y (List.mem_cons_of_mem _ hy)
    omega
theorem small_of {r : R} {n : Nat} {q : Wd × List R} (h : LOk r n q) (hd : dpR r ≤ 40) (hb : (cR r + 1) * (lvR r * (1 + 2 * dpR r)) ≤ 4000) (hc : cR r ≤ 100) : Small q.2 := by
  have hlen : q.2.length ≤ cR r + 1 := by
    have := sub_len q.2 (r :: PD r) h.nd fun x hx => by
      rcases h.pd x hx with rfl | hx
      · exact List.mem_cons_self
      · exact List.mem_cons_of_mem _ hx
    rw [List.length_cons, pd_len] at this
    exact this
  refine ⟨by omega, fun x hx => ?_, ?_, seven, by decide, fun x hx s hs => mem_seven (rl_first x s (h.rl x hx) hs)⟩
  · rcases h.pd x hx with rfl | hx
    · omega
    · have := pd_dp r x hx
      omega
  · refine Nat.le_trans (sum_const lvR (lvR r * (1 + 2 * dpR r)) q.2 fun x hx => ?_) (Nat.le_trans (Nat.mul_le_mul_right _ hlen) hb)
    rcases h.pd x hx with rfl | hx
    · exact Nat.le_mul_of_pos_right _ (by omega)
    · exact pd_lv r x hx
theorem levSmall_of {ro : Option R} {most : Nat} (hm : most ≤ 3) (h : ∀ r, ro = some r → RL r ∧ dpR r ≤ 40 ∧ (cR r + 1) * (lvR r * (1 + 2 * dpR r)) ≤ 4000 ∧ cR r ≤ 100) : LevSmall ro most := by
  have hp : ∀ n ≤ most, 7 ^ n ≤ 7 ^ 3 := fun n hn => Nat.pow_le_pow_right (by decide) (by omega)
  have h73 : (7 : Nat) ^ 3 = 343 := by decide
  have hlev : ∀ n ≤ most, (lev ro most n).length ≤ 343 := by
    intro n hn
    cases ro with
    | none =>
      have : ∀ n, lev none most n = [] := by
        intro n
        induction n with
        | zero => rfl
        | succ n ih =>
          show longer (lev none most n) _ = []
          rw [ih]
          rfl
      rw [this]
      exact Nat.zero_le _
    | some r =>
      have := (lev_ok (h r rfl).1 most n).2
      have := hp n hn
      omega
  refine ⟨by omega, fun n hn q hq => ?_, fun n hn => by have := hlev n hn; omega, ?_⟩
  · cases ro with
    | none =>
      have : ∀ n, lev none most n = [] := by
        intro n
        induction n with
        | zero => rfl
        | succ n ih =>
          show longer (lev none most n) _ = []
          rw [ih]
          rfl
      rw [this] at hq
      cases hq
    | some r =>
      obtain ⟨h1, h2, h3, h4⟩ := h r rfl
      have hq := (lev_ok h1 most n).1 q hq
      exact ⟨small_of hq h2 h3 h4, by rw [hq.len]; omega⟩
  · have := flat_const (fun n => outs (lev ro most n)) 343 (List.range (most + 1)) fun n hn => by
      have hn' := List.mem_range.mp hn
      have h1 := hlev n (by omega)
      have h2 : (outs (lev ro most n)).length ≤ (lev ro most n).length := by
        unfold outs
        rw [List.length_map]
        exact List.length_filter_le _ _
      omega
    rw [List.length_range] at this
    have h5 : (runs ro most).length ≤ (most + 1) * 343 := this
    have h6 : (most + 1) * 343 ≤ 4 * 343 := Nat.mul_le_mul_right _ (by omega)
    omega
/-! ### trees -/
def Pt.lf : Pt → Nat
  | .act _ _ => 1
  | .sil _ => 1
  | .bin _ _ l r => l.lf + r.lf
  | .wh _ _ t => t.lf
def Pt.ht : Pt → Nat
  | .act _ _ => 1
  | .sil _ => 1
  | .bin _ _ l r => max l.ht r.ht + 1
  | .wh _ _ t => t.ht + 1
theorem lf_pos : ∀ t : Pt, 1 ≤ t.lf
  | .act _ _ => Nat.le_refl _
  | .sil _ => Nat.le_refl _
  | .bin _ _ l r => by
    have := lf_pos l
    simp only [Pt.lf]
    omega
  | .wh _ _ t => lf_pos t
theorem lf_parts : ∀ t : Pt, 2 * t.lf ≤ t.parts.length + 1
  | .act _ _ => by simp [Pt.lf, Pt.parts]
  | .sil _ => by simp [Pt.lf, Pt.parts]
  | .bin _ _ l r => by
    have := lf_parts l
    have := lf_parts r
    simp only [Pt.lf, Pt.parts, List.length_cons, List.length_append]
    omega
  | .wh _ _ t => by
    have := lf_parts t
    simp only [Pt.lf, Pt.parts, List.length_cons]
    omega
theorem ht_parts : ∀ t : Pt, t.ht + t.lf ≤ t.parts.length + 1
  | .act _ _ => by simp [Pt.lf, Pt.ht, Pt.parts]
  | .sil _ => by simp [Pt.lf, Pt.ht, Pt.parts]
  | .bin _ _ l r => by
    have := ht_parts l
    have := ht_parts r
    have := lf_parts l
    have := lf_parts r
    have := lf_pos l
    have := lf_pos r
    simp only [Pt.lf, Pt.ht, Pt.parts, List.length_cons, List.length_append]
    omega
  | .wh _ _ t => by
    have := ht_parts t
    simp only [Pt.lf, Pt.ht, Pt.parts, List.length_cons]
    omega
theorem ht_pos : ∀ t : Pt, 1 ≤ t.ht := fun t => by cases t <;> simp [Pt.ht]
theorem dp_ht : ∀ t : Pt, t.dp + 1 = t.ht
  | .act _ _ => rfl
  | .sil _ => rfl
  | .bin _ _ l r => by
    have := dp_ht l
    have := dp_ht r
    simp only [Pt.dp, Pt.ht]
    omega
  | .wh _ _ t => by
    have := dp_ht t
    simp only [Pt.dp, Pt.ht]
    omega
theorem wrapT_dp (w : Prs) (n : Int) (t : T) : (wrapT w n t).dp ≤ t.dp + 2 := by
  have h1 : (wrap1 w n t).dp ≤ t.dp + 1 := by
    unfold wrap1
    split
    · simp only [T.dp]
      omega
    · omega
  cases ho : has w .opt n with
  | true =>
    rw [wrapT_opt ho]
    simp only [T.dp]
    omega
  | false =>
    rw [wrapT_no ho]
    omega
theorem changed_dp (w : Prs) : ∀ t : Pt, (changed w t).dp + 1 ≤ 3 * t.ht
  | .act n m => by
    have := wrapT_dp w n (.act n)
    simp only [changed, Pt.ht]
    simp only [T.dp] at this
    omega
  | .sil n => by
    have := wrapT_dp w n .sil
    simp only [changed, Pt.ht]
    simp only [T.dp] at this
    omega
  | .bin k n l r => by
    have h1 := changed_dp w l
    have h2 := changed_dp w r
    have := wrapT_dp w n (.bin (if k = .seq ∧ has w .uno n = true then .par else k) (changed w l) (changed w r))
    simp only [changed, Pt.ht]
    simp only [T.dp] at this
    omega
  | .wh n c t => by
    have h1 := changed_dp w t
    have := wrapT_dp w n (if has w .unc n = true then changed w t else .wh c (changed w t))
    have h3 : (if has w .unc n = true then changed w t else .wh c (changed w t)).dp ≤ (changed w t).dp + 1 := by
      split
      · omega
      · exact Nat.le_refl _
    simp only [changed, Pt.ht]
    omega
theorem wrapT_ok {ns : List PySem.Str} {w : Prs} {n : Int} {t : T} (h : t.Ok ns) : (wrapT w n t).Ok ns := by
  have h1 : (wrap1 w n t).Ok ns := by
    unfold wrap1
    split
    · exact ⟨h, trivial⟩
    · exact h
  cases ho : has w .opt n with
  | true =>
    rw [wrapT_opt ho]
    exact ⟨h1, trivial⟩
  | false =>
    rw [wrapT_no ho]
    exact h1
theorem changed_ok {ns : List PySem.Str} (w : Prs) : ∀ t : Pt, t.COk ns → (changed w t).Ok ns
  | .act n m, h => wrapT_ok trivial
  | .sil n, h => wrapT_ok trivial
  | .bin k n l r, h => wrapT_ok ⟨changed_ok w l h.1, changed_ok w r h.2⟩
  | .wh n c t, h => by
    refine wrapT_ok ?_
    split
    · exact changed_ok w t h.2.2
    · exact ⟨h.1, by have := h.2.1; omega, changed_ok w t h.2.2⟩
/-- numbers of the leaves -/
theorem ok_of {ns : List PySem.Str} : ∀ t : Pt, t.COk ns → (∀ p ∈ t.parts, 0 ≤ p.num ∧ p.num < 7) → t.Ok ns
  | .act n m, h, hp => hp (.act n m) (by simp [Pt.parts])
  | .sil n, h, hp => trivial
  | .bin k n l r, h, hp => ⟨ok_of l h.1 fun p hm => hp p (by simp [Pt.parts, hm]), ok_of r h.2 fun p hm => hp p (by simp [Pt.parts, hm])⟩
  | .wh n c t, h, hp => ⟨h.1, by have := h.2.1; omega, ok_of t h.2.2 fun p hm => hp p (by simp [Pt.parts, hm])⟩
/-- what a rest of a tree may be -/
structure RB (l : Nat) (g : Nat) (o : Option R) : Prop where
  all : ∀ r, o = some r → RL r ∧ lvR r ≤ l ∧ cR r ≤ g
theorem c_joined (k : Kd) (l r : R) : cR (joined k l r) ≤ cR (.bin k l r) := by
  have hl : cR l ≤ cR (.bin k l r) := by
    cases k with
    | par =>
      simp only [cR]
      have : (1 + cR l) * 1 ≤ (1 + cR l) * (1 + cR r) := Nat.mul_le_mul_left _ (by omega)
      omega
    | seq => simp only [cR]; omega
    | cho => simp only [cR]; omega
    | loop => simp only [cR]; omega
  have hr : cR r ≤ cR (.bin k l r) := by
    cases k with
    | par =>
      simp only [cR]
      have : 1 * (1 + cR r) ≤ (1 + cR l) * (1 + cR r) := Nat.mul_le_mul_right _ (by omega)
      omega
    | seq => simp only [cR]; omega
    | cho => simp only [cR]; omega
    | loop => simp only [cR]; omega
  unfold joined
  split
  · split
    · exact hr
    · split
      · exact hl
      · exact Nat.le_refl _
  · exact Nat.le_refl _
theorem RB.join {k : Kd} {l1 l2 g1 g2 g : Nat} {a b : Option R} (ha : RB l1 g1 a) (hb : RB l2 g2 b) (h1 : (1 + g1) * (1 + g2) ≤ g) : RB (l1 + l2) g (joinO k a b) := by
  have hg1 : g1 + g2 ≤ g := by
    have : (1 + g1) * (1 + g2) = 1 + g1 + g2 + g1 * g2 := by
      rw [Nat.add_mul, Nat.one_mul, Nat.mul_add, Nat.mul_one]
      omega
    omega
  refine ⟨fun r h => ?_⟩
  cases a with
  | none =>
    simp only [joinO] at h
    split at h
    · obtain ⟨x1, x2, x3⟩ := hb.all r h
      exact ⟨x1, by omega, by omega⟩
    · cases h
  | some x =>
    obtain ⟨x1, x2, x3⟩ := ha.all x rfl
    cases b with
    | none =>
      simp only [joinO] at h
      split at h
      · cases h
        exact ⟨x1, by omega, by omega⟩
      · cases h
    | some y =>
      obtain ⟨y1, y2, y3⟩ := hb.all y rfl
      simp only [joinO] at h
      cases h
      refine ⟨rl_joined x1 y1, Nat.le_trans (lv_joined k x y) (by omega), Nat.le_trans (c_joined k x y) ?_⟩
      have hp : (1 + cR x) * (1 + cR y) ≤ (1 + g1) * (1 + g2) := Nat.mul_le_mul (by omega) (by omega)
      cases k with
      | par => simp only [cR]; omega
      | seq => simp only [cR]; omega
      | cho => simp only [cR]; omega
      | loop => simp only [cR]; omega
/-- a part joined with nothing -/
theorem RB.side {k : Kd} {l g : Nat} {a : Option R} (hk : k = .cho ∨ k = .loop) (ha : RB l g a) : RB l g (joinO k a (some .done)) := by
  refine ⟨fun r h => ?_⟩
  cases a with
  | none =>
    simp only [joinO] at h
    split at h
    · cases h
      exact ⟨trivial, Nat.zero_le _, Nat.zero_le _⟩
    · cases h
  | some x =>
    obtain ⟨x1, x2, x3⟩ := ha.all x rfl
    simp only [joinO] at h
    cases h
    have hj : joined k x .done = .bin k x .done := by
      unfold joined
      rw [if_neg (by rcases hk with rfl | rfl <;> simp)]
    rw [hj]
    refine ⟨⟨x1, trivial⟩, by simp only [lvR]; omega, ?_⟩
    rcases hk with rfl | rfl
    · simp only [cR]
      omega
    · simp only [cR]
      omega
theorem RB.wrap {ev : Cnd → Bool} {w : Prs} {n : Int} {t : T} {l g : Nat} (h : RB l g (restOf ev t)) : RB l g (restOf ev (wrapT w n t)) := by
  have h1 : RB l g (restOf ev (wrap1 w n t)) := by
    unfold wrap1
    split
    · exact RB.side (.inr rfl) h
    · exact h
  cases ho : has w .opt n with
  | true =>
    rw [wrapT_opt ho]
    exact RB.side (.inl rfl) h1
  | false =>
    rw [wrapT_no ho]
    exact h1
def G : Nat → Nat
  | 0 => 0
  | 1 => 1
  | 2 => 4
  | 3 => 10
  | _ => 25
theorem G_mul {i j : Nat} (hi : 1 ≤ i) (hj : 1 ≤ j) (h : i + j ≤ 4) : (1 + G i) * (1 + G j) ≤ G (i + j) := by
  have h1 : i = 1 ∨ i = 2 ∨ i = 3 := by omega
  have h2 : j = 1 ∨ j = 2 ∨ j = 3 := by omega
  rcases h1 with rfl | rfl | rfl <;> rcases h2 with rfl | rfl | rfl
  · decide
  · decide
  · decide
  · decide
  · decide
  · exact absurd h (by decide)
  · decide
  · exact absurd h (by decide)
  · exact absurd h (by decide)
theorem rest_rb {ns : List PySem.Str} (ev : Cnd → Bool) (w : Prs) : ∀ t : Pt, t.Ok ns → t.lf ≤ 4 → RB t.lf (G t.lf) (restOf ev (changed w t))
  | .act n m, h, _ => by
    refine RB.wrap ⟨fun r hr => ?_⟩
    cases hr
    exact ⟨h, Nat.le_refl _, Nat.le_refl _⟩
  | .sil n, h, _ => by
    refine RB.wrap ⟨fun r hr => ?_⟩
    cases hr
    exact ⟨trivial, Nat.zero_le _, Nat.zero_le _⟩
  | .bin k n a b, h, hl => by
    simp only [Pt.lf] at hl
    have pa := lf_pos a
    have pb := lf_pos b
    have ha := rest_rb ev w a h.1 (by omega)
    have hb := rest_rb ev w b h.2 (by omega)
    exact RB.wrap (RB.join ha hb (G_mul pa pb hl))
  | .wh n c t, h, hl => by
    have ht := rest_rb ev w t h.2.2 hl
    refine RB.wrap ?_
    split
    · exact ht
    · refine ⟨fun r hr => ?_⟩
      simp only [restOf] at hr
      split at hr
      · exact ht.all r hr
      · cases hr
theorem mul_small {l h : Nat} (hl1 : 1 ≤ l) (hl4 : l ≤ 4) (hh : h + l ≤ 8) : (G l + 1) * (l * (1 + 2 * (3 * h - 1))) ≤ 4000 := by
  have h1 : l = 1 ∨ l = 2 ∨ l = 3 ∨ l = 4 := by omega
  rcases h1 with rfl | rfl | rfl | rfl
  · simp only [G]
    omega
  · simp only [G]
    omega
  · simp only [G]
    omega
  · simp only [G]
    omega
/-- THE BOUND -/
theorem tree_small {ns : List PySem.Str} (ev : Cnd → Bool) (w : Prs) (t : Pt) (hok : t.Ok ns) (hp : t.parts.length ≤ 7) {most : Nat} (hm : most ≤ 3) : LevSmall (restOf ev (changed w t)) most := by
  have h1 := lf_parts t
  have h2 := ht_parts t
  have h3 := lf_pos t
  have h4 := ht_pos t
  refine levSmall_of hm fun r hr => ?_
  obtain ⟨r1, r2, r3⟩ := (rest_rb ev w t hok (by omega)).all r hr
  have hd := rest_dp ev (changed w t) r hr
  have hc := changed_dp w t
  have hdp : dpR r ≤ 3 * t.ht - 1 := by omega
  have hg : G t.lf ≤ 25 := by
    have : t.lf = 1 ∨ t.lf = 2 ∨ t.lf = 3 ∨ t.lf = 4 := by omega
    rcases this with h | h | h | h <;> rw [h] <;> decide
  refine ⟨r1, by omega, Nat.le_trans (Nat.mul_le_mul (by omega : cR r + 1 ≤ G t.lf + 1) (Nat.mul_le_mul r2 (by omega : 1 + 2 * dpR r ≤ 1 + 2 * (3 * t.ht - 1)))) (mul_small h3 (by omega) (by omega)), by omega⟩
end Tf

/-! The order of the pairs (length, row); edits that fit. -/
namespace Tf
open PySem PySem.Spec PyProof.Rows L2
theorem lt_iff : ∀ u v : List Int, u < v ↔ Tf.lexLt u v
  | [], [] => by simp [Tf.lexLt]
  | [], y :: v => by simp [Tf.lexLt]
  | x :: u, [] => by simp [Tf.lexLt]
  | x :: u, y :: v => by
    rw [List.cons_lt_cons_iff, lt_iff u v]
    rfl
theorem eqv_ints : ∀ u v : List Int, PyData.eqvAll (u.map .int) (v.map .int) = decide (u = v)
  | [], [] => by simp [PyData.eqvAll]
  | [], y :: v => by simp [PyData.eqvAll]
  | x :: u, [] => by simp [PyData.eqvAll]
  | x :: u, y :: v => by
    rw [List.map_cons, List.map_cons, eqvA_cons, eqv_int, eqv_ints u v, ← Bool.decide_and]
    simp
theorem lt_encP (b a : List Int) : PySem.W.dataLt (encP b) (encP a) = true ↔ ord b a := by
  have h1 : PySem.W.alike (PyData.int (b.length : Nat)) (.int (a.length : Nat)) = true := by
    simp [PySem.W.alike]
  have h2 : PySem.W.alike (PyData.tuple (b.map .int)) (.tuple (a.map .int)) = true := by
    simp only [PySem.W.alike]
    exact PySem.W.alike_ints b a
  unfold encP
  rw [PySem.W.dataLt_pair h1 h2, eqv_int, eqv_tup, eqv_ints, PySem.W.dataLt_int, PySem.W.dataLt_tuple]
  have h3 : PyProof.Rows.lexLt itemOrd (PySem.W.keyToksAll (b.map .int)) (PySem.W.keyToksAll (a.map .int)) = decide (b < a) := PySem.W.dataLt_ints b a
  rw [h3]
  unfold ord
  rw [← lt_iff]
  by_cases hl : (b.length : Int) = (a.length : Int)
  · have hl' : b.length = a.length := by omega
    rw [decide_eq_true hl, if_pos rfl]
    by_cases he : b = a
    · subst he
      simp
    · rw [decide_eq_false he, if_neg Bool.false_ne_true, decide_eq_true_iff]
      constructor
      · exact fun h => .inr ⟨hl', h⟩
      · rintro (h | ⟨_, h⟩)
        · omega
        · exact h
  · have hl' : ¬ b.length = a.length := by omega
    rw [decide_eq_false hl, if_neg Bool.false_ne_true, decide_eq_true_iff]
    constructor
    · exact fun h => .inl (by omega)
    · rintro (h | ⟨h, _⟩)
      · omega
      · exact absurd h hl'
theorem leW_iff (a b : List Int) : leW a b = true ↔ ¬ ord b a := by
  have h : leW a b = !PySem.W.dataLt (encP b) (encP a) := rfl
  rw [h, Bool.not_eq_true', ← lt_encP]
  simp
theorem sortW_pairwise (rows : List Wd) : (rows.mergeSort leW).Pairwise fun a b => ¬ ord b a := by
  refine (List.pairwise_mergeSort (le := leW) (fun a b c h1 h2 => ?_) (fun a b => ?_) rows).imp fun h => (leW_iff _ _).mp h
  · rw [leW_iff] at h1 h2 ⊢
    intro h
    rcases ord_total a b with e | e | e
    · subst e
      exact h2 h
    · exact h2 (ord_trans h e)
    · exact h1 e
  · rw [Bool.or_eq_true, leW_iff, leW_iff]
    by_cases h : ord b a
    · exact .inr fun h' => ord_irrefl a (ord_trans h' h)
    · exact .inl h
/-! ### numbers -/
theorem nodup_inj {α β : Type} (f : α → β) : ∀ {l : List α}, (l.map f).Nodup → ∀ {p q : α}, p ∈ l → q ∈ l → f p = f q → p = q
  | x :: l, h, p, q, hp, hq, e => by
    rw [List.map_cons, List.nodup_cons] at h
    rcases List.mem_cons.mp hp with e1 | hp1
    · rcases List.mem_cons.mp hq with e2 | hq1
      · rw [e1, e2]
      · refine absurd ?_ h.1
        rw [← e1, e]
        exact List.mem_map_of_mem hq1
    · rcases List.mem_cons.mp hq with e2 | hq1
      · refine absurd ?_ h.1
        rw [← e2, ← e]
        exact List.mem_map_of_mem hp1
      · exact nodup_inj f h.2 hp1 hq1 e
theorem nums_nodup (m k : Nat) : (numsFrom m k).Nodup := by
  unfold numsFrom
  rw [List.Nodup, List.pairwise_map]
  refine (List.pairwise_lt_range' (s := m) (n := k) 1).imp fun h => ?_
  intro e
  omega
theorem Grown.inj {ns : List PySem.Str} {m k : Nat} {t : Pt} (g : Grown ns m k t) {p q : Pt} (hp : p ∈ t.parts) (hq : q ∈ t.parts) (e : p.num = q.num) : p = q :=
  nodup_inj Pt.num (by rw [g.nums]; exact nums_nodup _ _) hp hq e
theorem Grown.low {ns : List PySem.Str} {t : Pt} {k : Nat} (g : Grown ns 0 k t) (hk : k ≤ 7) : ∀ p ∈ t.parts, 0 ≤ p.num ∧ p.num < 7 := by
  intro p hp
  have h : p.num ∈ t.parts.map Pt.num := List.mem_map_of_mem hp
  rw [g.nums] at h
  obtain ⟨i, hi, e⟩ := List.mem_map.mp h
  have hl := g.len
  have := List.mem_range'_1.mp hi
  omega
theorem EdG.ok {ns : List PySem.Str} {m k : Nat} {t : Pt} (g : Grown ns m k t) {e : Ek × Int} (h : EdG t e) : EdOk t e := by
  obtain ⟨p, hp, hn, h1, h2⟩ := h
  refine ⟨p, ?_, h1, h2⟩
  unfold Pt.at_
  cases hf : t.parts.find? (fun p => decide (p.num = e.2)) with
  | none =>
    have := List.find?_eq_none.mp hf p hp
    simp [hn] at this
  | some z =>
    have h3 := List.find?_some hf
    have h4 := List.mem_of_find?_eq_some hf
    rw [decide_eq_true_iff] at h3
    rw [g.inj h4 hp (by rw [h3, hn])]
theorem unok_of {ns : List PySem.Str} {m k : Nat} {t : Pt} (g : Grown ns m k t) {w : Prs} (h : ∀ e ∈ w, EdG t e) : ∀ s : Pt, (∀ p ∈ s.parts, p ∈ t.parts) → UnOk w s
  | .act n nm, _ => trivial
  | .sil n, _ => trivial
  | .bin k n a b, hs => by
    refine ⟨fun hk => ?_, unok_of g h a fun p hp => hs p (by simp [Pt.parts, hp]), unok_of g h b fun p hp => hs p (by simp [Pt.parts, hp])⟩
    subst hk
    cases hh : has w .uno n with
    | false => rfl
    | true =>
      exfalso
      unfold has at hh
      obtain ⟨p, hp, hn, h1, _⟩ := h _ (of_decide_eq_true hh)
      have := g.inj hp (hs (.bin .loop n a b) (by simp [Pt.parts])) hn
      subst this
      have h2 := h1 rfl
      exact absurd h2 (by show ¬ Kd.loop.nm = ("sequence" : PySem.Str); decide +kernel)
  | .wh n c a, hs => unok_of g h a fun p hp => hs p (by simp [Pt.parts, hp])
end Tf

namespace Tf
open PySem PySem.Spec PyProof.Rows L2 GenW
theorem passCX {X : Cx} : Passes (CX X.prog X.w) X E0 := fun _ _ _ _ _ _ _ h => by
  obtain ⟨_, _, _, _, _, _, _, _, _, _, _, _, h⟩ := h
  exact h.elim
theorem pe_listRuns {X : Cx} {k np : Nat} {x : PySem.Str} {ps ks : List PySem.Str} {sp : SpG} {lp p pos pos' : Pos} {e : Expr} {es : List Expr} {kws : List Keyword} {t tk : TA} (C : CalleeG X.prog X.w X.K X.mg X.base k x ps np ks sp) (hr : Room (k + 3) X.A)
    (hgl : Gl X "list") (hml : X.mg "list" = none) (hg : Gl X x) (ha : PA X (e :: es) t) (hkw : PK X kws tk) (hall : (backToKw pos' (keywordEach kws X.env)).all (·.1.isSome) = true := by rfl) (hks : (backToKw pos' (keywordEach kws X.env)).filterMap (·.1) = ks := by rfl)
    (hdb : (x == ("__debug__" : Str)) = false := by decide) (he : starEach (e :: es) X.env = (false, eval e X.env) :: starEach es X.env := by rfl)
    (hpl : ((backTo pos' (starEach (e :: es) X.env)).any (·.1) || (backToKw pos' (keywordEach kws X.env)).any (·.1.isNone)) = false := by rfl)
    (hst : starEach [(.Call (.Name x p) (e :: es) kws pos' : Expr)] X.env = (false, eval (.Call (.Name x p) (e :: es) kws pos') X.env) :: starEach [] X.env := by rfl) :
    PE X (.Call (.Name "list" lp) [.Call (.Name x p) (e :: es) kws pos'] [] pos) (tListG (tCallGK np ks.length sp (fun vs zs => vs ++ zs) E0 t tk)) := by
  obtain ⟨f, fd, F, hm, hk, hb⟩ := C.ex
  exact pe_listG (pgen_callK F (hr.mono (by omega)) hg hm hk hb ha hkw hall hks hdb he hpl) passCX (fun _ _ _ h => h.elim) hr hgl hml (by decide +kernel) (by decide) (by decide) hst
section
variable {P : Program} {w : World} {K : PySem.W.Frag} {mg : PySem.Str → Option Value} {base : Heap}
abbrev s_law : Stmt := top 54
abbrev nm_law : List PySem.Str := ["_law_script", "_law_tape_here", "_law_process", "_law_edits_here", "_law_data_here", "_law_size", "_law_rows", "_law_due", "_law_told", "_law_edit", "_law_pair", "_law_row"]
theorem sc_law : FnScope nm_law ["_law_script"] (defScope s_law) := ⟨rfl, rfl, rfl, by decide +kernel, rfl, by decide +kernel, by decide +kernel⟩
def spLaw (K : PySem.W.Frag) : Sp := fun vs H Q _ => ∃ (a : Addr) (ns : List Int), vs = [.ref a] ∧ SqL K H a (ns.map V.int) ∧ ∀ H', Q (.bl true) H'
theorem ok_law {k : Nat} (D : Dfn K mg "law" s_law) (M : Mo K mg) (hk : 30 ≤ k)
    (C_law_tape : Callee P w K mg base 1 "_law_tape" ["_law_script"] (spTape K)) (C_law_draw : Callee P w K mg base 1 "_law_draw" ["_law_tape_here", "_law_many"] spDraw) (C_law_plain_process : Callee P w K mg base 16 "_law_plain_process" ["_law_tape_here", "_law_nodes", "_law_comparisons"] (spProcess K))
    (C_law_edits : Callee P w K mg base 21 "_law_edits" ["_law_tape_here", "_law_tree", "_law_most"] (spEdits K)) (C_law_data : Callee P w K mg base 22 "_law_data" ["_law_tape_here", "_law_process"] (spData K)) (C_law_meant : Callee P w K mg base (k + 3) "_law_meant" ["_law_tree", "_law_pairs", "_law_attributes_here", "_law_data_here", "_law_size"] (spMeant K 20))
    (C_runs_of : CalleeG P w K mg base k "runs_of" ["process", "data", "most"] 2 ["most"] (spRuns K)) (C_edited : Callee P w K mg base 24 "edited" ["process", "edits"] (spEdited K)) (C_law_same : Callee P w K mg base 3 "_law_same" ["_law_told", "_law_due"] (spSame K 3)) :
    ∀ (f : Addr) (fd : FuncData), FunD K "law" "law" (defArgs s_law) (defBody s_law) (defScope s_law) [] [] f fd → FnOk P w K mg base CX0 (k + 4) f fd ["_law_script"] (spLaw K) := by
  intro f fd F
  refine F.ok sc_law (fun vs H Q E h => ?_) fun cdv A outer s H vs Q E hr hsp => ?_
  · obtain ⟨a, ns, rfl, _⟩ := h
    rfl
  obtain ⟨a, ns, rfl, hS, q⟩ := hsp
  suffices hb : ∃ t, PSs (cxOf CX0 P w K mg base nm_law "law" (defScope s_law) f cdv A outer s H E).nox (defBody s_law) t ∧ t { nx := fun _ H' => Q .non H', rt := Q } (start nm_law [.ref a]) H by
    obtain ⟨t, h, q⟩ := hb
    exact ⟨t, h.nox, q⟩
  refine ⟨_, (pss_cons (ps_set (i := 1) sc_law.nd rfl (by first | exact Or.inl rfl | exact Or.inr rfl) (pe_callC C_law_tape (hr.mono (by omega)) (by rfl) (pa_cons (pv 0) pa_nil)))
    (pss_cons (ps_set (i := 2) sc_law.nd rfl (by first | exact Or.inl rfl | exact Or.inr rfl) (pe_callC C_law_plain_process (hr.mono (by omega)) (by rfl) (pa_cons (pv 1) (pa_cons (pe_ix ix_list (pe_lst (pa_cons pe_int (pa_cons pe_int (pa_cons pe_int (pa_cons pe_int pa_nil))))) (pe_callC C_law_draw (hr.mono (by omega)) (by rfl) (pa_cons (pv 1) (pa_cons pe_int pa_nil))) (fun _ _ => rfl)) (pa_cons pe_int pa_nil)))))
    (pss_cons (ps_set (i := 3) sc_law.nd rfl (by first | exact Or.inl rfl | exact Or.inr rfl) (pe_callC C_law_edits (hr.mono (by omega)) (by rfl) (pa_cons (pv 1) (pa_cons (pe_ix ix_tup (pv 2) pe_int (fun _ _ => rfl)) (pa_cons pe_int pa_nil)))))
    (pss_cons (ps_set (i := 4) sc_law.nd rfl (by first | exact Or.inl rfl | exact Or.inr rfl) (pe_callC C_law_data (hr.mono (by omega)) (by rfl) (pa_cons (pv 1) (pa_cons (pv 2) pa_nil))))
    (pss_cons (ps_set (i := 5) sc_law.nd rfl (by first | exact Or.inl rfl | exact Or.inr rfl) (pe_callC C_law_draw (hr.mono (by omega)) (by rfl) (pa_cons (pv 1) (pa_cons pe_int pa_nil))))
    (pss_cons (ps_set (i := 6) sc_law.nd rfl (by first | exact Or.inl rfl | exact Or.inr rfl) (pe_callC C_law_meant (hr.mono (by omega)) (by rfl) (pa_cons (pe_ix ix_tup (pv 2) pe_int (fun _ _ => rfl)) (pa_cons (pe_lc (own := [("_law_edit", 9)]) rfl sc_law.nd (pi_tup (pv 3)) (blkOk_by (own := [("_law_edit", 9)]) (N := nm_law) (sc := defScope s_law) (by decide +kernel)) (fun _ _ _ _ _ => (pg_name (i := 9) sc_law.nd rfl (by first | exact Or.inl rfl | exact Or.inr rfl))) (fun _ _ _ _ _ => pts_nil) (fun _ _ _ _ _ => (pe_slice (sl_tupK (K := K) rfl) (pv 9) po_none (po_some pe_int)))) (pa_cons (pe_ix ix_tup (pv 2) pe_int (fun _ _ => rfl)) (pa_cons (pv 4) (pa_cons (pv 5) pa_nil)))))))
    (pss_cons (ps_setLc (i := 7) (own := [("_law_pair", 10)]) rfl sc_law.nd rfl rfl (sw_true rfl rfl rfl (by decide +kernel)) (pi_list (pe_callB (cr_sortW hr.units) (by rfl) M.sorted (by decide +kernel) (pa_cons (pe_lc (own := [("_law_row", 11)]) rfl sc_law.nd (pi_list (pv 6)) (blkOk_by (own := [("_law_row", 11)]) (N := nm_law) (sc := defScope s_law) (by decide +kernel)) (fun _ _ _ _ _ => (pg_name (i := 11) sc_law.nd rfl (by first | exact Or.inl rfl | exact Or.inr rfl))) (fun _ _ _ _ _ => pts_nil) (fun _ _ _ _ _ => (pe_tup (pa_cons (pe_callB (cr_lenK (K := K) rfl) (by rfl) M.len PySem.boot_len (pa_cons (pv 11) pa_nil)) (pa_cons (pv 11) pa_nil))))) pa_nil))) (blkOk_by (own := [("_law_pair", 10)]) (N := nm_law) (sc := defScope s_law) (by decide +kernel)) (fun _ _ _ _ _ => (pg_name (i := 10) sc_law.nd rfl (by first | exact Or.inl rfl | exact Or.inr rfl))) (fun _ _ _ _ _ => pts_nil) (fun _ _ _ _ _ => (pe_ix (ix_tupK (K := K) rfl) (pv 10) pe_int (fun _ _ => rfl))))
    (pss_cons (ps_set (i := 8) sc_law.nd rfl (by first | exact Or.inl rfl | exact Or.inr rfl) (pe_listRuns C_runs_of (hr.mono (by omega)) (by rfl) M.list_ (by rfl) (pa_cons (pe_callC C_edited (hr.mono (by omega)) (by rfl) (pa_cons (pv 2) (pa_cons (pv 3) pa_nil))) (pa_cons (pv 4) pa_nil)) (pk_cons (pv 5) pk_nil)))
    (pss_one (ps_ret (pe_callC C_law_same (hr.mono (by omega)) (by rfl) (pa_cons (pe_callTy call_tuple_of (by rfl) M.tuple_ (by decide +kernel) (pa_cons (pv 8) pa_nil)) (pa_cons (pe_callTy call_tuple_of (by rfl) M.tuple_ (by decide +kernel) (pa_cons (pv 7) pa_nil)) pa_nil))))))))))))), ?_⟩
  refine ⟨_, rfl, a, ns, rfl, hS, fun tp c H1 e1 ntp ht => ?_⟩
  -- the process
  refine ⟨_, rfl, one_four rfl, fun p0 np0 => ⟨_, rfl, tp, c, 4, rfl, ht.same (same_upd np0), by decide, by decide, fun r H2 h0 h1 d2 => ?_⟩⟩
  have d12 := (Dr.new (o := .lst [V.int 3, .int 5, .int 6, .int 7]) ht np0).trans d2
  have hp2 := d2.keep p0 _ (ht.ne_of np0) upd_same
  obtain ⟨v, hv, hmem⟩ := pickAt (xs := [V.int 3, .int 5, .int 6, .int 7]) h0 h1
  obtain ⟨nodes, rfl, hn1, hn7⟩ : ∃ nodes : Nat, v = V.int nodes ∧ 1 ≤ nodes ∧ nodes ≤ 7 :=
    mem4 (P := fun v => ∃ nodes : Nat, v = V.int nodes ∧ 1 ≤ nodes ∧ nodes ≤ 7) hmem ⟨3, rfl, by decide, by decide⟩ ⟨5, rfl, by decide, by decide⟩ ⟨6, rfl, by decide, by decide⟩ ⟨7, rfl, by decide, by decide⟩
  refine ⟨p0, _, r, _, rfl, rfl, lstS hp2, hv, tp, c, nodes, 2, rfl, d12.tape, hn1, hn7, by decide, fun pr acts pa x t ats H3 d3 hpr hx hats hg hcnt => ?_⟩
  clear hv hmem hp2 d2
  have d13 := d12.trans d3
  have hplen : t.parts.length ≤ 7 := Nat.le_trans hg.len hn7
  have hht := ht_parts t
  have hlf := lf_pos t
  have hdph := dp_ht t
  have hlow := hg.low hn7
  have hok := ok_of t hg.ok hlow
  have hnm : ∀ n ∈ ats.map (·.nm), Nm 100 n := by
    intro n hn
    obtain ⟨z, hz, rfl⟩ := List.mem_map.mp hn
    exact (hats.ok z hz).1
  -- the edits
  refine ⟨_, rfl, _, rfl, pr, _, _, _, rfl, rfl, hpr, at2, tp, c, t, x, ats.map (·.nm), 3, rfl, d13.tape, hx, by omega, by omega, hg.ok, hnm, by decide, fun pe ys eds H4 d4 hpe hys hel hgood => ?_⟩
  have k4 := d4.tk d13.tape
  -- the data
  refine ⟨_, rfl, _, rfl, tp, c, pr, pa, acts, x, t, ats, ats.map (·.nm), rfl, d4.tape, k4.sq hpr, hx.te k4, hats.te k4, by omega, by omega, by omega, hg.ok, fun pd ds H5 d5 hpd hdl => ?_⟩
  have k5 := d5.tk d4.tape
  -- the size
  refine ⟨_, rfl, tp, c, 4, rfl, d5.tape, by decide, by decide, fun rs H6 h06 h16 d6 => ?_⟩
  obtain ⟨size, rfl⟩ : ∃ size : Nat, rs = (size : Int) := ⟨rs.toNat, by omega⟩
  have hs3 : size ≤ 3 := by omega
  have k6 := d6.tk d5.tape
  have k46 := k5.trans k6
  have k36 := k4.trans k46
  have hpr6 := k36.sq hpr
  have hx6 := hx.te k36
  have hpe6 := k46.sq hpe
  have hys6 := Rows.te (stays_E K) k46 hys
  have hdat6 : Dat K H6 pa pd ats ds := by
    refine ⟨(hats.te k36).ex, k6.sq hpd, hdl.symm, ?_⟩
    have := hats.len
    omega
  clear k4 k5 k6 k46 k36 d6 d5 d4 d13 d12 d3
  -- the rows
  refine ⟨_, rfl, pr, _, _, _, rfl, rfl, hpr6, at2, _, rfl, pe, rfl, ⟨_, hpe6⟩, fun D1 nD1 => ?_⟩
  refine lc_mapT (bs := eds) (RepE K) (RepX K) (stays_E K) (stays_X K) (fun e => e) rfl hpe6 hys6 nD1 (sz (by omega)) (fun _ => rfl) (fun i z e Hc hei hF eH Q1 hQ => ?_) (fun H7 zs e7 hD1 hzs => ?_)
  · obtain ⟨b, w', rfl, hb⟩ := hF
    refine ⟨_, rfl, ?_⟩
    unfold tNoPart
    refine ⟨2, rfl, ?_⟩
    exact slT (zs := [V.str e.1.nm, .int e.2]) hb rfl fun p H' e' hp => hQ _ H' e' ⟨p, rfl, hp⟩
  rw [List.map_id'] at hzs
  have hpr7 := same_tup e7 hpr6
  have hx7 := hx6.same e7
  have hdat7 := hdat6.same e7
  refine ⟨_, rfl, pr, _, _, _, rfl, rfl, hpr7, at1, _, rfl, _, rfl, t, eds, ats, ds, size, ⟨⟨x, D1, zs, pa, pd, rfl, hx7, lstS hD1, hzs, hdat7⟩, hok, hs3⟩, by omega, fun H8 lr rys e8 hlr hrys => ?_⟩
  have wrows := meant_wb (Cnd.ev (valOf ats ds)) eds size t hok
  have frows := wrows.few hs3
  have hplain := fun (due : List Wd) => plain_law (Cnd.ev (valOf ats ds)) eds size t (unok_of hg hgood t fun p hp => hp) (due := due)
  generalize meant (Cnd.ev (valOf ats ds)) eds size t = rows at hrys wrows frows hplain
  -- what is due
  refine ⟨_, rfl, lr, rfl, ⟨_, lstS hlr⟩, fun D2 nD2 => ?_⟩
  refine lc_map (bs := rows) RepS (fun H u v => PairW K H v u) stays_S (fun _ _ _ _ e ⟨t, r, hv, h1, h2⟩ => ⟨t, r, hv, e.sq h1, e.sq h2⟩) (fun u => u) rfl (lstS hlr) hrys nD2 (sz (by omega)) (fun _ => rfl) (fun i z u Hc hui hF eH Q1 hQ => ?_) (fun H9 ps e9 hD2 hps => ?_)
  · obtain ⟨p, rfl, hp⟩ := hF
    refine ⟨_, rfl, p, _, rfl, .inr (tupS hp), _, rfl, tup2, fun p2 np2 => hQ _ _ (same_upd np2) ⟨p2, p, rfl, ?_, tupS (same_upd np2 _ _ hp)⟩⟩
    have := tupS (K := K) (@upd_same Hc p2 (.tup [V.int ((u.map V.int).length : Nat), .ref p]))
    rw [List.length_map] at this
    rw [List.length_map]
    exact this
  rw [List.map_id'] at hps
  refine ⟨D2, ps, rows, rfl, lstS hD2, hps, fun p3 qs np3 hqs => ?_⟩
  have hperm := List.mergeSort_perm rows leW
  have hpair := sortW_pairwise rows
  have hdue := hplain _ hperm hpair
  have hduel := hperm.length_eq
  generalize rows.mergeSort leW = due at hqs hdue hduel
  have e10 := same_upd (o := .lst qs) np3
  have hqs10 : Rows (fun u v => PairW K (upd H9 p3 (.lst qs)) v u) qs due := L2.Paired.mapP hqs fun v u ⟨t, r, hv, h1, h2⟩ => ⟨t, r, hv, same_tup e10 h1, same_tup e10 h2⟩
  have hp3 : upd H9 p3 (.lst qs) p3 = some (.lst qs) := upd_same
  generalize upd H9 p3 (.lst qs) = H10 at e10 hqs10 hp3
  refine ⟨p3, rfl, ⟨_, lstS hp3⟩, fun D3 nD3 => ?_⟩
  refine lc_map (bs := due) (fun H u v => PairW K H v u) (RepW K) (fun _ _ _ _ e ⟨t, r, hv, h1, h2⟩ => ⟨t, r, hv, e.sq h1, e.sq h2⟩) (stays_W K) (fun u => u) rfl (lstS hp3) hqs10 nD3 (sz (by omega)) (fun _ => rfl) (fun i z u Hc hui hF eH Q1 hQ => ?_) (fun H11 ws e11 hD3 hws => ?_)
  · obtain ⟨b, r', rfl, h1, h2⟩ := hF
    exact ⟨_, rfl, b, _, _, _, rfl, rfl, h1, at1, hQ _ _ (Same.refl Hc) ⟨r', rfl, h2⟩⟩
  rw [List.map_id'] at hws
  -- what is told
  have e611 := e7.trans (e8.trans (e9.trans (e10.trans e11)))
  have hpr11 := same_tup e611 hpr6
  refine ⟨_, rfl, _, rfl, pr, pe, acts, .ref pa, x, t, ys, eds, rfl, hpr11, hx6.same e611, same_tup e611 hpe6, Rows.same (stays_E K) e611 hys6, by omega, by omega, by omega, fun e he => (hgood e he).ok hg, fun pr2 y H12 e12 hpr2 hy => ?_⟩
  have hsmall := tree_small (Cnd.ev (valOf ats ds)) eds t hok hplen hs3
  have hcd := changed_dp eds t
  have htot := hsmall.tot
  have hml : ∀ u ∈ runs (restOf (Cnd.ev (valOf ats ds)) (changed eds t)) size, u.length ≤ 3 := fun u hu => by
    have := (mem_runs _ _ u).mp hu
    omega
  refine ⟨_, rfl, _, rfl, rfl, rfl, pr2, pa, pd, acts, y, changed eds t, ats, ds, size, rfl, hpr2, hy, by omega, changed_ok eds t hg.ok, (hdat6.same e611).same e12, hsmall, fun out H13 e13 hout => fun pl npl => ?_⟩
  rw [← hdue] at hout htot hml
  have e14 := same_upd (o := .lst out) npl
  have e1114 := e12.trans (e13.trans e14)
  -- alike
  refine ⟨_, rfl, pl, out, rfl, .inl ⟨lstS upd_same, fun p5 np5 => ⟨_, rfl, D3, ws, rfl, .inl ⟨lstS (same_upd np5 _ _ (e1114 _ _ hD3)), fun p6 np6 => ?_⟩⟩⟩⟩
  have e15 := same_upd (o := .tup out) np5
  have e16 := same_upd (o := .tup ws) np6
  have hoL := Rows.same (stays_W K) (e14.trans (e15.trans e16)) hout
  have hwL := Rows.same (stays_W K) (e1114.trans (e15.trans e16)) hws
  have lo := hoL.len
  have lw := hwL.len
  refine ⟨.ref p5, .ref p6, 2, rfl, ⟨p5, p6, out, ws, rfl, rfl, tupS (e16 _ _ upd_same), tupS upd_same, by omega, by omega, fun i u v hu hv => ?_⟩, by decide, fun H' _ => q H'⟩
  obtain ⟨b1, hb1, f1⟩ := hoL.get hu
  obtain ⟨b2, hb2, f2⟩ := hwL.get hv
  rw [hb1] at hb2
  cases hb2
  obtain ⟨a1, rfl, g1⟩ := f1
  obtain ⟨a2, rfl, g2⟩ := f2
  have hbl := hml b1 (List.mem_of_getElem? hb1)
  refine ⟨a1, a2, _, _, rfl, rfl, g1, g2, rfl, by rw [List.length_map]; omega, fun j u v hu hv => ?_⟩
  rw [hu] at hv
  cases hv
  rw [List.getElem?_map] at hu
  obtain ⟨n, _, rfl⟩ := Option.map_eq_some_iff.mp hu
  exact ⟨n, rfl, rfl⟩
end
end Tf

namespace Tf
open PySem PySem.Spec PyProof.Rows L2
def mkD (n : Str) (st : Stmt) : He.DefD := ⟨(n, none), n, n, defArgs st, defBody st, defScope st, [], []⟩
def fns_0 : List He.DefD := [mkD "operands" s_operands, mkD "parts_of" s_parts_of, mkD "part_at" s_part_at, mkD "applies" s_applies, mkD "changed" s_changed, mkD "edited" s_edited, mkD "attribute_index" s_attribute_index, mkD "compares" s_compares, mkD "holds" s_holds, mkD "joined" s_joined, mkD "rest_of" s_rest_of, mkD "distinct" s_distinct]
def fns_1 : List He.DefD := [mkD "can_end" s_can_end, mkD "after_step_of_loop" s_after_step_of_loop, mkD "after_step" s_after_step, mkD "after_one_more" s_after_one_more, mkD "first_steps" s_first_steps, mkD "next_steps" s_next_steps, mkD "shortest" s_shortest, mkD "longer" s_longer, mkD "runs_of" s_runs_of, mkD "_law_tape" s_law_tape, mkD "_law_draw" s_law_draw, mkD "_law_names" s_law_names]
def fns_2 : List He.DefD := [mkD "_law_attributes" s_law_attributes, mkD "_law_frame" s_law_frame, mkD "_law_comparison" s_law_comparison, mkD "_law_condition" s_law_condition, mkD "_law_parts" s_law_parts, mkD "_law_values" s_law_values, mkD "_law_true" s_law_true, mkD "_law_data" s_law_data, mkD "_law_grow" s_law_grow, mkD "_law_plain_process" s_law_plain_process, mkD "_law_marks" s_law_marks, mkD "_law_edits" s_law_edits]
def fns_3 : List He.DefD := [mkD "_law_same" s_law_same, mkD "_law_short" s_law_short, mkD "_law_chains" s_law_chains, mkD "_law_mixes" s_law_mixes, mkD "_law_blends" s_law_blends, mkD "_law_often" s_law_often, mkD "_law_plainly" s_law_plainly, mkD "_law_meant" s_law_meant, mkD "law" s_law]
def fns : List He.DefD := fns_0 ++ fns_1 ++ fns_2 ++ fns_3
def facts_0 : List He.Fa := [.glo "operands", .glo "parts_of", .glo "part_at", .glo "applies", .glo "changed", .glo "edited", .glo "attribute_index", .glo "compares", .glo "holds", .glo "joined", .glo "rest_of", .glo "distinct"]
def facts_1 : List He.Fa := [.glo "can_end", .glo "after_step_of_loop", .glo "after_step", .glo "after_one_more", .glo "first_steps", .glo "next_steps", .glo "shortest", .glo "longer", .glo "runs_of", .glo "_law_tape", .glo "_law_draw", .glo "_law_names"]
def facts_2 : List He.Fa := [.glo "_law_attributes", .glo "_law_frame", .glo "_law_comparison", .glo "_law_condition", .glo "_law_parts", .glo "_law_values", .glo "_law_true", .glo "_law_data", .glo "_law_grow", .glo "_law_plain_process", .glo "_law_marks", .glo "_law_edits"]
def facts_3 : List He.Fa := [.glo "_law_same", .glo "_law_short", .glo "_law_chains", .glo "_law_mixes", .glo "_law_blends", .glo "_law_often", .glo "_law_plainly", .glo "_law_meant", .glo "law", .glo "DONE", .free "len", .free "int"]
def facts_4 : List He.Fa := [.free "abs", .free "list", .free "tuple", .free "range", .free "min", .free "max", .free "sorted", .free "set", .free "any", .free "enumerate", .free "isinstance", .free "str"]
def facts_5 : List He.Fa := [.free "bool"]
def facts : List He.Fa := facts_0 ++ facts_1 ++ facts_2 ++ facts_3 ++ facts_4 ++ facts_5
def loose_0 : List PySem.Str := ["FitError", "EditDoesNotApply", "DONE", "operands", "parts_of", "part_at", "applies", "changed", "edited", "attribute_index", "compares", "holds"]
def loose_1 : List PySem.Str := ["joined", "rest_of", "distinct", "can_end", "after_step_of_loop", "after_step", "after_one_more", "first_steps", "next_steps", "shortest", "longer", "runs_of"]
def loose_2 : List PySem.Str := ["_law_tape", "_law_draw", "_law_names", "_law_attributes", "_law_frame", "_law_comparison", "_law_condition", "_law_parts", "_law_values", "_law_true", "_law_data", "_law_grow"]
def loose_3 : List PySem.Str := ["_law_plain_process", "_law_marks", "_law_edits", "_law_same", "_law_short", "_law_chains", "_law_mixes", "_law_blends", "_law_often", "_law_plainly", "_law_meant"]
def loose : List PySem.Str := loose_0 ++ loose_1 ++ loose_2 ++ loose_3
abbrev RowT : PySem.W.OpenRow := PySem.W.OpenLaw.row PySem.Challenge.rw_tracefit_k58_whole_runs_after_edits
def exB (K : PySem.W.Frag) : Bool := He.tupB K "DONE" [.str "done"]
abbrev hk : PySem.W.Hook := He.hookX 4 facts fns [] [] exB
def obH (s : PySem.W.SharedT) : He.AlX := He.obsX 4 facts fns [] [] exB (HandSHeadRun.getT s)
theorem obH_eq (s : PySem.W.SharedT) : obH s = hk.obs s.abs := He.obsX_eq (HandSHeadRun.getT_eq s)
theorem run (w : World) : HandSHeadRun.RunEq RowT (PySem.W.view RowT.prog [54]) hk obH 6000 loose w := by
  intro os
  kernel_rfl

section
variable {P : Program} {w : World} {K : PySem.W.Frag} {mg : PySem.Str → Option Value} {h : Heap}
theorem mo_of (X : K.In h) (G : h.Ns mainGlobals mg) (c : He.SaysX facts fns [] [] exB w h K) : Mo K mg where
  len := He.free_ok X G (c.t.d.fact 46 (f := .free "len") rfl)
  abs := He.free_ok X G (c.t.d.fact 48 (f := .free "abs") rfl)
  max := He.free_ok X G (c.t.d.fact 53 (f := .free "max") rfl)
  min := He.free_ok X G (c.t.d.fact 52 (f := .free "min") rfl)
  any := He.free_ok X G (c.t.d.fact 56 (f := .free "any") rfl)
  sorted := He.free_ok X G (c.t.d.fact 54 (f := .free "sorted") rfl)
  isinstance := He.free_ok X G (c.t.d.fact 58 (f := .free "isinstance") rfl)
  enumerate := He.free_ok X G (c.t.d.fact 57 (f := .free "enumerate") rfl)
  range := He.free_ok X G (c.t.d.fact 51 (f := .free "range") rfl)
  int_ := He.free_ok X G (c.t.d.fact 47 (f := .free "int") rfl)
  tuple_ := He.free_ok X G (c.t.d.fact 50 (f := .free "tuple") rfl)
  list_ := He.free_ok X G (c.t.d.fact 49 (f := .free "list") rfl)
  set_ := He.free_ok X G (c.t.d.fact 55 (f := .free "set") rfl)
  str_ := He.free_ok X G (c.t.d.fact 59 (f := .free "str") rfl)
  bool_ := He.free_ok X G (c.t.d.fact 60 (f := .free "bool") rfl)
  done := He.glo_ok X G (c.t.d.fact 45 (f := .glo "DONE") rfl)
  doneT := fun H => He.tupB_ok c.more H
end
section
variable {P : Program} {w : World} {K : PySem.W.Frag} {mg : PySem.Str → Option Value} {h : Heap}
theorem dfn_operands (X : K.In h) (G : h.Ns mainGlobals mg) (c : He.SaysX facts fns [] [] exB w h K) : Dfn K mg "operands" s_operands := by
  obtain ⟨fd, F⟩ := c.t.d.def_ 0 (d := mkD "operands" s_operands) rfl
  exact ⟨⟨_, fd, F, He.glo_ok X G (c.t.d.fact 0 (f := .glo "operands") rfl)⟩⟩
theorem dfn_parts_of (X : K.In h) (G : h.Ns mainGlobals mg) (c : He.SaysX facts fns [] [] exB w h K) : Dfn K mg "parts_of" s_parts_of := by
  obtain ⟨fd, F⟩ := c.t.d.def_ 1 (d := mkD "parts_of" s_parts_of) rfl
  exact ⟨⟨_, fd, F, He.glo_ok X G (c.t.d.fact 1 (f := .glo "parts_of") rfl)⟩⟩
theorem dfn_part_at (X : K.In h) (G : h.Ns mainGlobals mg) (c : He.SaysX facts fns [] [] exB w h K) : Dfn K mg "part_at" s_part_at := by
  obtain ⟨fd, F⟩ := c.t.d.def_ 2 (d := mkD "part_at" s_part_at) rfl
  exact ⟨⟨_, fd, F, He.glo_ok X G (c.t.d.fact 2 (f := .glo "part_at") rfl)⟩⟩
theorem dfn_applies (X : K.In h) (G : h.Ns mainGlobals mg) (c : He.SaysX facts fns [] [] exB w h K) : Dfn K mg "applies" s_applies := by
  obtain ⟨fd, F⟩ := c.t.d.def_ 3 (d := mkD "applies" s_applies) rfl
  exact ⟨⟨_, fd, F, He.glo_ok X G (c.t.d.fact 3 (f := .glo "applies") rfl)⟩⟩
theorem dfn_changed (X : K.In h) (G : h.Ns mainGlobals mg) (c : He.SaysX facts fns [] [] exB w h K) : Dfn K mg "changed" s_changed := by
  obtain ⟨fd, F⟩ := c.t.d.def_ 4 (d := mkD "changed" s_changed) rfl
  exact ⟨⟨_, fd, F, He.glo_ok X G (c.t.d.fact 4 (f := .glo "changed") rfl)⟩⟩
theorem dfn_edited (X : K.In h) (G : h.Ns mainGlobals mg) (c : He.SaysX facts fns [] [] exB w h K) : Dfn K mg "edited" s_edited := by
  obtain ⟨fd, F⟩ := c.t.d.def_ 5 (d := mkD "edited" s_edited) rfl
  exact ⟨⟨_, fd, F, He.glo_ok X G (c.t.d.fact 5 (f := .glo "edited") rfl)⟩⟩
theorem dfn_attribute_index (X : K.In h) (G : h.Ns mainGlobals mg) (c : He.SaysX facts fns [] [] exB w h K) : Dfn K mg "attribute_index" s_attribute_index := by
  obtain ⟨fd, F⟩ := c.t.d.def_ 6 (d := mkD "attribute_index" s_attribute_index) rfl
  exact ⟨⟨_, fd, F, He.glo_ok X G (c.t.d.fact 6 (f := .glo "attribute_index") rfl)⟩⟩
theorem dfn_compares (X : K.In h) (G : h.Ns mainGlobals mg) (c : He.SaysX facts fns [] [] exB w h K) : Dfn K mg "compares" s_compares := by
  obtain ⟨fd, F⟩ := c.t.d.def_ 7 (d := mkD "compares" s_compares) rfl
  exact ⟨⟨_, fd, F, He.glo_ok X G (c.t.d.fact 7 (f := .glo "compares") rfl)⟩⟩
theorem dfn_holds (X : K.In h) (G : h.Ns mainGlobals mg) (c : He.SaysX facts fns [] [] exB w h K) : Dfn K mg "holds" s_holds := by
  obtain ⟨fd, F⟩ := c.t.d.def_ 8 (d := mkD "holds" s_holds) rfl
  exact ⟨⟨_, fd, F, He.glo_ok X G (c.t.d.fact 8 (f := .glo "holds") rfl)⟩⟩
theorem dfn_joined (X : K.In h) (G : h.Ns mainGlobals mg) (c : He.SaysX facts fns [] [] exB w h K) : Dfn K mg "joined" s_joined := by
  obtain ⟨fd, F⟩ := c.t.d.def_ 9 (d := mkD "joined" s_joined) rfl
  exact ⟨⟨_, fd, F, He.glo_ok X G (c.t.d.fact 9 (f := .glo "joined") rfl)⟩⟩
theorem dfn_rest_of (X : K.In h) (G : h.Ns mainGlobals mg) (c : He.SaysX facts fns [] [] exB w h K) : Dfn K mg "rest_of" s_rest_of := by
  obtain ⟨fd, F⟩ := c.t.d.def_ 10 (d := mkD "rest_of" s_rest_of) rfl
  exact ⟨⟨_, fd, F, He.glo_ok X G (c.t.d.fact 10 (f := .glo "rest_of") rfl)⟩⟩
theorem dfn_distinct (X : K.In h) (G : h.Ns mainGlobals mg) (c : He.SaysX facts fns [] [] exB w h K) : Dfn K mg "distinct" s_distinct := by
  obtain ⟨fd, F⟩ := c.t.d.def_ 11 (d := mkD "distinct" s_distinct) rfl
  exact ⟨⟨_, fd, F, He.glo_ok X G (c.t.d.fact 11 (f := .glo "distinct") rfl)⟩⟩
theorem dfn_can_end (X : K.In h) (G : h.Ns mainGlobals mg) (c : He.SaysX facts fns [] [] exB w h K) : Dfn K mg "can_end" s_can_end := by
  obtain ⟨fd, F⟩ := c.t.d.def_ 12 (d := mkD "can_end" s_can_end) rfl
  exact ⟨⟨_, fd, F, He.glo_ok X G (c.t.d.fact 12 (f := .glo "can_end") rfl)⟩⟩
theorem dfn_after_step_of_loop (X : K.In h) (G : h.Ns mainGlobals mg) (c : He.SaysX facts fns [] [] exB w h K) : Dfn K mg "after_step_of_loop" s_after_step_of_loop := by
  obtain ⟨fd, F⟩ := c.t.d.def_ 13 (d := mkD "after_step_of_loop" s_after_step_of_loop) rfl
  exact ⟨⟨_, fd, F, He.glo_ok X G (c.t.d.fact 13 (f := .glo "after_step_of_loop") rfl)⟩⟩
theorem dfn_after_step (X : K.In h) (G : h.Ns mainGlobals mg) (c : He.SaysX facts fns [] [] exB w h K) : Dfn K mg "after_step" s_after_step := by
  obtain ⟨fd, F⟩ := c.t.d.def_ 14 (d := mkD "after_step" s_after_step) rfl
  exact ⟨⟨_, fd, F, He.glo_ok X G (c.t.d.fact 14 (f := .glo "after_step") rfl)⟩⟩
theorem dfn_after_one_more (X : K.In h) (G : h.Ns mainGlobals mg) (c : He.SaysX facts fns [] [] exB w h K) : Dfn K mg "after_one_more" s_after_one_more := by
  obtain ⟨fd, F⟩ := c.t.d.def_ 15 (d := mkD "after_one_more" s_after_one_more) rfl
  exact ⟨⟨_, fd, F, He.glo_ok X G (c.t.d.fact 15 (f := .glo "after_one_more") rfl)⟩⟩
theorem dfn_first_steps (X : K.In h) (G : h.Ns mainGlobals mg) (c : He.SaysX facts fns [] [] exB w h K) : Dfn K mg "first_steps" s_first_steps := by
  obtain ⟨fd, F⟩ := c.t.d.def_ 16 (d := mkD "first_steps" s_first_steps) rfl
  exact ⟨⟨_, fd, F, He.glo_ok X G (c.t.d.fact 16 (f := .glo "first_steps") rfl)⟩⟩
theorem dfn_next_steps (X : K.In h) (G : h.Ns mainGlobals mg) (c : He.SaysX facts fns [] [] exB w h K) : Dfn K mg "next_steps" s_next_steps := by
  obtain ⟨fd, F⟩ := c.t.d.def_ 17 (d := mkD "next_steps" s_next_steps) rfl
  exact ⟨⟨_, fd, F, He.glo_ok X G (c.t.d.fact 17 (f := .glo "next_steps") rfl)⟩⟩
theorem dfn_shortest (X : K.In h) (G : h.Ns mainGlobals mg) (c : He.SaysX facts fns [] [] exB w h K) : Dfn K mg "shortest" s_shortest := by
  obtain ⟨fd, F⟩ := c.t.d.def_ 18 (d := mkD "shortest" s_shortest) rfl
  exact ⟨⟨_, fd, F, He.glo_ok X G (c.t.d.fact 18 (f := .glo "shortest") rfl)⟩⟩
theorem dfn_longer (X : K.In h) (G : h.Ns mainGlobals mg) (c : He.SaysX facts fns [] [] exB w h K) : Dfn K mg "longer" s_longer := by
  obtain ⟨fd, F⟩ := c.t.d.def_ 19 (d := mkD "longer" s_longer) rfl
  exact ⟨⟨_, fd, F, He.glo_ok X G (c.t.d.fact 19 (f := .glo "longer") rfl)⟩⟩
theorem dfn_runs_of (X : K.In h) (G : h.Ns mainGlobals mg) (c : He.SaysX facts fns [] [] exB w h K) : Dfn K mg "runs_of" s_runs_of := by
  obtain ⟨fd, F⟩ := c.t.d.def_ 20 (d := mkD "runs_of" s_runs_of) rfl
  exact ⟨⟨_, fd, F, He.glo_ok X G (c.t.d.fact 20 (f := .glo "runs_of") rfl)⟩⟩
theorem dfn_law_tape (X : K.In h) (G : h.Ns mainGlobals mg) (c : He.SaysX facts fns [] [] exB w h K) : Dfn K mg "_law_tape" s_law_tape := by
  obtain ⟨fd, F⟩ := c.t.d.def_ 21 (d := mkD "_law_tape" s_law_tape) rfl
  exact ⟨⟨_, fd, F, He.glo_ok X G (c.t.d.fact 21 (f := .glo "_law_tape") rfl)⟩⟩
theorem dfn_law_draw (X : K.In h) (G : h.Ns mainGlobals mg) (c : He.SaysX facts fns [] [] exB w h K) : Dfn K mg "_law_draw" s_law_draw := by
  obtain ⟨fd, F⟩ := c.t.d.def_ 22 (d := mkD "_law_draw" s_law_draw) rfl
  exact ⟨⟨_, fd, F, He.glo_ok X G (c.t.d.fact 22 (f := .glo "_law_draw") rfl)⟩⟩
theorem dfn_law_names (X : K.In h) (G : h.Ns mainGlobals mg) (c : He.SaysX facts fns [] [] exB w h K) : Dfn K mg "_law_names" s_law_names := by
  obtain ⟨fd, F⟩ := c.t.d.def_ 23 (d := mkD "_law_names" s_law_names) rfl
  exact ⟨⟨_, fd, F, He.glo_ok X G (c.t.d.fact 23 (f := .glo "_law_names") rfl)⟩⟩
theorem dfn_law_attributes (X : K.In h) (G : h.Ns mainGlobals mg) (c : He.SaysX facts fns [] [] exB w h K) : Dfn K mg "_law_attributes" s_law_attributes := by
  obtain ⟨fd, F⟩ := c.t.d.def_ 24 (d := mkD "_law_attributes" s_law_attributes) rfl
  exact ⟨⟨_, fd, F, He.glo_ok X G (c.t.d.fact 24 (f := .glo "_law_attributes") rfl)⟩⟩
theorem dfn_law_frame (X : K.In h) (G : h.Ns mainGlobals mg) (c : He.SaysX facts fns [] [] exB w h K) : Dfn K mg "_law_frame" s_law_frame := by
  obtain ⟨fd, F⟩ := c.t.d.def_ 25 (d := mkD "_law_frame" s_law_frame) rfl
  exact ⟨⟨_, fd, F, He.glo_ok X G (c.t.d.fact 25 (f := .glo "_law_frame") rfl)⟩⟩
theorem dfn_law_comparison (X : K.In h) (G : h.Ns mainGlobals mg) (c : He.SaysX facts fns [] [] exB w h K) : Dfn K mg "_law_comparison" s_law_comparison := by
  obtain ⟨fd, F⟩ := c.t.d.def_ 26 (d := mkD "_law_comparison" s_law_comparison) rfl
  exact ⟨⟨_, fd, F, He.glo_ok X G (c.t.d.fact 26 (f := .glo "_law_comparison") rfl)⟩⟩
theorem dfn_law_condition (X : K.In h) (G : h.Ns mainGlobals mg) (c : He.SaysX facts fns [] [] exB w h K) : Dfn K mg "_law_condition" s_law_condition := by
  obtain ⟨fd, F⟩ := c.t.d.def_ 27 (d := mkD "_law_condition" s_law_condition) rfl
  exact ⟨⟨_, fd, F, He.glo_ok X G (c.t.d.fact 27 (f := .glo "_law_condition") rfl)⟩⟩
theorem dfn_law_parts (X : K.In h) (G : h.Ns mainGlobals mg) (c : He.SaysX facts fns [] [] exB w h K) : Dfn K mg "_law_parts" s_law_parts := by
  obtain ⟨fd, F⟩ := c.t.d.def_ 28 (d := mkD "_law_parts" s_law_parts) rfl
  exact ⟨⟨_, fd, F, He.glo_ok X G (c.t.d.fact 28 (f := .glo "_law_parts") rfl)⟩⟩
theorem dfn_law_values (X : K.In h) (G : h.Ns mainGlobals mg) (c : He.SaysX facts fns [] [] exB w h K) : Dfn K mg "_law_values" s_law_values := by
  obtain ⟨fd, F⟩ := c.t.d.def_ 29 (d := mkD "_law_values" s_law_values) rfl
  exact ⟨⟨_, fd, F, He.glo_ok X G (c.t.d.fact 29 (f := .glo "_law_values") rfl)⟩⟩
theorem dfn_law_true (X : K.In h) (G : h.Ns mainGlobals mg) (c : He.SaysX facts fns [] [] exB w h K) : Dfn K mg "_law_true" s_law_true := by
  obtain ⟨fd, F⟩ := c.t.d.def_ 30 (d := mkD "_law_true" s_law_true) rfl
  exact ⟨⟨_, fd, F, He.glo_ok X G (c.t.d.fact 30 (f := .glo "_law_true") rfl)⟩⟩
theorem dfn_law_data (X : K.In h) (G : h.Ns mainGlobals mg) (c : He.SaysX facts fns [] [] exB w h K) : Dfn K mg "_law_data" s_law_data := by
  obtain ⟨fd, F⟩ := c.t.d.def_ 31 (d := mkD "_law_data" s_law_data) rfl
  exact ⟨⟨_, fd, F, He.glo_ok X G (c.t.d.fact 31 (f := .glo "_law_data") rfl)⟩⟩
theorem dfn_law_grow (X : K.In h) (G : h.Ns mainGlobals mg) (c : He.SaysX facts fns [] [] exB w h K) : Dfn K mg "_law_grow" s_law_grow := by
  obtain ⟨fd, F⟩ := c.t.d.def_ 32 (d := mkD "_law_grow" s_law_grow) rfl
  exact ⟨⟨_, fd, F, He.glo_ok X G (c.t.d.fact 32 (f := .glo "_law_grow") rfl)⟩⟩
theorem dfn_law_plain_process (X : K.In h) (G : h.Ns mainGlobals mg) (c : He.SaysX facts fns [] [] exB w h K) : Dfn K mg "_law_plain_process" s_law_plain_process := by
  obtain ⟨fd, F⟩ := c.t.d.def_ 33 (d := mkD "_law_plain_process" s_law_plain_process) rfl
  exact ⟨⟨_, fd, F, He.glo_ok X G (c.t.d.fact 33 (f := .glo "_law_plain_process") rfl)⟩⟩
theorem dfn_law_marks (X : K.In h) (G : h.Ns mainGlobals mg) (c : He.SaysX facts fns [] [] exB w h K) : Dfn K mg "_law_marks" s_law_marks := by
  obtain ⟨fd, F⟩ := c.t.d.def_ 34 (d := mkD "_law_marks" s_law_marks) rfl
  exact ⟨⟨_, fd, F, He.glo_ok X G (c.t.d.fact 34 (f := .glo "_law_marks") rfl)⟩⟩
theorem dfn_law_edits (X : K.In h) (G : h.Ns mainGlobals mg) (c : He.SaysX facts fns [] [] exB w h K) : Dfn K mg "_law_edits" s_law_edits := by
  obtain ⟨fd, F⟩ := c.t.d.def_ 35 (d := mkD "_law_edits" s_law_edits) rfl
  exact ⟨⟨_, fd, F, He.glo_ok X G (c.t.d.fact 35 (f := .glo "_law_edits") rfl)⟩⟩
theorem dfn_law_same (X : K.In h) (G : h.Ns mainGlobals mg) (c : He.SaysX facts fns [] [] exB w h K) : Dfn K mg "_law_same" s_law_same := by
  obtain ⟨fd, F⟩ := c.t.d.def_ 36 (d := mkD "_law_same" s_law_same) rfl
  exact ⟨⟨_, fd, F, He.glo_ok X G (c.t.d.fact 36 (f := .glo "_law_same") rfl)⟩⟩
theorem dfn_law_short (X : K.In h) (G : h.Ns mainGlobals mg) (c : He.SaysX facts fns [] [] exB w h K) : Dfn K mg "_law_short" s_law_short := by
  obtain ⟨fd, F⟩ := c.t.d.def_ 37 (d := mkD "_law_short" s_law_short) rfl
  exact ⟨⟨_, fd, F, He.glo_ok X G (c.t.d.fact 37 (f := .glo "_law_short") rfl)⟩⟩
theorem dfn_law_chains (X : K.In h) (G : h.Ns mainGlobals mg) (c : He.SaysX facts fns [] [] exB w h K) : Dfn K mg "_law_chains" s_law_chains := by
  obtain ⟨fd, F⟩ := c.t.d.def_ 38 (d := mkD "_law_chains" s_law_chains) rfl
  exact ⟨⟨_, fd, F, He.glo_ok X G (c.t.d.fact 38 (f := .glo "_law_chains") rfl)⟩⟩
theorem dfn_law_mixes (X : K.In h) (G : h.Ns mainGlobals mg) (c : He.SaysX facts fns [] [] exB w h K) : Dfn K mg "_law_mixes" s_law_mixes := by
  obtain ⟨fd, F⟩ := c.t.d.def_ 39 (d := mkD "_law_mixes" s_law_mixes) rfl
  exact ⟨⟨_, fd, F, He.glo_ok X G (c.t.d.fact 39 (f := .glo "_law_mixes") rfl)⟩⟩
theorem dfn_law_blends (X : K.In h) (G : h.Ns mainGlobals mg) (c : He.SaysX facts fns [] [] exB w h K) : Dfn K mg "_law_blends" s_law_blends := by
  obtain ⟨fd, F⟩ := c.t.d.def_ 40 (d := mkD "_law_blends" s_law_blends) rfl
  exact ⟨⟨_, fd, F, He.glo_ok X G (c.t.d.fact 40 (f := .glo "_law_blends") rfl)⟩⟩
theorem dfn_law_often (X : K.In h) (G : h.Ns mainGlobals mg) (c : He.SaysX facts fns [] [] exB w h K) : Dfn K mg "_law_often" s_law_often := by
  obtain ⟨fd, F⟩ := c.t.d.def_ 41 (d := mkD "_law_often" s_law_often) rfl
  exact ⟨⟨_, fd, F, He.glo_ok X G (c.t.d.fact 41 (f := .glo "_law_often") rfl)⟩⟩
theorem dfn_law_plainly (X : K.In h) (G : h.Ns mainGlobals mg) (c : He.SaysX facts fns [] [] exB w h K) : Dfn K mg "_law_plainly" s_law_plainly := by
  obtain ⟨fd, F⟩ := c.t.d.def_ 42 (d := mkD "_law_plainly" s_law_plainly) rfl
  exact ⟨⟨_, fd, F, He.glo_ok X G (c.t.d.fact 42 (f := .glo "_law_plainly") rfl)⟩⟩
theorem dfn_law_meant (X : K.In h) (G : h.Ns mainGlobals mg) (c : He.SaysX facts fns [] [] exB w h K) : Dfn K mg "_law_meant" s_law_meant := by
  obtain ⟨fd, F⟩ := c.t.d.def_ 43 (d := mkD "_law_meant" s_law_meant) rfl
  exact ⟨⟨_, fd, F, He.glo_ok X G (c.t.d.fact 43 (f := .glo "_law_meant") rfl)⟩⟩
theorem dfn_law (X : K.In h) (G : h.Ns mainGlobals mg) (c : He.SaysX facts fns [] [] exB w h K) : Dfn K mg "law" s_law := by
  obtain ⟨fd, F⟩ := c.t.d.def_ 44 (d := mkD "law" s_law) rfl
  exact ⟨⟨_, fd, F, He.glo_ok X G (c.t.d.fact 44 (f := .glo "law") rfl)⟩⟩
end
theorem all_of {P : Program} {w : World} {K : PySem.W.Frag} {h : Heap} {mg : PySem.Str → Option Value} {base : Heap} (X : K.In h) (G : h.Ns mainGlobals mg) (c : He.SaysX facts fns [] [] exB w h K) (f : Addr) (fd : FuncData)
    (F : FunD K "law" "law" (defArgs s_law) (defBody s_law) (defScope s_law) [] [] f fd) : FnOk P w K mg base CX0 169 f fd ["_law_script"] (spLaw K) := by
  have M : Mo K mg := mo_of X G c
  have C_joined : Callee P w K mg base 1 "joined" ["kind", "left", "right"] (spJoined K) := ok_joined (dfn_joined X G c) M
  have C_can_end : Callee P w K mg base 60 "can_end" ["rest"] (spCan K 60) := ok_can_end (dfn_can_end X G c) 60
  have C_distinct : Callee P w K mg base 1 "distinct" ["rests"] (spDistinct K) := ok_distinct (dfn_distinct X G c) M
  have C_after_step : Callee P w K mg base 162 "after_step" ["rest", "step"] (spAfter K 51) := ok_after_step (dfn_after_step X G c) (dfn_after_step_of_loop X G c) M C_distinct C_joined C_can_end 51
  have C_after_one_more : Callee P w K mg base 163 "after_one_more" ["rests", "step"] (spMore K) := ok_more (dfn_after_one_more X G c) (by decide) C_after_step C_distinct
  have C_first_steps : Callee P w K mg base 111 "first_steps" ["rest"] (spFirst K 51) := ok_first (dfn_first_steps X G c) C_can_end 51
  have C_next_steps : Callee P w K mg base 112 "next_steps" ["rests"] (spNext K) := ok_next (dfn_next_steps X G c) M C_first_steps
  have C_shortest : Callee P w K mg base 61 "shortest" ["rest"] (spShort K 61) := ok_short (dfn_shortest X G c) M 61
  have C_longer : Callee P w K mg base 164 "longer" ["level", "room"] (spLonger K) := ok_longer (dfn_longer X G c) M (by decide : 61 ≤ 163) (C_next_steps.mono (by decide)) C_after_one_more C_shortest
  have C_attribute_index : Callee P w K mg base 1 "attribute_index" ["attributes", "name"] (spIndex K) := ok_index (dfn_attribute_index X G c) M
  have C_compares : Callee P w K mg base 1 "compares" ["value", "operator", "number"] spCompares := ok_compares (dfn_compares X G c) M
  have C_holds : Callee P w K mg base 21 "holds" ["condition", "attributes", "data"] (spHolds K 20) := ok_holds (dfn_holds X G c) C_compares C_attribute_index 20
  have C_rest_of : Callee P w K mg base 72 "rest_of" ["tree", "attributes", "data"] (spRest K 51) := ok_rest (dfn_rest_of X G c) M C_holds C_joined 51
  have C_runs_of : CalleeG P w K mg base 165 "runs_of" ["process", "data", "most"] 2 ["most"] (spRuns K) := ok_runs (dfn_runs_of X G c) M (by decide : 60 ≤ 164) (C_rest_of.mono (by decide)) C_can_end C_longer
  have C_operands : Callee P w K mg base 1 "operands" ["tree"] (spOperands K) := ok_operands (dfn_operands X G c)
  have C_parts_of : Callee P w K mg base 21 "parts_of" ["tree"] (spParts K 20) := ok_parts (dfn_parts_of X G c) M C_operands 20
  have C_part_at : Callee P w K mg base 22 "part_at" ["tree", "number"] (spPartAt K) := ok_part_at (dfn_part_at X G c) C_parts_of
  have C_applies : Callee P w K mg base 23 "applies" ["tree", "edit"] (spApplies K) := ok_applies (dfn_applies X G c) C_part_at
  have C_changed : Callee P w K mg base 20 "changed" ["tree", "wanted"] (spChanged K 20) := ok_changed (dfn_changed X G c) 20
  have C_edited : Callee P w K mg base 24 "edited" ["process", "edits"] (spEdited K) := ok_edited (dfn_edited X G c) M C_applies C_changed
  have C_law_parts : Callee P w K mg base 20 "_law_parts" ["_law_tree"] (spLParts K 20) := ok_lparts (dfn_law_parts X G c) 20
  have C_law_true : Callee P w K mg base 20 "_law_true" ["_law_condition_here", "_law_attributes_here", "_law_data_here"] (spHolds K 20) := ok_ltrue (dfn_law_true X G c) M 20
  have C_law_short : Callee P w K mg base 1 "_law_short" ["_law_rows", "_law_size"] spShortL := ok_lshort (dfn_law_short X G c) M
  have C_law_mixes : Callee P w K mg base 11 "_law_mixes" ["_law_left", "_law_right"] (spMixes 11) := ok_mixes (dfn_law_mixes X G c) 11
  have C_law_chains : Callee P w K mg base 2 "_law_chains" ["_law_first", "_law_second", "_law_size"] spChains := ok_chains (dfn_law_chains X G c) M C_law_short
  have C_law_blends : Callee P w K mg base 12 "_law_blends" ["_law_first", "_law_second", "_law_size"] spBlends := ok_blends (dfn_law_blends X G c) M C_law_short C_law_mixes
  have C_law_often : Callee P w K mg base 3 "_law_often" ["_law_rows", "_law_again", "_law_size"] spOften := ok_often (dfn_law_often X G c) M C_law_short C_law_chains
  have C_law_meant : Callee P w K mg base 62 "_law_meant" ["_law_tree", "_law_pairs", "_law_attributes_here", "_law_data_here", "_law_size"] (spMeant K 20) := ok_meant (dfn_law_plainly X G c) (dfn_law_meant X G c) C_law_true C_law_short C_law_chains C_law_blends C_law_often 20
  have C_law_same : Callee P w K mg base 3 "_law_same" ["_law_told", "_law_due"] (spSame K 3) := ok_same (dfn_law_same X G c) M 3
  have C_law_tape : Callee P w K mg base 1 "_law_tape" ["_law_script"] (spTape K) := ok_tape (dfn_law_tape X G c) M
  have C_law_draw : Callee P w K mg base 1 "_law_draw" ["_law_tape_here", "_law_many"] spDraw := ok_draw (dfn_law_draw X G c) M
  have C_law_names : Callee P w K mg base 2 "_law_names" ["_law_tape_here", "_law_many"] spNames := ok_names (dfn_law_names X G c) M C_law_draw
  have C_law_attributes : Callee P w K mg base 3 "_law_attributes" ["_law_tape_here", "_law_names_here"] (spAttrs K) := ok_attrs (dfn_law_attributes X G c) M C_law_draw C_law_names
  have C_law_frame : Callee P w K mg base 4 "_law_frame" ["_law_tape_here"] (spFrame K) := ok_frame (dfn_law_frame X G c) M C_law_draw C_law_names C_law_attributes
  have C_law_comparison : Callee P w K mg base 2 "_law_comparison" ["_law_tape_here", "_law_attributes_here"] (spCmp K) := ok_cmp (dfn_law_comparison X G c) M C_law_draw
  have C_law_condition : Callee P w K mg base 6 "_law_condition" ["_law_tape_here", "_law_attributes_here", "_law_room", "_law_depth"] (spCond K 4) := ok_cond (dfn_law_condition X G c) C_law_draw C_law_comparison 4
  have C_law_grow : Callee P w K mg base 15 "_law_grow" ["_law_tape_here", "_law_names_here", "_law_attributes_here", "_law_room", "_law_nodes"] (spGrow K 8) := ok_grow (dfn_law_grow X G c) C_law_draw C_law_condition M 8
  have C_law_plain_process : Callee P w K mg base 16 "_law_plain_process" ["_law_tape_here", "_law_nodes", "_law_comparisons"] (spProcess K) := ok_process (dfn_law_plain_process X G c) C_law_draw C_law_frame C_law_grow
  have C_law_marks : Callee P w K mg base 20 "_law_marks" ["_law_condition_here", "_law_name"] (spMarks K 20) := ok_marks (dfn_law_marks X G c) M 20
  have C_law_values : Callee P w K mg base 21 "_law_values" ["_law_tree", "_law_row"] (spValues K) := ok_values (dfn_law_values X G c) M C_law_parts C_law_marks
  have C_law_data : Callee P w K mg base 22 "_law_data" ["_law_tape_here", "_law_process"] (spData K) := ok_data (dfn_law_data X G c) M C_law_draw C_law_values
  have C_law_edits : Callee P w K mg base 21 "_law_edits" ["_law_tape_here", "_law_tree", "_law_most"] (spEdits K) := ok_edits (dfn_law_edits X G c) M C_law_draw C_law_parts
  exact ok_law (k := 165) (dfn_law X G c) M (by decide) C_law_tape C_law_draw C_law_plain_process C_law_edits C_law_data (C_law_meant.mono (by decide)) C_runs_of C_edited C_law_same f fd F
theorem facts_law {P : Program} {w : World} {K : PySem.W.Frag} {h : Heap} {mg : PySem.Str → Option Value} {f : Addr} (X : K.In h) (G : h.Ns mainGlobals mg) (hfa : mg ("law" : PySem.Str) = some (.ref f)) (c : He.SaysX facts fns [] [] exB w h K) :
    ∃ fd : FuncData, (∀ (s : Shared) (v : Value), BindsTo s fd ⟨[v], []⟩ [("_law_script", v)]) ∧ ∀ base : Heap, K.In base → base.Ns mainGlobals mg → FnOk P w K mg base CX0 169 f fd ["_law_script"] (spLaw K) := by
  obtain ⟨fd, F⟩ := c.t.d.def_ 44 (d := mkD "law" s_law) rfl
  have e := hfa.symm.trans (He.glo_ok X G (c.t.d.fact 44 (f := .glo "law") rfl))
  cases e
  have b := FunD.bindsA (ps := ["_law_script"]) F fun _ _ _ _ _ _ us hl => match us, hl with | [_], _ => rfl
  exact ⟨fd, fun s v => b s [v] rfl, fun base _ _ => all_of X G c _ fd F⟩
end Tf
open PySem PySem.W PySem.Calls PyProof.Rows
theorem PySem.Challenge.cw_tracefit_k58_whole_runs_after_edits_holds : PySem.Challenge.rw_tracefit_k58_whole_runs_after_edits.Holds := by
  w_on; o_law
  refine HandSHeadRun.head_any (r := OpenLaw.row PySem.Challenge.rw_tracefit_k58_whole_runs_after_edits) (q := view (OpenLaw.row PySem.Challenge.rw_tracefit_k58_whole_runs_after_edits).prog [54]) (H := Tf.hk) (ob := Tf.obH) (M := 6000) (loose := Tf.loose) (d := HandSHeadRun.topDef (OpenLaw.row PySem.Challenge.rw_tracefit_k58_whole_runs_after_edits).prog 54) (kwd := []) Tf.obH_eq
    (by kernel_rfl) (fun s => by kernel_rfl) Tf.run (by kernel_rfl) (by kernel_rfl) (by kernel_rfl) (by rfl) (by first | assumption | decide +kernel) (by decide +kernel) ⟨rfl, rfl, rfl, rfl, rfl, by decide +kernel⟩ ?hw ?hc
  case hw => w_witness2
  case hc =>
    refine L2.walk_ofE (l := PySem.Challenge.rw_tracefit_k58_whole_runs_after_edits) (n := 63) (k := 169) (x := "_law_script") (CX := L2.CX0) rfl (by decide) (by kernel_rfl) ⟨rfl, by decide, by decide⟩ ?F (fun _ _ _ _ z => z)
    intro w mg fa h Y G hmg0
    obtain ⟨K, KX, c⟩ := Y
    have hmg : mg ("law" : PySem.Str) = some (.ref fa) := by
      have e : (HandSHeadRun.topDef (OpenLaw.row PySem.Challenge.rw_tracefit_k58_whole_runs_after_edits).prog 54).name = ("law" : PySem.Str) := by kernel_rfl
      rw [← e]
      exact hmg0
    obtain ⟨fd, hb, hF⟩ := Tf.facts_law (P := (PySem.Challenge.rw_tracefit_k58_whole_runs_after_edits).prog) (w := w) KX G hmg c
    exact ⟨K, fd, Tf.spLaw K, KX, hb, fun H a ns hl _ hS => ⟨a, ns, rfl, hS, fun _ => rfl⟩, hF⟩

