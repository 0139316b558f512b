import PyProof.Rows.All
import Wide.All
import OpenK.AllK
import Wide.FinOn
import HandS.ForMost
import HandS.SetFor
import HandS.Strs
import KE.DataMinMax
import KE.GoesMore
import PyProof.EnumMake
import HandS.TupMul
import HandS.Wide
import HandS.WideBits
import HandS.IsInst
import HandS.TupAny
import HandS.Conv
import HandS.Walk
import HandS.Deep
import HandS.Style
import HandS.HeadHook2
import HandS.HeadEnd
import HandS.Head2
import HandS.NoneIn
import HandS.SortInts
import HandS.Small
import PySem.Challenge.RW_ftqc_k07_what_commands_lead_to
set_option Elab.async false
set_option linter.all false
set_option maxRecDepth 100000
set_option maxHeartbeats 4000000
namespace Z
open PySem PySem.Spec PyProof.Rows L2
/-! ### set(a list of ints) -/
abbrev eSet (w : World) : Obj := ⟨.type "set", none, .set #[] 0 (.fresh 0 0 (!w.params.followText "set-order")), #[]⟩
abbrev hpS (w : World) (g : Heap) : Heap := g.push (eSet w)
section
variable {P : Program} {w : World} {A : Around} {E : Value → Shared → Prop} {s : Shared}
/-- what the set's making leaves -/
def Made (w : World) (s : Shared) (ns : List Int) (r : Value) (t : Shared) : Prop :=
  r = .none ∧ ∃ (g : Heap) (k c : Nat), t = { s with heap := g, toks := k } ∧ c ≤ ns.length ∧
    SetR w g s.heap.objs.size (fun j => decide (j ∈ ns)) c ∧ ∀ b o, s.heap.get? b = some o → g.get? b = some o
set_option maxHeartbeats 8000000 in
theorem set_ints {l : Addr} {its : Array Value} (ns : List Int) {Q : Value → Shared → Prop} (hd : A.handled = none) (hl : s.heap.IsList l its) (hi : IntsAre its.toList ns) (hb : ns.length + 1 < scanBound)
    (k : ∀ (g : Heap) (tk c : Nat), SetR w g s.heap.objs.size (fun j => decide (j ∈ ns)) c → c ≤ ns.length → (∀ b o, s.heap.get? b = some o → g.get? b = some o) → Q (.ref s.heap.objs.size) { s with heap := g, toks := tk }) :
    wpAny (model P w) A (call (.type "set") [.ref l]) Q E s := by
  have isz : its.size = ns.length := (Array.length_toList (xs := its)).symm.trans hi.length
  have cs := F.called_set
  obtain ⟨c0, t0, m0⟩ := cs.mro
  have m1 := cs.made; have m2 := cs.sub
  have m3 := cs.notType; have m4 := cs.canCreate
  refine wpAny_call (codeAny_of_tree (show wpAny _ _ (callAny (.type "set") _) _ _ _ from ?_))
  refine wpAny_pure (And.intro (Code.quiet_builtin _ (by decide +kernel)) (codeAny_builtin F.entry_type_call ?_))
  have m5 := F.typeCall_set_1 (.ref l)
  rw [Around.under_plain (weight_type_call_type "set" ([.ref l] : List Value) []) rfl]
  repeat (any_goals (first | assumption | wp_step))
  refine codeAny_mono (code_set_led1 (.ref l) (E := E) (Q₁ := fun o t => o = .ref s.heap.objs.size ∧ t = { s with heap := hpS w s.heap }) ⟨rfl, rfl⟩) fun r1 t1 q1 => ?_
  rcases r1 with e | (_ | _ | _ | o)
  · exact q1
  · exact q1.elim
  · exact q1.elim
  · exact q1.elim
  obtain ⟨rfl, rfl⟩ := q1
  have oS : (hpS w s.heap).get? s.heap.objs.size = some (eSet w) := Heap.get?_push_size _ rfl
  have tS : Shared.TypeIs { s with heap := hpS w s.heap } (.ref s.heap.objs.size) "set" := ⟨_, oS, rfl⟩
  have m6 := cs.init.lookup; have m7 := cs.init.bind (.ref s.heap.objs.size)
  repeat (any_goals (first | assumption | wp_step))
  refine codeAny_mono (codeAny_call_builtin (R := wants (Made w s ns) E) cs.init.plain F.entry_set_init (check_set_init_1 tS ?_)) fun r2 t2 q2 => ?_
  · obtain ⟨⟨oc, od, dt, os⟩, ho, hc, n0, hdt⟩ := hl
    simp only at hc hdt
    subst hc; subst hdt
    have ho2 : (hpS w s.heap).get? l = some ⟨.type "list", od, .seq its n0, os⟩ := Heap.get?_push_of_some _ ho
    have m8 := F.sub_list_set; have m9 := F.sub_list_frozenset
    have m10 : (Value.type "list" == .type "dict") = false := by decide
    have hl2 : (hpS w s.heap).IsList l its := ⟨_, ho2, rfl, n0, rfl⟩
    unfold Builtin.«set.__init__» Builtin.Frozenset.updateFrom noKeywords
    generalize eIt : pyIter = it0
    wp_walk
    subst eIt
    refine wpAny_pyIter_list hl2 (wpAny_bind (wpAny_runValue ?_))
    have lt0 : l < s.heap.objs.size := Heap.lt_size ho
    have sz : (hpS w s.heap).objs.size = s.heap.objs.size + 1 := Heap.size_push ..
    have hd3 : A.in1.in1.in1.handled = none := by simp [hd]
    have ne1 : l ≠ (hpS w s.heap).objs.size := Nat.ne_of_lt (sz ▸ Nat.lt_succ_of_lt lt0)
    have ne2 : s.heap.objs.size ∉ [(hpS w s.heap).objs.size, l] := by
      simp only [sz, List.mem_cons, List.not_mem_nil, or_false, not_or]
      exact ⟨Nat.ne_of_lt (Nat.lt_succ_self _), Nat.ne_of_gt lt0⟩
    have val : ∀ (i : Nat) (v : Value), its[i]? = some v → ∃ k t, ns[i]? = some k ∧ v = .int k t := fun i v hv => by
      have lt1 : i < ns.length := isz ▸ (Array.getElem?_eq_some_iff.mp hv).1
      obtain ⟨t, e⟩ := hi.int_at i v (by rw [Array.getElem?_toList, hv])
      exact ⟨_, t, List.getElem?_eq_getElem lt1, by rw [e, List.getD_eq_getElem?_getD, List.getElem?_eq_getElem lt1]; rfl⟩
    refine set_update_ints (Walks.list hd3 _ l ne1 its).toS s.heap.objs.size ne2 ns isz hb val (its.size - 0) 0 _ (by omega) (Nat.zero_le _)
      ⟨⟨_, Heap.get?_push_size _ rfl, rfl, rfl⟩, hl2.push _⟩ ⟨0, Nat.le_refl 0, setR_new_at (Heap.get?_push_of_some _ oS)⟩ fun t c mv cl hS => ?_
    obtain ⟨g, gg, dr, tk, osT⟩ := t
    obtain rfl : gg = s.gens := mv.gens
    obtain rfl : dr = s.drawn := mv.drawn
    obtain rfl : osT = s.os := mv.os
    refine wpAny_pure (show wpAny _ _ (ret Value.none) _ _ _ from wpAny_pure ⟨rfl, g, tk, c, rfl, isz ▸ cl, hS, fun b o e => ?_⟩)
    have ltb : b < s.heap.objs.size := Heap.lt_size e
    refine mv.heap b o ?_ (Heap.get?_push_of_some _ (Heap.get?_push_of_some _ e))
    simp only [List.mem_cons, List.not_mem_nil, or_false, not_or, sz]
    exact ⟨Nat.ne_of_lt ltb, Nat.ne_of_lt (Nat.lt_succ_of_lt ltb)⟩
  · rcases r2 with e | (_ | _ | _ | v)
    · exact q2
    · exact q2.elim
    · exact q2.elim
    · exact q2.elim
    obtain ⟨rfl, g, tk, c, rfl, z1, z2, z3⟩ := q2
    repeat (any_goals (first | assumption | wp_step))
    exact k g tk c z2 z1 z3
end
end Z
namespace Z
open PySem PySem.Spec PyProof.Rows L2
section
variable {X : Cx}
/-- .. by values: some set of as many ints as there are unlike ones -/
def rSetI (K : PySem.W.Frag) (w : World) : List V → Hp → VK → Prop := fun vs H Q => ∃ (l : Addr) (ns : List Int), vs = [.ref l] ∧ SqL K H l (ns.map V.int) ∧ ns.length < 4000 ∧
  ∀ (a : Addr) (c : Nat) (L : List Int), H a = none → L.Nodup → (∀ k, k ∈ L ↔ k ∈ ns) → L.length = c → Q (.ref a) (upd H a (SetO w a (fun j => decide (j ∈ ns)) c))
theorem cr_setI (hc : X.calm = true) : CallR X (.type "set") (rSetI X.K X.w) := by
  intro pins s σ H vs us Q I r h
  obtain ⟨l, ns, rfl, hq, hl, q⟩ := h
  rw [Vals.ref1 r]
  obtain ⟨its, rv, pl, hz⟩ := I.list hq
  refine set_ints ns (I.ok.hd hc) pl.isList (by simpa using rv.ints) (by unfold scanBound; omega) fun g tk c R _ k => ?_
  have R2 := R
  obtain ⟨o, es, ep, t, ho, _, _, _, nd, hm, _, _, hn, _⟩ := R
  refine ⟨.ref s.heap.objs.size, upd H s.heap.objs.size (SetO X.w s.heap.objs.size (fun j => decide (j ∈ ns)) c), I.laid (t' := tk) k (Nat.le_refl _) (setO_new R2), rfl, q _ c (es.toList.map keyOf) (I.hok.fresh (Nat.le_refl _)) nd (fun k => ?_) ?_⟩
  · rw [← hm k, decide_eq_true_eq]
  · rw [List.length_map, Array.length_toList, hn]
/-- max(a tuple of ints) -/
def rMaxT (K : PySem.W.Frag) : List V → Hp → VK → Prop := fun vs H Q => ∃ (a : Addr) (n : Int) (ns : List Int), vs = [.ref a] ∧ SqT K H a ((n :: ns).map V.int) ∧ Q (.int (ns.foldl max n)) H
theorem reads_ints {h : Heap} : ∀ {us : List Value} {ns : List Int}, IntsAre us ns → ReadsAll h us (ns.map .int) []
  | _, _, .nil => .nil
  | _, _, .cons n t r => ReadsAll.cons (as := []) (bs := []) (.int n t) (reads_ints r)
theorem depth_ints : ∀ ns : List Int, PyData.depthAll (ns.map .int) = 0
  | [] => rfl
  | n :: ns => by simp only [List.map_cons, PyData.depthAll, PyData.depth, depth_ints ns]; rfl
theorem cr_maxT (hc : X.calm = true) (hu : X.A.units + 10 < cLine) : CallR X (.builtin "max") (rMaxT X.K) := by
  intro pins s σ H vs us Q I r h
  obtain ⟨a, n, ns, rfl, hq, q⟩ := h
  rw [Vals.ref1 r]
  obtain ⟨its, rv, pl, hz⟩ := I.tuple hq
  have hi : IntsAre its.toArray.toList (n :: ns) := by simpa using rv.ints
  refine PySem.W.max_tuple_data (I.ok.hd hc) pl (reads_ints hi) ⟨fun x hx y hy => ?_, fun x hx => ?_⟩ (by have := depth_ints (n :: ns); rw [List.map_cons] at this; rw [this]; omega) fun i v g tk bs _ hr hk => ?_
  · rw [← List.map_cons] at hx hy
    obtain ⟨x, _, rfl⟩ := List.mem_map.mp hx
    obtain ⟨y, _, rfl⟩ := List.mem_map.mp hy
    rfl
  · rw [← List.map_cons] at hx
    obtain ⟨x, _, rfl⟩ := List.mem_map.mp hx
    intro z; cases z
  · rw [PySem.W.maxD_ints] at hr
    cases hr
    exact ⟨.int _, H, I.kept hk, ⟨_, rfl⟩, q⟩
/-- xs.extend(a tuple) -/
def rExtT (K : PySem.W.Frag) : V → List V → Hp → VK → Prop := fun x vs H Q => ∃ (l b : Addr) (xs zs : List V), x = .ref l ∧ vs = [.ref b] ∧ H l = some (.lst xs) ∧ SqT K H b zs ∧ xs.length + zs.length ≤ sizeLine ∧ Q .non (upd H l (.lst (xs ++ zs)))
theorem ext_tup (l : Addr) (xs : Array Value) (n : Nat) (b : Addr) (ys : Array Value) (m : Nat) (od : Option Addr) (os : Array (Option Value)) (h1 : ¬(!xs.isEmpty && Builtin.List.listTooLong (xs.size + ys.size)) = true) (h2 : xs.size ≤ sizeLine) (h3 : xs.size + ys.size ≤ sizeLine + 1) :
    Meets (Builtin.«list.extend» ⟨[.ref l, .ref b], []⟩) (fun _ R s => s.heap.get? l = some ⟨.type "list", none, .seq xs n, #[]⟩ ∧ s.heap.get? b = some ⟨.type "tuple", od, .seq ys m, os⟩ ∧
      R (.ok (.ret .none)) { s with heap := s.heap.update l (Obj.mapSeq fun x => x ++ ys), toks := s.toks }) :=
  .of_wp fun prog w A R s h => by
    obtain ⟨g, gg, dr, tk, osT⟩ := s
    obtain ⟨hl, hb, h⟩ := h
    have f1 := AutoSeq1.idx_int; have f2 := AutoSeq1.sub_tuple_tuple; have f3 := AutoSeq1.sub_list_list
    have f4 := AutoSeq1.sub_tuple_list; have f5 := AutoSeq1.sub_list_tuple
    have h3' : (xs ++ ys).size ≤ sizeLine + 1 := by rw [Array.size_append]; exact h3
    wp_walk using (wpAny_updateSeq hl rfl (hz := h2) (_hz' := h3')), AutoSeq1.wpAny_loadPart' hl, AutoSeq1.wpAny_loadPart' hb
    exact ⟨_, rfl, h⟩
theorem mt_extT : MtM X "list.extend" (rExtT X.K) := by
  intro pins s σ H x vs v us Q I rx rv h
  obtain ⟨l, b, xs, zs, rfl, rfl, hH, hB, hz, q⟩ := h
  cases rx
  obtain ⟨u, rfl, ru⟩ := rv.one
  cases ru
  obtain ⟨z, its, n, r, hl, e⟩ := I.lstM hH
  obtain ⟨its2, r2, ⟨⟨oc, od, dt, os⟩, e2, hc2, m, hd2⟩, hl2⟩ := I.tuple hB
  simp only at hc2 hd2
  subst hc2; subst hd2
  have k2 := r2.length
  have sz : its.toArray.size + its2.toArray.size ≤ sizeLine := by rw [List.size_toArray, List.size_toArray]; omega
  refine call_meets F.slot_list_extend ⟨_, e, rfl⟩ F.entry_list_extend (F.args_list_extend_2 _ _)
    (ext_tup l its.toArray n b its2.toArray m od os (by rw [notLongL sz, Bool.and_false]; exact Bool.false_ne_true) (by rw [List.size_toArray]; omega) (by omega)) ⟨e, e2, ?_⟩
  refine ⟨.non, _, I.lset (its' := its ++ its2) hH e (by simp) (r.append r2) ?_, rfl, q⟩
  rw [List.length_append]
  omega
end
end Z
namespace Z
open PySem PySem.Spec PyProof.Rows L2
/-! ### enumerate(a tuple) -/
abbrev tIt (l : Addr) : Obj := { cls := .type "tuple_iterator", data := .fields #[.ref l, .int 0 0] }
abbrev eOb (a : Addr) : Obj := { cls := .type "enumerate", data := .fields #[.none, .bool false, .ref a, rawInt 0, .none, .none] }
theorem enum_newT (l : Addr) (xs : Array Value) (n : Nat) (od : Option Addr) (os : Array (Option Value)) :
    Meets (Builtin.«enumerate.__new__» ⟨[.type "enumerate", .ref l], []⟩) (fun _ R s => s.heap.get? l = some ⟨.type "tuple", od, .seq xs n, os⟩ ∧
      R (.ok (.ret (.ref (s.heap.push (tIt l)).objs.size))) { s with heap := (s.heap.push (tIt l)).push (eOb s.heap.objs.size) }) :=
  .of_wp fun prog w A R s h => by
    obtain ⟨g, gg, dr, tk, osT⟩ := s
    obtain ⟨hl, h⟩ := h
    have m0 := sub_enumerate
    have ht : Heap.IsTuple (Shared.heap ⟨g, gg, dr, tk, osT⟩) l xs := ⟨_, hl, rfl, n, rfl⟩
    wp_walk using AutoSeq1.wpAny_loadPart' hl
    refine wpAny_stack_any fun st => wpAny_pure ?_
    split
    · rename_i c _ _ _ _ _
      cases (c == Value.type "enumerate") <;> (wp_walk using AutoSeq1.wpAny_loadPart' hl, wpAny_pyIter_tuple ht) <;> exact ⟨_, rfl, h⟩
    · wp_walk using AutoSeq1.wpAny_loadPart' hl, wpAny_pyIter_tuple ht
      exact ⟨_, rfl, h⟩
section
variable {prog : Program} {w : World} {A : Around} {E : Value → Shared → Prop} {s : Shared}
theorem call_enumT {l : Addr} {xs : Array Value} {Q : Value → Shared → Prop} (ht : s.heap.IsTuple l xs)
    (k : ∀ g, IsEnum g (s.heap.objs.size + 1) s.heap.objs.size 0 .none → g.IsTupleIter s.heap.objs.size l 0 → (∀ b o, s.heap.get? b = some o → g.get? b = some o) → Q (.ref (s.heap.objs.size + 1)) { s with heap := g }) :
    wpAny (model prog w) A (call (.type "enumerate") [.ref l]) Q E s := by
  obtain ⟨⟨oc, od, dt, os⟩, hl, hc, n, hd⟩ := ht
  simp only at hc hd
  subst hc; subst hd
  refine callType_new F.called_enumerate (by decide) (F.typeCall_enumerate_1 _) (F.newCall_enumerate_1 _) (fun o => F.args_object_init_2 o _) F.entry_enumerate_new
    (enum_newT l xs n od os) (And.intro hl ?_)
  have sz : (s.heap.push (tIt l)).objs.size = s.heap.objs.size + 1 := Heap.size_push ..
  show _ ∧ _
  rw [sz]
  have e1 := Heap.get?_push_size (s.heap.push (tIt l)) (o := eOb s.heap.objs.size) rfl
  rw [sz] at e1
  refine ⟨⟨_, e1, rfl⟩, k _ e1 ⟨_, Heap.get?_push_of_some _ (Heap.get?_push_size _ rfl), rfl, rfl⟩ fun b o x => Heap.get?_push_of_some _ (Heap.get?_push_of_some _ x)⟩
end
/-- the tuple at a at each turn, each item in a new pair -/
def IteT (K : PySem.W.Frag) (a : Addr) : It where
  go i H := ∃ (xs : List V) (x : V), SqT K H a xs ∧ xs[i]? = some x
  yld i H v H' := ∃ T x, v = .ref T ∧ H T = none ∧ H' = upd H T (.tup [.int (i : Nat), x]) ∧ ∀ xs, SqT K H a xs → xs[i]? = some x
  stop i H := ∃ xs : List V, SqT K H a xs ∧ xs.length = i
theorem turn_enumT {P : Program} {w : World} {K : PySem.W.Frag} {elts : List Expr} {kk : Nat} {tp : Pos} (a e it : Addr) :
    Turn P w K (.Tuple elts kk tp) (IteT K a) [e, it] e (fun i h => (∃ old, IsEnum h e it (i : Nat) old) ∧ h.IsTupleIter it a i ∧ e ≠ it) where
  mem := by simp
  obj := fun i h st b hb => by
    obtain ⟨⟨old, he⟩, ⟨o, ho, _, hd⟩, _⟩ := st
    rcases List.mem_cons.mp hb with rfl | hb
    · exact ⟨_, he, fun v q => nomatch q⟩
    · rw [List.mem_singleton] at hb
      subst hb
      exact ⟨o, ho, fun v q => by rw [hd] at q; cases q⟩
  keep := fun i h h' ⟨⟨old, he⟩, hi, hne⟩ k => ⟨⟨old, k e (by simp) _ he⟩, hi.at fun o q => k it (by simp) o q, hne⟩
  item := by
    intro X hP hw hK hc i pins s σ H E I hf st hg
    subst hP hw hK
    obtain ⟨⟨old, he⟩, hit, hne⟩ := st
    obtain ⟨xs, x, hq, hx⟩ := hg
    obtain ⟨its, rv, p, hz⟩ := I.tuple hq
    obtain ⟨u, hu, ru⟩ := rv.get hx
    have el : e < s.heap.objs.size := Heap.lt_size he
    have il : it < s.heap.objs.size := by obtain ⟨_, q, _⟩ := hit; exact Heap.lt_size q
    have hn : ∀ b ∈ [e, it], H b = none := fun b hb => (hf b hb).1
    have hae : a ≠ e ∧ a ≠ it := by
      obtain ⟨o, ho, hc, _⟩ := p
      obtain ⟨o2, ho2, hc2, _⟩ := hit
      refine ⟨fun z => ?_, fun z => ?_⟩
      · subst z
        rw [he] at ho
        cases ho
        exact absurd (show Value.type "enumerate" = .type "tuple" from hc) (by decide)
      · subst z
        rw [ho2] at ho
        cases ho
        rw [hc2] at hc
        exact absurd hc (by decide)
    have hlt : i < its.toArray.size := by
      obtain ⟨hl, _⟩ := List.getElem?_eq_some_iff.mp hu
      simpa using hl
    refine wpAny_pyNext_enum_itemD (PySem.Draws.tuple (by simp [I.ok.hd hc]) it a hae.2 its.toArray) he ⟨hit, p⟩ hlt hne (by simp [hne, hae.1.symm]) fun y h' tk hy ho st' hT hsz hk => ?_
    obtain rfl : y = u := by
      have e1 : its.toArray[i]? = some u := by simpa using hu
      rw [e1] at hy
      cases hy; rfl
    refine ⟨_, rfl, wpAny_letOwnedTupleGo_enum (s := { s with heap := h', toks := tk + 1 }) ho fun h2 he2 sb => ?_⟩
    have tT : h2.get? s.heap.objs.size = some { cls := .type "tuple", data := .seq #[.int i tk, y] } := (sb.2 _ (Nat.ne_of_gt el)).trans hT
    have fresh := I.hok.fresh (Nat.le_refl s.heap.objs.size)
    have nw : ObjOk X.prog X.w (upd H s.heap.objs.size (.tup [.int (i : Nat), x])) h2 s.heap.objs.size (.tup [.int (i : Nat), x]) :=
      ⟨by show 2 ≤ sizeLine; decide, [.int i tk, y], .cons ⟨_, rfl⟩ (.cons ru .nil), ⟨_, tT, rfl, _, rfl⟩⟩
    have I2 : Inv X pins σ (upd H s.heap.objs.size (.tup [.int (i : Nat), x])) { s with heap := h2, toks := tk + 1 } := by
      refine I.turnedNew (ch := [e, it]) (fun b o hb q => ?_) hf (Nat.le_refl _) nw
      have nb : b ≠ e ∧ b ≠ it := by simpa using hb
      exact (sb.2 b nb.1).trans (hk b o nb.1 nb.2 q)
    refine ⟨.ref s.heap.objs.size, _, I2, rfl, ⟨_, x, rfl, fresh, rfl, fun ys hy => by rw [I.tuple_inj hy hq]; exact hx⟩, ⟨⟨y, ?_⟩, st'.1.at fun o q => (sb.2 it (Ne.symm hne)).trans q, hne⟩, fun b hb => ?_⟩
    · rw [show ((i + 1 : Nat) : Int) = (i : Int) + 1 by omega]
      exact he2
    · have lb : b < s.heap.objs.size := by
        rcases List.mem_cons.mp hb with rfl | hb
        · exact el
        · rw [List.mem_singleton.mp hb]; exact il
      rw [upd_ne (Nat.ne_of_lt lb)]
      exact hn b hb
  done := by
    intro X hP hw hK hc i pins s σ H E I hf st hg
    subst hP hw hK
    obtain ⟨⟨old, he⟩, hit, hne⟩ := st
    obtain ⟨xs, hq, hx⟩ := hg
    obtain ⟨its, rv, p, hz⟩ := I.tuple hq
    obtain ⟨f0, f1, f2, f3, f4, f5⟩ := hf it (by simp)
    have hl := rv.length
    have hi2 : i = its.toArray.size := by rw [List.size_toArray]; omega
    have hne2 : a ≠ it := by
      obtain ⟨o, ho, hc, _⟩ := p
      obtain ⟨o2, ho2, hc2, _⟩ := hit
      intro z
      subst z
      rw [ho2] at ho
      cases ho
      rw [hc2] at hc
      exact absurd hc (by decide)
    refine wpAny_pyNext_enum_endD (PySem.Draws.tuple (by simp [I.ok.hd hc]) it a hne2 its.toArray) he ⟨hi2 ▸ hit, p⟩ fun h' eb => ⟨rfl, ?_⟩
    exact I.turned (t' := s.toks) (fun b o hb q => eb b o hb q) f0 f1 f3 f4 f5
  self := fun A i s Q E ⟨⟨_, he⟩, _⟩ h => wpAny_pyIter_enum he h
def iEnumT (K : PySem.W.Frag) (ta : TA) : TI := fun σ H R => ta σ H fun vs H1 => ∃ a xs, vs = [.ref a] ∧ ((SqL K H1 a xs ∧ R (Ite K a) H1) ∨ (SqT K H1 a xs ∧ R (IteT K a) H1))
theorem pi_enumT {X : Cx} {e : Expr} {ta : TA} {p pos tp : Pos} {elts : List Expr} {kk : Nat} (hg : Gl X "enumerate") (hm : X.mg "enumerate" = none) (ha : PA X [e] ta) (hs : starEach [e] X.env = [(false, eval e X.env)] := by rfl) :
    PI X (.Tuple elts kk tp) (.Call (.Name "enumerate" p) [e] [] pos) (iEnumT X.K ta) := by
  refine ⟨fun pins s σ H R I h => Call_ (ld_blt I hg hm boot_enumerate (PyProof.Rows.callWith_type1 (thn (ha.run pos pins s σ H _ I h) fun us s1 ⟨vs, H1, I1, r1, q1⟩ => ?_) hs rfl))⟩
  obtain ⟨a, xs, rfl, q⟩ := q1
  obtain ⟨u, rfl, ru⟩ := r1.one
  cases ru
  have ne := Nat.succ_ne_self s1.heap.objs.size
  have fresh : ∀ b ∈ [s1.heap.objs.size + 1, s1.heap.objs.size], ∀ g, Inv X pins σ H1 g → FpOk X pins H1 b := fun b hb _ _ => by
    have le : s1.heap.objs.size ≤ b := by
      rcases List.mem_cons.mp hb with rfl | hb
      · exact Nat.le_add_right _ _
      · rw [List.mem_singleton.mp hb]; exact Nat.le_refl _
    exact I1.fpOk le (I1.hok.fresh le)
  rcases q with ⟨hq, q⟩ | ⟨hq, q⟩
  · obtain ⟨its, rv, pl, hz⟩ := I1.list hq
    refine call_enumerate_list pl.isList fun g he hit _ hk => wpAny_pyIter_enum he ?_
    have I2 : Inv X pins σ H1 { s1 with heap := g } := I1.kept (t' := s1.toks) hk
    exact ⟨_, [s1.heap.objs.size + 1, s1.heap.objs.size], _, _, H1, rfl, I2, turn_enum a (s1.heap.objs.size + 1) s1.heap.objs.size, ⟨⟨.none, he⟩, hit, ne⟩, fun b hb => fresh b hb _ I2, q⟩
  · obtain ⟨its, rv, pt, hz⟩ := I1.tuple hq
    refine call_enumT pt fun g he hit hk => wpAny_pyIter_enum he ?_
    have I2 : Inv X pins σ H1 { s1 with heap := g } := I1.kept (t' := s1.toks) hk
    exact ⟨_, [s1.heap.objs.size + 1, s1.heap.objs.size], _, _, H1, rfl, I2, turn_enumT a (s1.heap.objs.size + 1) s1.heap.objs.size, ⟨⟨.none, he⟩, hit, ne⟩, fun b hb => fresh b hb _ I2, q⟩
/-! tuple * int, the ends: * 1 is the tuple itself, * 0 is a new empty one -/
theorem tuple_mul1 (l : Addr) (items : Array Value) (n : Nat) (dd : Option Addr) (sl : Array (Option Value)) (u : Tok) :
    Meets (Builtin.«tuple.__mul__» ⟨[.ref l, .int 1 u], []⟩) (fun _ R s => s.heap.get? l = some { cls := .type "tuple", dict := dd, data := .seq items n, slots := sl } ∧
      R (.ok (.ret (Value.ref l))) s) :=
  .of_wp fun prog w A R s h => by
    obtain ⟨hp, g, d, tk, os⟩ := s
    obtain ⟨hl, h⟩ := h
    have f1 := AutoSeq1.idx_int
    have c1 : (items.isEmpty || (1 : Int) == 1) = true := by simp
    wp_walk using wpAny_loadPart' hl
    repeat (first
      | (refine wpAny_ite_true (decide_eq_true (by rw [c1])) ?_; wp_walk using wpAny_loadPart' hl))
    exact ⟨_, rfl, h⟩
theorem tuple_mul0 (l : Addr) (items : Array Value) (n : Nat) (dd : Option Addr) (sl : Array (Option Value)) (x : Int) (u : Tok) (c0 : (decide (x < -(2 ^ 63)) || decide (x ≥ 2 ^ 63)) = false) (c1 : (items.isEmpty || x == 1) = false) (c2 : (decide (x ≤ 0) || items.isEmpty) = true) :
    Meets (Builtin.«tuple.__mul__» ⟨[.ref l, .int x u], []⟩) (fun _ R s => s.heap.get? l = some { cls := .type "tuple", dict := dd, data := .seq items n, slots := sl } ∧
      R (.ok (.ret (Value.ref s.heap.objs.size))) { s with heap := s.heap.push { cls := Value.type "tuple", data := Data.seq #[] }, toks := s.toks }) :=
  .of_wp fun prog w A R s h => by
    obtain ⟨hp, g, d, tk, os⟩ := s
    obtain ⟨hl, h⟩ := h
    have f1 := AutoSeq1.idx_int
    wp_walk using wpAny_loadPart' hl
    repeat (first
      | (refine wpAny_ite_false (decide_eq_false (by rw [c0]; exact Bool.false_ne_true)) ?_; wp_walk using wpAny_loadPart' hl)
      | (refine wpAny_ite_false (decide_eq_false (by rw [c1]; exact Bool.false_ne_true)) ?_; wp_walk using wpAny_loadPart' hl)
      | (refine wpAny_ite_true (decide_eq_true (by rw [c2])) ?_; wp_walk using wpAny_loadPart' hl))
    exact ⟨_, rfl, h⟩
def rRepA (K : PySem.W.Frag) : R2 := fun x y H Q => ∃ l k xs, x = .ref l ∧ y = .int k ∧ SqT K H l xs ∧ xs ≠ [] ∧ 0 ≤ k ∧ k ≤ 1000 ∧ xs.length ≤ 1000 ∧
  (k = 1 → Q (.ref l) H) ∧ (k ≠ 1 → ∀ p, H p = none → Q (.ref p) (upd H p (.tup (List.replicate k.toNat xs).flatten)))
section
variable {X : Cx}
theorem op_repA : OpR X (binaryOp .Mult) (rRepA X.K) := by
  intro pins s σ H x y v u Q I rx ry h
  obtain ⟨l, k, xs, rfl, rfl, hT, hne, k0, k1, hz, q1, q2⟩ := h
  by_cases h2 : 2 ≤ k
  · exact op_repT pins s σ H _ _ v u Q I rx ry ⟨l, k, xs, rfl, rfl, hT, hne, h2, k1, hz, q2 (by omega)⟩
  cases rx
  obtain ⟨t, rfl⟩ := ry
  obtain ⟨its, r, ⟨⟨cls, dd, data, sl⟩, ho, hc, n, hd⟩, hs⟩ := I.tuple hT
  simp only at hc hd
  subst hc hd
  have hi : its.toArray.isEmpty = false := by
    cases its with
    | nil => exact absurd (List.eq_nil_of_length_eq_zero r.length.symm.symm) hne
    | cons a b => rfl
  by_cases h1 : k = 1
  · subst h1
    refine wpAny_binaryOp_repeat_ref (T := "tuple") (U := "int") (by decide) ⟨_, ho, rfl⟩ (fun s' => typeIs_int s' 1 t) noFill_tuple_mul F.fills_int_mul F.slot_int_rmul repeat_tuple F.slot_int_index.lookup
      (call_meets F.slot_int_rmul (typeIs_int s 1 t) F.entry_int_rmul (F.args_int_rmul_2 _ _) (int_rmul_tuple 1 t l its.toArray n dd sl)
        ⟨ho, rfl, ⟨_, ho, rfl⟩, call_meets F.slot_tuple_mul ⟨_, ho, rfl⟩ F.entry_tuple_mul (F.args_tuple_mul_2 _ _) (tuple_mul1 l its.toArray n dd sl t) ⟨ho, ?_⟩⟩)
    exact ⟨.ref l, _, I, rfl, q1 rfl⟩
  · have e0 : k = 0 := by omega
    subst e0
    refine wpAny_binaryOp_repeat_ref (T := "tuple") (U := "int") (by decide) ⟨_, ho, rfl⟩ (fun s' => typeIs_int s' 0 t) noFill_tuple_mul F.fills_int_mul F.slot_int_rmul repeat_tuple F.slot_int_index.lookup
      (call_meets F.slot_int_rmul (typeIs_int s 0 t) F.entry_int_rmul (F.args_int_rmul_2 _ _) (int_rmul_tuple 0 t l its.toArray n dd sl)
        ⟨ho, rfl, ⟨_, ho, rfl⟩, call_meets F.slot_tuple_mul ⟨_, ho, rfl⟩ F.entry_tuple_mul (F.args_tuple_mul_2 _ _) (tuple_mul0 l its.toArray n dd sl 0 t rfl (by rw [hi]; rfl) rfl) ⟨ho, ?_⟩⟩)
    refine ⟨.ref s.heap.objs.size, _, I.laid (t' := s.toks) (o := .tup []) (fun b ob q => Heap.get?_push_of_some _ q) (Nat.le_refl _) ?_, rfl, q2 (by omega) _ (I.hok.fresh (Nat.le_refl _))⟩
    exact ⟨by rw [sizeLine_eq]; decide, _, .nil, IsTup.new _ _⟩
end
end Z
namespace Z
open PySem PySem.Spec L2
open PyProof.Rows hiding St
/-! ### values without a heap, and how they lie in it -/
inductive W where
  | non | bl (b : Bool) | int (i : Int) | str (x : Str)
  | tup (xs : List W) | lst (xs : List W) | dct (ks xs : List W)
  | lck (xs : List W)
  | ob (n : Nat)
  deriving Inhabited
abbrev CH := List W
abbrev Env := List (Option W)
mutual
def W.beq : W → W → Bool
  | .non, .non => true
  | .bl a, .bl b => a == b
  | .int a, .int b => decide (a = b)
  | .str a, .str b => decide (a = b)
  | .tup a, .tup b => W.beqs a b
  | .lst a, .lst b => W.beqs a b
  | .dct a b, .dct c d => W.beqs a c && W.beqs b d
  | .lck a, .lck b => W.beqs a b
  | .ob a, .ob b => decide (a = b)
  | _, _ => false
def W.beqs : List W → List W → Bool
  | [], [] => true
  | x :: xs, y :: ys => W.beq x y && W.beqs xs ys
  | _, _ => false
end
mutual
theorem W.beq_ok : ∀ {x y : W}, W.beq x y = true → x = y
  | .non, y, h => by cases y <;> simp [W.beq] at h; rfl
  | .bl a, y, h => by cases y <;> simp [W.beq] at h; rw [h]
  | .int a, y, h => by cases y <;> simp [W.beq] at h; rw [h]
  | .str a, y, h => by cases y <;> simp [W.beq] at h; rw [h]
  | .tup a, y, h => by cases y <;> simp [W.beq] at h; rw [W.beqs_ok h]
  | .lst a, y, h => by cases y <;> simp [W.beq] at h; rw [W.beqs_ok h]
  | .dct a b, y, h => by
    cases y <;> simp [W.beq] at h
    rw [W.beqs_ok h.1, W.beqs_ok h.2]
  | .lck a, y, h => by cases y <;> simp [W.beq] at h; rw [W.beqs_ok h]
  | .ob a, y, h => by cases y <;> simp [W.beq] at h; rw [h]
theorem W.beqs_ok : ∀ {x y : List W}, W.beqs x y = true → x = y
  | [], y, h => by cases y <;> simp [W.beqs] at h; rfl
  | a :: x, y, h => by
    cases y <;> simp [W.beqs] at h
    rw [W.beq_ok h.1, W.beqs_ok h.2]
end
/-- where the tracked objects lie; the addresses that no value may speak of (lists in the making) -/
structure M where
  ob : List Addr
  hd : List Addr
def M.has (m : M) (a : Addr) : Prop := a ∈ m.ob ∨ a ∈ m.hd
def M.hide (m : M) (a : Addr) : M := ⟨m.ob, a :: m.hd⟩
/-- .. becomes tracked -/
def M.track (m : M) (a : Addr) : M := ⟨m.ob ++ [a], m.hd⟩
theorem M.track_hide {m : M} {a b : Addr} (h : (m.track a).has b) : (m.hide a).has b := by
  rcases h with h | h
  · rcases List.mem_append.mp h with h | h
    · exact .inl h
    · exact .inr (by rw [List.mem_singleton.mp h]; exact List.mem_cons_self)
  · exact .inr (List.mem_cons_of_mem _ h)
/-- a text that may be met: its size, its signs -/
def StrOk (x : Str) : Prop := x.length ≤ sizeLine ∧ x.cps.all (· < 0x110000) = true
def keyW : Key → W
  | .inl i => .int i
  | .inr x => .str x
/-- a tuple that no tracked address holds, or one of the module -/
def FT (K : PySem.W.Frag) (mp : M) (H : Hp) (a : Addr) (vs : List V) : Prop :=
  vs.length ≤ sizeLine ∧ ((Rd H a (.tup vs) ∧ ¬ mp.has a) ∨ ∃ (o : Obj) (its : Array Value) (n : Nat), K.lookup a = some o ∧ o.cls = .type "tuple" ∧ o.data = .seq its n ∧ its.size ≤ sizeLine ∧ Vals vs its.toList)
/-- a list that no tracked address holds -/
def FL (mp : M) (H : Hp) (a : Addr) (vs : List V) : Prop := vs.length ≤ sizeLine ∧ H a = some (.lst vs) ∧ ¬ mp.has a
/-- a list that is only read -/
def FK (K : PySem.W.Frag) (mp : M) (H : Hp) (a : Addr) (vs : List V) : Prop :=
  vs.length ≤ sizeLine ∧ ((Rd H a (.lst vs) ∧ ¬ mp.has a) ∨ ∃ (o : Obj) (its : Array Value) (n : Nat), K.lookup a = some o ∧ o.cls = .type "list" ∧ o.dict = none ∧ o.data = .seq its n ∧ its.size ≤ sizeLine ∧ Vals vs its.toList)
theorem FT.sq {K : PySem.W.Frag} {mp : M} {H : Hp} {a : Addr} {vs : List V} (h : FT K mp H a vs) : SqT K H a vs := by
  rcases h.2 with h | h
  · exact .inl h.1
  · exact .inr h
theorem FL.sq {K : PySem.W.Frag} {mp : M} {H : Hp} {a : Addr} {vs : List V} (h : FL mp H a vs) : SqL K H a vs := .of h.2.1
theorem FK.sq {K : PySem.W.Frag} {mp : M} {H : Hp} {a : Addr} {vs : List V} (h : FK K mp H a vs) : SqL K H a vs := by
  rcases h.2 with h | h
  · exact .inl h.1
  · exact .inr h
mutual
def Rp (K : PySem.W.Frag) (mp : M) (H : Hp) : W → V → Prop
  | .non, u => u = .non
  | .bl b, u => u = .bl b
  | .int i, u => u = .int i
  | .str x, u => u = .str x ∧ StrOk x
  | .tup xs, u => ∃ a vs, u = .ref a ∧ FT K mp H a vs ∧ RpL K mp H xs vs
  | .lst xs, u => ∃ a vs, u = .ref a ∧ FL mp H a vs ∧ RpL K mp H xs vs
  | .lck xs, u => ∃ a vs, u = .ref a ∧ FK K mp H a vs ∧ RpL K mp H xs vs
  | .dct ks xs, u => ∃ a, u = .ref a ∧ ¬ mp.has a ∧ ((∃ kvs : List (Key × V), Rd H a (.dK kvs) ∧ ks = kvs.map (fun p => keyW p.1) ∧ RpL K mp H xs (kvs.map (·.2))) ∨
      (∃ kvs : List (List Key × V), (Rd H a (.dT kvs) ∧ kvs ≠ []) ∧ ks = kvs.map (fun p => W.tup (p.1.map keyW)) ∧ RpL K mp H xs (kvs.map (·.2))))
  | .ob n, u => ∃ a, u = .ref a ∧ mp.ob[n]? = some a
def RpL (K : PySem.W.Frag) (mp : M) (H : Hp) : List W → List V → Prop
  | [], us => us = []
  | x :: xs, us => ∃ u us', us = u :: us' ∧ Rp K mp H x u ∧ RpL K mp H xs us'
end
/-- a tracked object -/
def RO (K : PySem.W.Frag) (mp : M) (H : Hp) (a : Addr) : W → Prop
  | .lst xs => ∃ vs, H a = some (.lst vs) ∧ vs.length ≤ sizeLine ∧ RpL K mp H xs vs
  | .dct ks xs => (∃ kvs : List (Key × V), H a = some (.dK kvs) ∧ ks = kvs.map (fun p => keyW p.1) ∧ RpL K mp H xs (kvs.map (·.2))) ∨
      (∃ kvs : List (List Key × V), (H a = some (.dT kvs) ∧ kvs ≠ []) ∧ ks = kvs.map (fun p => W.tup (p.1.map keyW)) ∧ RpL K mp H xs (kvs.map (·.2)))
  | _ => False
structure Sim (K : PySem.W.Frag) (mp : M) (g : CH) (H : Hp) : Prop where
  nd : mp.ob.Nodup
  len : mp.ob.length = g.length
  obj : ∀ (n : Nat) (w : W), g[n]? = some w → ∃ a, mp.ob[n]? = some a ∧ RO K mp H a w
  hid : ∀ a ∈ mp.hd, (∃ o, H a = some o) ∧ a ∉ mp.ob
  ndh : mp.hd.Nodup
/-- what a value's relation leans on is kept -/
structure Ext0 (mp : M) (H : Hp) (mp' : M) (H' : Hp) : Prop where
  pre : mp.ob <+: mp'.ob
  fre : ∀ a, mp'.has a → mp.has a ∨ H a = none
  keep : ∀ a o, ¬ mp.has a → H a = some o → H' a = some o
/-- a step: all but the tracked objects is kept -/
structure Ext (mp : M) (H : Hp) (mp' : M) (H' : Hp) : Prop where
  pre : mp.ob <+: mp'.ob
  freO : ∀ a, a ∈ mp'.ob → a ∈ mp.ob ∨ H a = none
  keep : ∀ a o, a ∉ mp.ob → H a = some o → H' a = some o
  hd : mp'.hd = mp.hd
def EnvR (K : PySem.W.Frag) (mp : M) (H : Hp) (env : Env) (σ : St) : Prop :=
  env.length = σ.length ∧ ∀ (i : Nat) (w : W), env[i]? = some (some w) → ∃ u, σ[i]? = some (some u) ∧ Rp K mp H w u
section
variable {K : PySem.W.Frag} {mp mp' mp'' : M} {H H' H'' : Hp} {g g' : CH} {a : Addr} {vs us : List V} {xs ys : List W} {w : W} {u : V}
theorem RO.some_ {w : W} (h : RO K mp H a w) : ∃ o, H a = some o := by
  cases w with
  | lst xs => obtain ⟨vs, h, _⟩ := h; exact ⟨_, h⟩
  | dct ks xs => rcases h with ⟨kvs, h, _⟩ | ⟨kvs, ⟨h, _⟩, _⟩ <;> exact ⟨_, h⟩
  | _ => exact h.elim
theorem Sim.some_ (s : Sim K mp g H) (h : mp.has a) : ∃ o, H a = some o := by
  rcases h with h | h
  · obtain ⟨n, hn, e⟩ := List.mem_iff_getElem.mp h
    have hg : n < g.length := by rw [← s.len]; exact hn
    obtain ⟨b, e2, r⟩ := s.obj n g[n] (List.getElem?_eq_getElem hg)
    have : mp.ob[n]? = some a := by rw [List.getElem?_eq_getElem hn, e]
    rw [this] at e2; cases e2
    exact r.some_
  · exact (s.hid a h).1
theorem Sim.fresh (s : Sim K mp g H) (h : H a = none) : ¬ mp.has a := fun hm => by
  obtain ⟨o, e⟩ := s.some_ hm
  rw [h] at e; cases e
theorem M.nob (h : ¬ mp.has a) : a ∉ mp.ob := fun z => h (.inl z)
theorem Ext.e0 (e : Ext mp H mp' H') : Ext0 mp H mp' H' := ⟨e.pre, fun a h => by
  rcases h with h | h
  · rcases e.freO a h with h | h
    · exact .inl (.inl h)
    · exact .inr h
  · exact .inl (.inr (by rw [← e.hd]; exact h)), fun a o hn h => e.keep a o (M.nob hn) h⟩
theorem Ext.refl : Ext mp H mp H := ⟨List.prefix_refl _, fun _ h => .inl h, fun _ _ _ h => h, rfl⟩
theorem Ext0.nin (e : Ext0 mp H mp' H') {o : HO} (h : H a = some o) (hn : ¬ mp.has a) : ¬ mp'.has a := fun hm => by
  rcases e.fre a hm with h1 | h1
  · exact hn h1
  · rw [h] at h1; cases h1
theorem Ext.nob (e : Ext mp H mp' H') {o : HO} (h : H a = some o) (hn : a ∉ mp.ob) : a ∉ mp'.ob := fun hm => by
  rcases e.freO a hm with h1 | h1
  · exact hn h1
  · rw [h] at h1; cases h1
theorem Ext.back (e : Ext mp H mp' H') (hn : a ∉ mp.ob) (h : H' a = none) : H a = none := by
  cases q : H a with
  | none => rfl
  | some o => rw [e.keep a o hn q] at h; cases h
theorem Ext.sub (e : Ext mp H mp' H') (h : a ∈ mp.ob) : a ∈ mp'.ob := e.pre.subset h
theorem Ext.trans (e : Ext mp H mp' H') (f : Ext mp' H' mp'' H'') : Ext mp H mp'' H'' := by
  refine ⟨e.pre.trans f.pre, fun a h => ?_, fun a o hn h => f.keep a o (e.nob h hn) (e.keep a o hn h), f.hd.trans e.hd⟩
  rcases f.freO a h with h1 | h1
  · exact e.freO a h1
  · by_cases hm : a ∈ mp.ob
    · exact .inl hm
    · exact .inr (e.back hm h1)
/-- free behind a step: free ahead of it -/
theorem Ext.free (e : Ext mp H mp' H') (s : Sim K mp' g H') (h : H' a = none) : H a = none := e.back (fun z => s.fresh h (.inl (e.sub z))) h
theorem Ext0.rd (e : Ext0 mp H mp' H') {o : HO} (h : Rd H a o) (hn : ¬ mp.has a) : Rd H' a o ∧ ¬ mp'.has a := by
  rcases h with h | ⟨ob, h⟩
  · exact ⟨.inl (e.keep _ _ hn h), e.nin h hn⟩
  · exact ⟨.inr ⟨ob, e.keep _ _ hn h⟩, e.nin h hn⟩
theorem FT.ext0 (h : FT K mp H a vs) (e : Ext0 mp H mp' H') : FT K mp' H' a vs := by
  refine ⟨h.1, ?_⟩
  rcases h.2 with h | h
  · exact .inl (e.rd h.1 h.2)
  · exact .inr h
theorem FL.ext0 (h : FL mp H a vs) (e : Ext0 mp H mp' H') : FL mp' H' a vs := ⟨h.1, e.keep _ _ h.2.2 h.2.1, e.nin h.2.1 h.2.2⟩
theorem FK.ext0 (h : FK K mp H a vs) (e : Ext0 mp H mp' H') : FK K mp' H' a vs := by
  refine ⟨h.1, ?_⟩
  rcases h.2 with h | h
  · exact .inl (e.rd h.1 h.2)
  · exact .inr h
mutual
theorem Rp.ext0 (e : Ext0 mp H mp' H') : ∀ {w : W} {u : V}, Rp K mp H w u → Rp K mp' H' w u
  | .non, _, h => by simp only [Rp] at h ⊢; exact h
  | .bl _, _, h => by simp only [Rp] at h ⊢; exact h
  | .int _, _, h => by simp only [Rp] at h ⊢; exact h
  | .str _, _, h => by simp only [Rp] at h ⊢; exact h
  | .tup xs, _, h => by
    simp only [Rp] at h ⊢
    obtain ⟨a, vs, h1, h2, h3⟩ := h
    exact ⟨a, vs, h1, h2.ext0 e, RpL.ext0 e h3⟩
  | .lst xs, _, h => by
    simp only [Rp] at h ⊢
    obtain ⟨a, vs, h1, h2, h3⟩ := h
    exact ⟨a, vs, h1, h2.ext0 e, RpL.ext0 e h3⟩
  | .lck xs, _, h => by
    simp only [Rp] at h ⊢
    obtain ⟨a, vs, h1, h2, h3⟩ := h
    exact ⟨a, vs, h1, h2.ext0 e, RpL.ext0 e h3⟩
  | .dct ks xs, _, h => by
    simp only [Rp] at h ⊢
    obtain ⟨a, h1, h2, h3⟩ := h
    rcases h3 with ⟨kvs, k1, k2, k3⟩ | ⟨kvs, k1, k2, k3⟩
    · exact ⟨a, h1, (e.rd k1 h2).2, .inl ⟨kvs, (e.rd k1 h2).1, k2, RpL.ext0 e k3⟩⟩
    · exact ⟨a, h1, (e.rd k1.1 h2).2, .inr ⟨kvs, ⟨(e.rd k1.1 h2).1, k1.2⟩, k2, RpL.ext0 e k3⟩⟩
  | .ob n, _, h => by
    simp only [Rp] at h ⊢
    obtain ⟨a, h1, h2⟩ := h
    obtain ⟨l, e1⟩ := e.pre
    refine ⟨a, h1, ?_⟩
    rw [← e1, List.getElem?_append_left (by exact (List.getElem?_eq_some_iff.mp h2).1)]
    exact h2
theorem RpL.ext0 (e : Ext0 mp H mp' H') : ∀ {xs : List W} {us : List V}, RpL K mp H xs us → RpL K mp' H' xs us
  | [], _, h => by simp only [RpL] at h ⊢; exact h
  | x :: xs, _, h => by
    simp only [RpL] at h ⊢
    obtain ⟨u, us, h1, h2, h3⟩ := h
    exact ⟨u, us, h1, Rp.ext0 e h2, RpL.ext0 e h3⟩
end
theorem Rp.ext (e : Ext mp H mp' H') {w : W} {u : V} (h : Rp K mp H w u) : Rp K mp' H' w u := h.ext0 e.e0
theorem RpL.ext (e : Ext mp H mp' H') {w : List W} {u : List V} (h : RpL K mp H w u) : RpL K mp' H' w u := h.ext0 e.e0
theorem EnvR.ext {env : Env} {σ : St} (h : EnvR K mp H env σ) (e : Ext mp H mp' H') : EnvR K mp' H' env σ :=
  ⟨h.1, fun i w hw => let ⟨u, h1, h2⟩ := h.2 i w hw; ⟨u, h1, h2.ext e⟩⟩
theorem EnvR.set {env : Env} {σ : St} (h : EnvR K mp H env σ) (r : Rp K mp H w u) (i : Nat) : EnvR K mp H (env.set i (some w)) (σ.set i (some u)) := by
  refine ⟨by rw [List.length_set, List.length_set, h.1], fun j x hx => ?_⟩
  by_cases hj : i = j
  · subst hj
    by_cases hi : i < env.length
    · rw [List.getElem?_set_self hi] at hx
      cases hx
      exact ⟨u, by rw [List.getElem?_set_self (by rw [← h.1]; exact hi)], r⟩
    · rw [List.getElem?_eq_none (by rw [List.length_set]; omega)] at hx
      cases hx
  · rw [List.getElem?_set_ne hj] at hx ⊢
    exact h.2 j x hx
/-- lists -/
theorem RpL.length : ∀ {xs : List W} {us : List V}, RpL K mp H xs us → xs.length = us.length
  | [], _, h => by simp only [RpL] at h; rw [h]; rfl
  | x :: xs, _, h => by
    simp only [RpL] at h
    obtain ⟨u, us, rfl, _, h3⟩ := h
    simp only [List.length_cons, RpL.length h3]
theorem RpL.get : ∀ {xs : List W} {us : List V} {i : Nat} {x : W}, RpL K mp H xs us → xs[i]? = some x → ∃ u, us[i]? = some u ∧ Rp K mp H x u
  | [], _, _, _, _, e => by simp at e
  | y :: xs, _, 0, x, h, e => by
    simp only [RpL] at h
    obtain ⟨u, us, rfl, h2, _⟩ := h
    simp at e; subst e
    exact ⟨u, rfl, h2⟩
  | y :: xs, _, i + 1, x, h, e => by
    simp only [RpL] at h
    obtain ⟨u, us, rfl, _, h3⟩ := h
    simpa using RpL.get (i := i) h3 (by simpa using e)
theorem RpL.get' : ∀ {xs : List W} {us : List V} {i : Nat} {u : V}, RpL K mp H xs us → us[i]? = some u → ∃ x, xs[i]? = some x ∧ Rp K mp H x u
  | [], _, _, _, h, e => by simp only [RpL] at h; subst h; simp at e
  | y :: xs, _, 0, x, h, e => by
    simp only [RpL] at h
    obtain ⟨u, us, rfl, h2, _⟩ := h
    simp at e; subst e
    exact ⟨y, rfl, h2⟩
  | y :: xs, _, i + 1, x, h, e => by
    simp only [RpL] at h
    obtain ⟨u, us, rfl, _, h3⟩ := h
    simpa using RpL.get' (i := i) h3 (by simpa using e)
theorem RpL.nil : RpL K mp H [] [] := by simp only [RpL]
theorem RpL.cons (r : Rp K mp H w u) (h : RpL K mp H xs us) : RpL K mp H (w :: xs) (u :: us) := by
  simp only [RpL]
  exact ⟨u, us, rfl, r, h⟩
theorem RpL.append : ∀ {xs : List W} {us : List V}, RpL K mp H xs us → RpL K mp H ys vs → RpL K mp H (xs ++ ys) (us ++ vs)
  | [], _, h, h' => by simp only [RpL] at h; subst h; exact h'
  | x :: xs, _, h, h' => by
    simp only [RpL] at h
    obtain ⟨u, us, rfl, h2, h3⟩ := h
    exact RpL.cons h2 (RpL.append h3 h')
theorem RpL.take : ∀ {xs : List W} {us : List V} (n : Nat), RpL K mp H xs us → RpL K mp H (xs.take n) (us.take n)
  | _, _, 0, _ => by simpa using RpL.nil
  | [], _, n + 1, h => by simp only [RpL] at h; subst h; exact RpL.nil
  | x :: xs, _, n + 1, h => by
    simp only [RpL] at h
    obtain ⟨u, us, rfl, h2, h3⟩ := h
    exact RpL.cons h2 (RpL.take n h3)
theorem RpL.drop : ∀ {xs : List W} {us : List V} (n : Nat), RpL K mp H xs us → RpL K mp H (xs.drop n) (us.drop n)
  | _, _, 0, h => h
  | [], _, n + 1, h => by simp only [RpL] at h; subst h; exact RpL.nil
  | x :: xs, _, n + 1, h => by
    simp only [RpL] at h
    obtain ⟨u, us, rfl, h2, h3⟩ := h
    exact RpL.drop n h3
theorem RpL.set : ∀ {xs : List W} {us : List V} (n : Nat), Rp K mp H w u → RpL K mp H xs us → RpL K mp H (xs.set n w) (us.set n u)
  | [], _, n, r, h => by simp only [RpL] at h; subst h; exact RpL.nil
  | x :: xs, _, 0, r, h => by
    simp only [RpL] at h
    obtain ⟨u, us, rfl, h2, h3⟩ := h
    exact RpL.cons r h3
  | x :: xs, _, n + 1, r, h => by
    simp only [RpL] at h
    obtain ⟨u, us, rfl, h2, h3⟩ := h
    exact RpL.cons h2 (RpL.set n r h3)
theorem RpL.eraseIdx : ∀ {xs : List W} {us : List V} (n : Nat), RpL K mp H xs us → RpL K mp H (xs.eraseIdx n) (us.eraseIdx n)
  | [], _, n, h => by simp only [RpL] at h; subst h; exact RpL.nil
  | x :: xs, _, 0, h => by
    simp only [RpL] at h
    obtain ⟨u, us, rfl, h2, h3⟩ := h
    exact h3
  | x :: xs, _, n + 1, h => by
    simp only [RpL] at h
    obtain ⟨u, us, rfl, h2, h3⟩ := h
    exact RpL.cons h2 (RpL.eraseIdx n h3)
theorem RpL.ints : ∀ {us : List V} {ns : List Int}, RpL K mp H (ns.map W.int) us → us = ns.map V.int
  | _, [], h => by simp only [List.map_nil, RpL] at h; exact h
  | _, n :: ns, h => by
    simp only [List.map_cons, RpL, Rp] at h
    obtain ⟨u, us, rfl, rfl, h3⟩ := h
    rw [List.map_cons, RpL.ints h3]
theorem RpL.of_ints : ∀ (ns : List Int), RpL K mp H (ns.map W.int) (ns.map V.int)
  | [] => RpL.nil
  | n :: ns => RpL.cons (by simp only [Rp]) (RpL.of_ints ns)
end
/-! ### the heap of the tracked changes -/
section
variable {K : PySem.W.Frag} {mp : M} {H : Hp} {g : CH} {a : Addr} {vs : List V} {xs : List W} {w : W} {o : HO}
/-- a new object that is not tracked -/
theorem Ext.new (hn : H a = none) : Ext mp H mp (upd H a o) :=
  ⟨List.prefix_refl _, fun _ h => .inl h, fun b x _ h => by rw [upd_ne (ne_of_none h hn)]; exact h, rfl⟩
theorem RO.ext0 {mp' : M} {H' : Hp} (e : Ext0 mp H mp' H') (hk : ∀ o, H a = some o → H' a = some o) : ∀ {w : W}, RO K mp H a w → RO K mp' H' a w
  | .lst xs, ⟨vs, h, hz, r⟩ => ⟨vs, hk _ h, hz, r.ext0 e⟩
  | .dct ks xs, h => by
    rcases h with ⟨kvs, h, h2, h3⟩ | ⟨kvs, h, h2, h3⟩
    · exact .inl ⟨kvs, hk _ h, h2, h3.ext0 e⟩
    · exact .inr ⟨kvs, ⟨hk _ h.1, h.2⟩, h2, h3.ext0 e⟩
theorem Sim.new (s : Sim K mp g H) (hn : H a = none) : Sim K mp g (upd H a o) :=
  ⟨s.nd, s.len, fun n w h => let ⟨b, h1, h2⟩ := s.obj n w h; ⟨b, h1, h2.ext0 (Ext.new hn).e0 fun ob q => by rw [upd_ne (ne_of_none q hn)]; exact q⟩,
    fun b hb => let ⟨⟨ob, h1⟩, h2⟩ := s.hid b hb; ⟨⟨ob, by rw [upd_ne (ne_of_none h1 hn)]; exact h1⟩, h2⟩, s.ndh⟩
/-- a new object that no value speaks of -/
theorem Ext0.hide (hn : H a = none) : Ext0 mp H (mp.hide a) (upd H a o) :=
  ⟨List.prefix_refl _, fun b h => by
    rcases h with h | h
    · exact .inl (.inl h)
    · rcases List.mem_cons.mp h with h | h
      · right; rw [h]; exact hn
      · exact .inl (.inr h), fun b x _ h => by rw [upd_ne (ne_of_none h hn)]; exact h⟩
theorem Sim.hide (s : Sim K mp g H) (hn : H a = none) : Sim K (mp.hide a) g (upd H a o) :=
  ⟨s.nd, s.len, fun n w h => let ⟨b, h1, h2⟩ := s.obj n w h; ⟨b, h1, h2.ext0 (.hide hn) fun ob q => by rw [upd_ne (ne_of_none q hn)]; exact q⟩,
    fun b hb => by
      rcases List.mem_cons.mp hb with e | hb
      · subst e
        exact ⟨⟨o, upd_same⟩, fun z => s.fresh hn (.inl z)⟩
      · obtain ⟨⟨ob, h1⟩, h2⟩ := s.hid b hb
        exact ⟨⟨ob, by rw [upd_ne (ne_of_none h1 hn)]; exact h1⟩, h2⟩,
    List.nodup_cons.mpr ⟨fun z => s.fresh hn (.inr z), s.ndh⟩⟩
/-- a hidden object changes -/
theorem Ext0.updHid : Ext0 (mp.hide a) H (mp.hide a) (upd H a o) :=
  ⟨List.prefix_refl _, fun b h => .inl h, fun b x hb h => by rw [upd_ne (fun z => hb (.inr (by rw [z]; exact List.mem_cons_self)))]; exact h⟩
theorem Sim.updHid (s : Sim K (mp.hide a) g H) : Sim K (mp.hide a) g (upd H a o) := by
  have ha := (s.hid a List.mem_cons_self).2
  refine ⟨s.nd, s.len, fun n w h => ?_, fun b hb => ?_, s.ndh⟩
  · obtain ⟨b, h1, h2⟩ := s.obj n w h
    refine ⟨b, h1, h2.ext0 .updHid fun ob q => ?_⟩
    rw [upd_ne (fun z => ha (by rw [← z]; exact List.mem_of_getElem? h1))]; exact q
  · obtain ⟨⟨ob, h1⟩, h2⟩ := s.hid b hb
    refine ⟨?_, h2⟩
    by_cases q : b = a
    · rw [q, upd_same]; exact ⟨_, rfl⟩
    · rw [upd_ne q]; exact ⟨ob, h1⟩
mutual
/-- an address is no more hidden -/
theorem Rp.unhide : ∀ {w : W} {u : V}, Rp K (mp.hide a) H w u → Rp K mp H w u
  | .non, _, h => by simp only [Rp] at h ⊢; exact h
  | .bl _, _, h => by simp only [Rp] at h ⊢; exact h
  | .int _, _, h => by simp only [Rp] at h ⊢; exact h
  | .str _, _, h => by simp only [Rp] at h ⊢; exact h
  | .tup xs, _, h => by
    simp only [Rp] at h ⊢
    obtain ⟨b, vs, h1, h2, h3⟩ := h
    refine ⟨b, vs, h1, ⟨h2.1, ?_⟩, RpL.unhide h3⟩
    rcases h2.2 with q | q
    · exact .inl ⟨q.1, fun z => q.2 (z.elim .inl fun z => .inr (List.mem_cons_of_mem _ z))⟩
    · exact .inr q
  | .lst xs, _, h => by
    simp only [Rp] at h ⊢
    obtain ⟨b, vs, h1, h2, h3⟩ := h
    exact ⟨b, vs, h1, ⟨h2.1, h2.2.1, fun z => h2.2.2 (z.elim .inl fun z => .inr (List.mem_cons_of_mem _ z))⟩, RpL.unhide h3⟩
  | .lck xs, _, h => by
    simp only [Rp] at h ⊢
    obtain ⟨b, vs, h1, h2, h3⟩ := h
    refine ⟨b, vs, h1, ⟨h2.1, ?_⟩, RpL.unhide h3⟩
    rcases h2.2 with q | q
    · exact .inl ⟨q.1, fun z => q.2 (z.elim .inl fun z => .inr (List.mem_cons_of_mem _ z))⟩
    · exact .inr q
  | .dct ks xs, _, h => by
    simp only [Rp] at h ⊢
    obtain ⟨b, h1, h2, h3⟩ := h
    refine ⟨b, h1, fun z => h2 (z.elim .inl fun z => .inr (List.mem_cons_of_mem _ z)), ?_⟩
    rcases h3 with ⟨kvs, k1, k2, k3⟩ | ⟨kvs, k1, k2, k3⟩
    · exact .inl ⟨kvs, k1, k2, RpL.unhide k3⟩
    · exact .inr ⟨kvs, k1, k2, RpL.unhide k3⟩
  | .ob n, _, h => by simp only [Rp] at h ⊢; exact h
theorem RpL.unhide : ∀ {xs : List W} {us : List V}, RpL K (mp.hide a) H xs us → RpL K mp H xs us
  | [], _, h => by simp only [RpL] at h ⊢; exact h
  | x :: xs, _, h => by
    simp only [RpL] at h ⊢
    obtain ⟨u, us, h1, h2, h3⟩ := h
    exact ⟨u, us, h1, Rp.unhide h2, RpL.unhide h3⟩
end
theorem RO.unhide : ∀ {w : W} {b : Addr}, RO K (mp.hide a) H b w → RO K mp H b w
  | .lst xs, _, ⟨vs, h, hz, r⟩ => ⟨vs, h, hz, r.unhide⟩
  | .dct ks xs, _, h => by
    rcases h with ⟨kvs, h, h2, h3⟩ | ⟨kvs, h, h2, h3⟩
    · exact .inl ⟨kvs, h, h2, h3.unhide⟩
    · exact .inr ⟨kvs, h, h2, h3.unhide⟩
theorem Sim.unhide (s : Sim K (mp.hide a) g H) : Sim K mp g H :=
  ⟨s.nd, s.len, fun n w h => let ⟨b, h1, h2⟩ := s.obj n w h; ⟨b, h1, h2.unhide⟩, fun b hb => s.hid b (List.mem_cons_of_mem _ hb), (List.nodup_cons.mp s.ndh).2⟩
mutual
theorem Rp.track : ∀ {w : W} {u : V}, Rp K (mp.hide a) H w u → Rp K (mp.track a) H w u
  | .non, _, h => by simp only [Rp] at h ⊢; exact h
  | .bl _, _, h => by simp only [Rp] at h ⊢; exact h
  | .int _, _, h => by simp only [Rp] at h ⊢; exact h
  | .str _, _, h => by simp only [Rp] at h ⊢; exact h
  | .tup xs, _, h => by
    simp only [Rp] at h ⊢
    obtain ⟨b, vs, h1, h2, h3⟩ := h
    refine ⟨b, vs, h1, ⟨h2.1, ?_⟩, RpL.track h3⟩
    rcases h2.2 with q | q
    · exact .inl ⟨q.1, fun z => q.2 (M.track_hide z)⟩
    · exact .inr q
  | .lst xs, _, h => by
    simp only [Rp] at h ⊢
    obtain ⟨b, vs, h1, h2, h3⟩ := h
    exact ⟨b, vs, h1, ⟨h2.1, h2.2.1, fun z => h2.2.2 (M.track_hide z)⟩, RpL.track h3⟩
  | .lck xs, _, h => by
    simp only [Rp] at h ⊢
    obtain ⟨b, vs, h1, h2, h3⟩ := h
    refine ⟨b, vs, h1, ⟨h2.1, ?_⟩, RpL.track h3⟩
    rcases h2.2 with q | q
    · exact .inl ⟨q.1, fun z => q.2 (M.track_hide z)⟩
    · exact .inr q
  | .dct ks xs, _, h => by
    simp only [Rp] at h ⊢
    obtain ⟨b, h1, h2, h3⟩ := h
    refine ⟨b, h1, fun z => h2 (M.track_hide z), ?_⟩
    rcases h3 with ⟨kvs, k1, k2, k3⟩ | ⟨kvs, k1, k2, k3⟩
    · exact .inl ⟨kvs, k1, k2, RpL.track k3⟩
    · exact .inr ⟨kvs, k1, k2, RpL.track k3⟩
  | .ob n, _, h => by
    simp only [Rp] at h ⊢
    obtain ⟨b, h1, h2⟩ := h
    refine ⟨b, h1, ?_⟩
    show (mp.ob ++ [a])[n]? = some b
    rw [List.getElem?_append_left (by exact (List.getElem?_eq_some_iff.mp h2).1)]
    exact h2
theorem RpL.track : ∀ {xs : List W} {us : List V}, RpL K (mp.hide a) H xs us → RpL K (mp.track a) H xs us
  | [], _, h => by simp only [RpL] at h ⊢; exact h
  | x :: xs, _, h => by
    simp only [RpL] at h ⊢
    obtain ⟨u, us, h1, h2, h3⟩ := h
    exact ⟨u, us, h1, Rp.track h2, RpL.track h3⟩
end
theorem RO.track : ∀ {w : W} {b : Addr}, RO K (mp.hide a) H b w → RO K (mp.track a) H b w
  | .lst xs, _, ⟨vs, h, hz, r⟩ => ⟨vs, h, hz, r.track⟩
  | .dct ks xs, _, h => by
    rcases h with ⟨kvs, h, h2, h3⟩ | ⟨kvs, h, h2, h3⟩
    · exact .inl ⟨kvs, h, h2, h3.track⟩
    · exact .inr ⟨kvs, h, h2, h3.track⟩
theorem Ext.track {H0 : Hp} {mp0 : M} (e : Ext mp0 H0 mp H) (hn : H0 a = none) : Ext mp0 H0 (mp.track a) H :=
  ⟨e.pre.trans (List.prefix_append _ _), fun b h => by
    rcases List.mem_append.mp h with h | h
    · exact e.freO b h
    · right; rw [List.mem_singleton.mp h]; exact hn, e.keep, e.hd⟩
end
end Z
namespace Z
open PySem PySem.Spec L2
open PyProof.Rows hiding St
/-! ### the small language -/
inductive Bop where | add | sub | mul | fdiv | mod | pow | shl | shr | band | bor | bxor
  deriving DecidableEq, Inhabited
inductive Cop where | eq | ne | lt | le | gt | ge | isN | notN | isin | notin
  deriving DecidableEq, Inhabited
/-- a built-in of one argument that makes no list -/
inductive U1 where | len | abs | int | tuple | bool | sum | max | min
  deriving DecidableEq, Inhabited
inductive U2 where | max | min
  deriving DecidableEq, Inhabited
/-- a built-in that makes a list -/
inductive N1 where | list | sorted
  deriving DecidableEq, Inhabited
inductive M1 where | join | index | count
  deriving DecidableEq, Inhabited
inductive Ty where | tuple | list | int | str | bool
  deriving DecidableEq, Inhabited
inductive T where
  | n (i : Nat) | tup (ts : T) | nil | cons (t ts : T)
  deriving Inhabited
inductive E where
  | v (i : Nat) | k (w : W) | gl (w : W) (n : Nat)
  | bin (op : Bop) (a b : E) | neg (a : E) | nt (a : E)
  | cmp (op : Cop) (a b : E) | and (a b : E) | or (a b : E) | ite (c a b : E) | tv (a : E)
  | tup (es : E) | nil | cons (a es : E)
  | lst (es : E) | mk (a : E) | fz (a : E) | lcat (a b : E) | lrep (a b : E)
  | ix (a i : E) | sl (a lo hi : E) | lsl (a lo hi : E) | nopart
  | call (f : Nat) (es : E)
  | u1 (op : U1) (a : E) | u2 (op : U2) (a b : E) | n1 (op : N1) (a : E) | isi (a : E) (t : Ty)
  | m1 (op : M1) (o a : E)
  | app (o a : E) | ext (o a : E) | pop (o : E) | popAt (o i : E)
  | lc (own : List Nat) (t : T) (src ifs elt : E) | lrng1 (a : E) | lrng2 (a b : E) | sset (a : E)
  | it (a : E) | enum (a : E) | rng1 (a : E) | rng2 (a b : E)
  | dnew | dix (o i : E) | din (neg : Bool) (i o : E) | dget (o i z : E) | dsort (o : E)
  deriving Inhabited
inductive S where
  | nop | seq (a b : S)
  | set (t : T) (e : E) | par (i j : Nat) (a b : E) | setix (o i e : E) | setd (o i e : E) | aug (i : Nat) (op : Bop) (e : E)
  | ite (c : E) (a b : S) | loop (gc : Bool) (t : T) (src : E) (body : S) | whil (gc : Bool) (c : E) (body : S)
  | ret (e : E) | retN | ex (e : E) | brk | cont
  deriving Inhabited
/-! ### its meaning -/
def opt {α : Type} (o : Option α) (Q : α → Prop) : Prop := ∃ v, o = some v ∧ Q v
def nth {α : Type} : List α → Nat → Option α
  | [], _ => none
  | x :: _, 0 => some x
  | _ :: xs, n + 1 => nth xs n
theorem nth_eq {α : Type} : ∀ (xs : List α) (n : Nat), nth xs n = xs[n]?
  | [], _ => by simp [nth]
  | x :: _, 0 => by simp [nth]
  | _ :: xs, n + 1 => by simp [nth, nth_eq xs n]
/-- the slot i of the names -/
def slot (env : Env) (i : Nat) : Option W := match nth env i with
  | some (some w) => some w
  | _ => none
/-- a tracked object as it stands, any other value itself -/
def dr (g : CH) : W → W
  | .ob n => match nth g n with
    | some w => w
    | none => .ob n
  | w => w
def tups (xs : List W) : Option W := if xs.length ≤ sizeLine then some (.tup xs) else none
def mulOk (i j : Int) : Prop := i.natAbs.log2 + j.natAbs.log2 < 100000000
noncomputable instance (i j : Int) : Decidable (mulOk i j) := Classical.propDecidable _
def shlOk (i j : Int) : Prop := 0 ≤ j ∧ (i.natAbs.log2 : Int) + j < 100000000
noncomputable instance (i j : Int) : Decidable (shlOk i j) := Classical.propDecidable _
def strW (x : Str) : Option W := if x.length ≤ sizeLine then some (.str x) else none
noncomputable def bop : Bop → W → W → Option W
  | .add, .int i, .int j => some (.int (i + j))
  | .add, .str x, .str y => strW (x ++ y)
  | .add, .tup x, .tup y => tups (x ++ y)
  | .sub, .int i, .int j => some (.int (i - j))
  | .mul, .int i, .int j => if mulOk i j then some (.int (i * j)) else none
  | .mul, .tup x, .int j => if x.isEmpty = false ∧ 0 ≤ j ∧ j ≤ 1000 ∧ x.length ≤ 1000 then some (.tup (List.replicate j.toNat x).flatten) else none
  | .fdiv, .int i, .int j => if 0 < j ∧ j.natAbs.log2 < 9000 then some (.int (i / j)) else none
  | .mod, .int i, .int j => if 0 < j then some (.int (i % j)) else none
  | .pow, .int i, .int j => if 0 ≤ j ∧ j ≤ 1000000 ∧ i.natAbs < 2 ^ 64 then some (.int (i ^ j.toNat)) else none
  | .shl, .int i, .int j => if shlOk i j then some (.int (i * 2 ^ j.toNat)) else none
  | .shr, .int i, .int j => if 0 ≤ j then some (.int (i / 2 ^ j.toNat)) else none
  | .band, .int i, .int j => some (.int (Builtin.bitAnd i j))
  | .bor, .int i, .int j => some (.int (Builtin.bitOr i j))
  | .bxor, .int i, .int j => some (.int (Builtin.bitXor i j))
  | _, _, _ => none
/-- x op= y -/
def iop : Bop → W → W → Option W
  | .add, .int i, .int j => some (.int (i + j))
  | .add, .str x, .str y => strW (x ++ y)
  | .sub, .int i, .int j => some (.int (i - j))
  | .band, .int i, .int j => some (.int (Builtin.bitAnd i j))
  | .bor, .int i, .int j => some (.int (Builtin.bitOr i j))
  | .bxor, .int i, .int j => some (.int (Builtin.bitXor i j))
  | _, _, _ => none
mutual
/-- what == sees -/
def dat : W → Option PyData
  | .non => some .none
  | .bl b => some (.bool b)
  | .int i => some (.int i)
  | .str x => some (.str x)
  | .tup xs => (dats xs).map .tuple
  | .lst xs => (dats xs).map .list
  | _ => none
def dats : List W → Option (List PyData)
  | [] => some []
  | x :: xs => match dat x, dats xs with
    | some d, some ds => some (d :: ds)
    | _, _ => none
end
/-- == of two values that hold no tracked objects within (either may be one itself) -/
def eqD (g : CH) (x y : W) : Option Bool := match dat (dr g x), dat (dr g y) with
  | some d, some e => if d.depth ≤ 64 ∧ e.depth ≤ 64 then some (PyData.eqv d e) else none
  | _, _ => none
def inD (g : CH) (x y : W) : Option Bool := match dat (dr g x), dr g y with
  | some d, .tup ys => (dats ys).bind fun es => if d.depth ≤ 64 ∧ PyData.depthAll es ≤ 63 then some (es.any fun z => PyData.eqv z d) else none
  | some d, .lst ys => (dats ys).bind fun es => if d.depth ≤ 64 ∧ PyData.depthAll es ≤ 63 then some (es.any fun z => PyData.eqv z d) else none
  | _, _ => none
def isNon : W → Bool
  | .non => true
  | _ => false
def cop (g : CH) : Cop → W → W → Option Bool
  | .eq, x, y => eqD g x y
  | .ne, x, y => (eqD g x y).map not
  | .lt, .int i, .int j => some (decide (i < j))
  | .le, .int i, .int j => some (decide (i ≤ j))
  | .gt, .int i, .int j => some (decide (j < i))
  | .ge, .int i, .int j => some (decide (j ≤ i))
  | .isN, x, .non => some (isNon x)
  | .notN, x, .non => some (!isNon x)
  | .isin, x, y => inD g x y
  | .notin, x, y => (inD g x y).map not
  | _, _, _ => none
/-- truth -/
def tru (g : CH) (x : W) : Option Bool := match dr g x with
  | .non => some false
  | .bl b => some b
  | .int i => some (i != 0)
  | .str x => some ((x.length : Int) != 0)
  | .tup xs => some (!xs.isEmpty)
  | .lst xs => some (!xs.isEmpty)
  | _ => none
def chr1 (c : Nat) : W := .str ⟨#[c]⟩
/-- o[i] -/
def ixW (g : CH) (o i : W) : Option W := match dr g o, i with
  | .tup xs, .int i => atI xs i
  | .lst xs, .int i => atI xs i
  | .str x, .int i => (atI x.cps.toList i).map chr1
  | _, _ => none
/-- a key -/
def keyOf : W → Option Key
  | .int i => some (.inl i)
  | .str x => some (.inr x)
  | _ => none
def keysOf : List W → Option (List Key)
  | [] => some []
  | w :: ws => (keyOf w).bind fun k => (keysOf ws).map (k :: ·)
/-- a dict with keys that are ints and texts -/
def dctOf (g : CH) (o : W) : Option (List Key × List W) := match dr g o with
  | .dct ks xs => (keysOf ks).map fun l => (l, xs)
  | _ => none
def dfind : List Key → List W → Key → Option W
  | a :: ks, x :: xs, k => if a = k then some x else dfind ks xs k
  | _, _, _ => none
def drepl : List Key → List W → Key → W → List W
  | a :: ks, x :: xs, k, v => (if a = k then v else x) :: drepl ks xs k v
  | _, _, _, _ => []
def hasK (ks : List Key) (k : Key) : Bool := ks.any fun a => decide (a = k)
def dputK (ks : List Key) (k : Key) : List Key := if hasK ks k = true then ks else ks ++ [k]
def dputX (ks : List Key) (xs : List W) (k : Key) (v : W) : List W := if hasK ks k = true then drepl ks xs k v else xs ++ [v]
def dixW (g : CH) (o i : W) : Option W := (dctOf g o).bind fun d => (keyOf i).bind fun k => dfind d.1 d.2 k
def dinW (g : CH) (i o : W) : Option Bool := (dctOf g o).bind fun d => (keyOf i).map fun k => (dfind d.1 d.2 k).isSome
def dgetW (g : CH) (o i z : W) : Option W := (dctOf g o).bind fun d => (keyOf i).map fun k => (dfind d.1 d.2 k).getD z
def inlsOf : List Key → Option (List Int)
  | [] => some []
  | .inl i :: ks => (inlsOf ks).map (i :: ·)
  | _ :: _ => none
def sixW (n d : Nat) : W → Option Nat
  | .non => some d
  | .int i => some (HT.sIx n d (some i))
  | _ => none
def cutW {α : Type} (xs : List α) (lo hi : W) : Option (List α) := match sixW xs.length 0 lo, sixW xs.length xs.length hi with
  | some a, some b => some ((xs.drop a).take (b - a))
  | _, _ => none
/-- o[lo:hi] of a tuple or a text -/
def slW (o lo hi : W) : Option W := match o with
  | .tup xs => (cutW xs lo hi).map .tup
  | .str x => (cutW x.cps.toList lo hi).map fun l => .str ⟨l.toArray⟩
  | _ => none
/-- .. of a list -/
def lslW (g : CH) (o lo hi : W) : Option (List W) := match dr g o with
  | .lst xs => cutW xs lo hi
  | _ => none
def intsOf : List W → Option (List Int)
  | [] => some []
  | .int i :: xs => (intsOf xs).map (i :: ·)
  | _ :: _ => none
def seqOf (g : CH) (o : W) : Option (List W) := match dr g o with
  | .tup xs => some xs
  | .lck xs => some xs
  | .lst xs => some xs
  | _ => none
def lseqOf (g : CH) (o : W) : Option (List W) := match dr g o with
  | .lst xs => some xs
  | _ => none
/-- the items that an enumerate gives: no tracked list's -/
def enumW : Nat → List W → List W
  | _, [] => []
  | i, x :: xs => .tup [.int (i : Nat), x] :: enumW (i + 1) xs
def fseqOf : W → Option (List W)
  | .tup xs => some xs
  | .lst xs => some xs
  | .lck xs => some xs
  | _ => none
/-- a list's or a tuple's items -/
def tseqOf (g : CH) (o : W) : Option (List W) := match dr g o with
  | .lst xs => some xs
  | .tup xs => some xs
  | _ => none
/-- k into a rising row, if it is not there -/
def insS (k : Int) : List Int → List Int
  | [] => [k]
  | x :: xs => if k < x then k :: x :: xs else if k = x then x :: xs else x :: insS k xs
def setInts (ns : List Int) : List Int := ns.foldr insS []
def maxL : List Int → Option Int
  | [] => none
  | x :: xs => some (xs.foldl (fun a b => if a < b then b else a) x)
def minL : List Int → Option Int
  | [] => none
  | x :: xs => some (xs.foldl (fun a b => if b < a then b else a) x)
def u1W (g : CH) : U1 → W → Option W
  | .len, x => match dr g x with
    | .tup xs => some (.int xs.length)
    | .lst xs => some (.int xs.length)
    | .str x => some (.int x.length)
    | _ => none
  | .abs, .int i => some (.int (if i < 0 then -i else i))
  | .int, .int i => some (.int i)
  | .int, .bl b => some (.int (if b then 1 else 0))
  | .bool, .int i => some (.bl (i != 0))
  | .bool, .bl b => some (.bl b)
  | .tuple, x => match dr g x with
    | .tup xs => some (.tup xs)
    | .lst xs => some (.tup xs)
    | _ => none
  | .sum, x => (lseqOf g x).bind fun xs => (intsOf xs).map fun ns => .int ns.sum
  | .max, x => (tseqOf g x).bind fun xs => (intsOf xs).bind fun ns => (maxL ns).map .int
  | .min, x => (lseqOf g x).bind fun xs => (intsOf xs).bind fun ns => (minL ns).map .int
  | _, _ => none
def u2W : U2 → W → W → Option W
  | .max, .int i, .int j => some (.int (if j > i then j else i))
  | .min, .int i, .int j => some (.int (if j < i then j else i))
  | _, _, _ => none
def isiW (g : CH) (x : W) (t : Ty) : Option Bool := match dr g x, t with
  | .non, _ => some false
  | .bl _, .bool => some true
  | .bl _, .int => some true
  | .bl _, _ => some false
  | .int _, .int => some true
  | .int _, _ => some false
  | .str _, .str => some true
  | .str _, _ => some false
  | .tup _, .tuple => some true
  | .tup _, _ => some false
  | .lst _, .list => some true
  | .lst _, _ => some false
  | _, _ => none
def rangeW (lo : Int) : Nat → List W
  | 0 => []
  | n + 1 => .int lo :: rangeW (lo + 1) n
def rngOk (lo hi : Int) : Prop := -(2 ^ 62) ≤ lo ∧ lo < 2 ^ 62 ∧ -(2 ^ 62) ≤ hi ∧ hi < 2 ^ 62 ∧ (hi - lo).toNat ≤ 2 ^ 24
noncomputable instance (lo hi : Int) : Decidable (rngOk lo hi) := Classical.propDecidable _
noncomputable def rngW (lo hi : W) : Option (List W) := match lo, hi with
  | .int i, .int j => if rngOk i j then some (rangeW i (j - i).toNat) else none
  | _, _ => none
/-- what a for walks: the tracked list, if it is one; the items -/
def iterW (g : CH) (x : W) : Option (Option Nat × List W) := match x with
  | .tup xs => some (none, xs)
  | .lck xs => some (none, xs)
  | .lst xs => some (none, xs)
  | .str x => some (none, x.cps.toList.map chr1)
  | .ob n => match nth g n with
    | some (.lst xs) => some (some n, xs)
    | _ => none
  | _ => none
mutual
def asg : T → W → Env → Option Env
  | .n i, w, env => some (env.set i (some w))
  | .tup ts, w, env => match w with
    | .tup xs => asgs ts xs env
    | .lst xs => asgs ts xs env
    | _ => none
  | _, _, _ => none
def asgs : T → List W → Env → Option Env
  | .nil, [], env => some env
  | .cons t ts, x :: xs, env => (asg t x env).bind fun e => asgs ts xs e
  | _, _, _ => none
end
def wipeE (env : Env) : List Nat → Env
  | [] => env
  | v :: vs => (wipeE env vs).set v none
abbrev WK := W → CH → Prop
abbrev FSem := Nat → List W → CH → WK → Prop
/-- a tracked list that is walked still stands -/
def stays (g : CH) (o : Option Nat) (all : List W) : Prop := match o with
  | none => True
  | some n => nth g n = some (.lst all)
def lcL (t : T) (tst : Env → CH → (Bool → CH → Prop) → Prop) (elt : Env → CH → WK → Prop) (env0 : Env) (o : Option Nat) (all : List W) : List W → List W → CH → (List W → CH → Prop) → Prop
  | [], acc, g, Q => stays g o all ∧ Q acc g
  | x :: xs, acc, g, Q => stays g o all ∧ opt (asg t x env0) fun env1 => tst env1 g fun b g1 => if b = true then elt env1 g1 fun w g2 => lcL t tst elt env0 o all xs (acc ++ [w]) g2 Q else lcL t tst elt env0 o all xs acc g1 Q
def popW (xs : List W) : Option (W × List W) := match xs.getLast? with
  | some y => some (y, xs.dropLast)
  | none => none
def popAtW (xs : List W) (i : W) : Option (W × List W) := match i with
  | .int i => if -(2 ^ 63) ≤ i ∧ i < 2 ^ 63 then (ixN xs.length i).bind fun j => (xs[j]?).map fun y => (y, xs.eraseIdx j) else none
  | _ => none
def obOf (g : CH) (w : W) : Option (Nat × List W) := match w with
  | .ob n => match nth g n with
    | some (.lst xs) => some (n, xs)
    | _ => none
  | _ => none
/-- a tracked dict -/
def dobOf (g : CH) (w : W) : Option (Nat × List Key × List W) := match w with
  | .ob n => match nth g n with
    | some (.dct ks xs) => (keysOf ks).map fun l => (n, l, xs)
    | _ => none
  | _ => none
/-- the dict ks, xs, v at k -/
def putD (ks : List Key) (xs : List W) (k : Key) (v : W) : Option W := some (.dct ((dputK ks k).map keyW) (dputX ks xs k v))
theorem opt_putD {ks : List Key} {xs : List W} {k : Key} {v : W} {Q : W → Prop} (h : opt (putD ks xs k v) Q) : Q (.dct ((dputK ks k).map keyW) (dputX ks xs k v)) := by
  obtain ⟨_, h, q⟩ := h
  cases h
  exact q
/-- the list xs, w at i -/
def putL (xs : List W) (i : Nat) (w : W) : Option (List W) := some (xs.set i w)
/-- .. w behind it -/
def addL (xs : List W) (w : W) : Option (List W) := some (xs ++ [w])
theorem opt_put {xs : List W} {i : Nat} {w : W} {Q : List W → Prop} (h : opt (putL xs i w) Q) : Q (xs.set i w) := by
  obtain ⟨_, h, q⟩ := h
  cases h
  exact q
theorem opt_add {xs : List W} {w : W} {Q : List W → Prop} (h : opt (addL xs w) Q) : Q (xs ++ [w]) := by
  obtain ⟨_, h, q⟩ := h
  cases h
  exact q
def sortInts (ns : List Int) : List Int := ns.mergeSort (fun a b => decide (a ≤ b))
section
variable (F : FSem)
mutual
/-- a value -/
def wpE : E → Env → CH → WK → Prop
  | .v i, env, g, Q => opt (slot env i) fun w => Q w g
  | .k w, _, g, Q => Q w g
  | .gl w _, _, g, Q => Q w g
  | .bin op a b, env, g, Q => wpE a env g fun x g1 => wpE b env g1 fun y g2 => opt (bop op x y) fun z => Q z g2
  | .neg a, env, g, Q => wpE a env g fun x g1 => match x with
    | .int i => Q (.int (-i)) g1
    | _ => False
  | .nt a, env, g, Q => wpE a env g fun x g1 => match x with
    | .bl b => Q (.bl (!b)) g1
    | _ => False
  | .cmp op a b, env, g, Q => wpE a env g fun x g1 => wpE b env g1 fun y g2 => opt (cop g2 op x y) fun z => Q (.bl z) g2
  | .and a b, env, g, Q => wpE a env g fun x g1 => match x with
    | .bl c => if c = true then wpE b env g1 Q else Q (.bl false) g1
    | _ => False
  | .or a b, env, g, Q => wpE a env g fun x g1 => match x with
    | .bl c => if c = true then Q (.bl true) g1 else wpE b env g1 Q
    | _ => False
  | .ite c a b, env, g, Q => wpT c env g fun d g1 => if d = true then wpE a env g1 Q else wpE b env g1 Q
  | .tup es, env, g, Q => wpA es env g fun xs g1 => opt (tups xs) fun w => Q w g1
  | .mk a, env, g, Q => wpN a env g fun xs g1 => opt (addL g1 (.lst xs)) fun g2 => Q (.ob g1.length) g2
  | .fz a, env, g, Q => wpN a env g fun xs g1 => Q (.lst xs) g1
  | .ix a i, env, g, Q => wpE a env g fun x g1 => wpE i env g1 fun y g2 => opt (ixW g2 x y) fun z => Q z g2
  | .sl a lo hi, env, g, Q => wpE a env g fun x g1 => wpP lo env g1 fun y g2 => wpP hi env g2 fun z g3 => opt (slW x y z) fun u => Q u g3
  | .call f es, env, g, Q => wpA es env g fun xs g1 => F f xs g1 Q
  | .u1 op a, env, g, Q => wpE a env g fun x g1 => opt (u1W g1 op x) fun z => Q z g1
  | .u2 op a b, env, g, Q => wpE a env g fun x g1 => wpE b env g1 fun y g2 => opt (u2W op x y) fun z => Q z g2
  | .isi a t, env, g, Q => wpE a env g fun x g1 => opt (isiW g1 x t) fun z => Q (.bl z) g1
  | .app o a, env, g, Q => wpE o env g fun x g1 => opt (obOf g1 x) fun _ => wpE a env g1 fun y g2 => opt (obOf g2 x) fun p => p.2.length < sizeLine ∧ opt (addL p.2 y) fun ys => opt (putL g2 p.1 (.lst ys)) fun g3 => Q .non g3
  | .ext o a, env, g, Q => wpE o env g fun x g1 => opt (obOf g1 x) fun _ => wpE a env g1 fun y g2 => opt (obOf g2 x) fun p => opt (tseqOf g2 y) fun ys => p.2.length + ys.length ≤ sizeLine ∧ opt (putL g2 p.1 (.lst (p.2 ++ ys))) fun g3 => Q .non g3
  | .pop o, env, g, Q => wpE o env g fun x g1 => opt (obOf g1 x) fun p => opt (popW p.2) fun r => opt (putL g1 p.1 (.lst r.2)) fun g2 => Q r.1 g2
  | .popAt o i, env, g, Q => wpE o env g fun x g1 => opt (obOf g1 x) fun _ => wpE i env g1 fun y g2 => opt (obOf g2 x) fun p => opt (popAtW p.2 y) fun r => opt (putL g2 p.1 (.lst r.2)) fun g3 => Q r.1 g3
  | .dnew, _, g, Q => opt (addL g (.dct [] [])) fun g2 => Q (.ob g.length) g2
  | .dix o i, env, g, Q => wpE o env g fun x g1 => wpE i env g1 fun y g2 => opt (dixW g2 x y) fun z => Q z g2
  | .din neg i o, env, g, Q => wpE i env g fun y g1 => wpE o env g1 fun x g2 => opt (dinW g2 y x) fun b => Q (.bl (if neg = true then !b else b)) g2
  | .dget o i z, env, g, Q => wpE o env g fun x g1 => opt (dctOf g1 x) fun _ => wpE i env g1 fun y g2 => wpE z env g2 fun u g3 => opt (dgetW g3 x y u) fun v => Q v g3
  | _, _, _, _ => False
/-- a list of values -/
def wpA : E → Env → CH → (List W → CH → Prop) → Prop
  | .nil, _, g, Q => Q [] g
  | .cons a es, env, g, Q => wpE a env g fun x g1 => wpA es env g1 fun xs g2 => Q (x :: xs) g2
  | _, _, _, _ => False
/-- a test -/
def wpT : E → Env → CH → (Bool → CH → Prop) → Prop
  | .and a b, env, g, Q => wpT a env g fun c g1 => if c = true then wpT b env g1 Q else Q false g1
  | .or a b, env, g, Q => wpT a env g fun c g1 => if c = true then Q true g1 else wpT b env g1 Q
  | .nt a, env, g, Q => wpT a env g fun c g1 => Q (!c) g1
  | .cmp op a b, env, g, Q => wpE a env g fun x g1 => wpE b env g1 fun y g2 => opt (cop g2 op x y) fun z => Q z g2
  | .tv a, env, g, Q => wpE a env g fun x g1 => opt (tru g1 x) fun z => Q z g1
  | .din neg i o, env, g, Q => wpE i env g fun y g1 => wpE o env g1 fun x g2 => opt (dinW g2 y x) fun b => Q (if neg = true then !b else b) g2
  | .nil, _, g, Q => Q true g
  | .cons a _, env, g, Q => wpT a env g Q
  | _, _, _, _ => False
/-- a part of a slice -/
def wpP : E → Env → CH → WK → Prop
  | .nopart, _, g, Q => Q .non g
  | .cons a _, env, g, Q => wpE a env g fun x g1 => match x with
    | .int i => Q (.int i) g1
    | _ => False
  | _, _, _, _ => False
/-- the items of a list that is made -/
def wpN : E → Env → CH → (List W → CH → Prop) → Prop
  | .lst es, env, g, Q => wpA es env g fun xs g1 => xs.length ≤ sizeLine ∧ Q xs g1
  | .lcat a b, env, g, Q => wpE a env g fun x g1 => wpE b env g1 fun y g2 => opt (lseqOf g2 x) fun xs => opt (lseqOf g2 y) fun ys => xs.length + ys.length ≤ sizeLine ∧ Q (xs ++ ys) g2
  | .lrep a b, env, g, Q => wpE a env g fun x g1 => wpE b env g1 fun y g2 => opt (lseqOf g2 x) fun xs => match y with
    | .int n => (-(2 ^ 63) ≤ n ∧ n < 2 ^ 63) ∧ xs.length * n.toNat ≤ sizeLine ∧ Q (List.replicate n.toNat xs).flatten g2
    | _ => False
  | .lsl a lo hi, env, g, Q => wpE a env g fun x g1 => wpP lo env g1 fun y g2 => wpP hi env g2 fun z g3 => opt (lslW g3 x y z) fun xs => Q xs g3
  | .n1 .list a, env, g, Q => wpE a env g fun x g1 => opt (seqOf g1 x) fun xs => Q xs g1
  | .n1 .sorted a, env, g, Q => wpE a env g fun x g1 => opt (lseqOf g1 x) fun xs => opt (intsOf xs) fun ns => Q ((sortInts ns).map .int) g1
  | .lc own t src ifs elt, env, g, Q => wpI src env g fun o xs g1 => lcL t (wpT ifs) (wpE elt) (wipeE env own) o xs xs [] g1 Q
  | .lrng1 a, env, g, Q => wpE a env g fun x g1 => opt (rngW (.int 0) x) fun xs => Q xs g1
  | .sset a, env, g, Q => wpE a env g fun x g1 => opt (lseqOf g1 x) fun xs => opt (intsOf xs) fun ns => (ns.length < 4000 ∧ (setInts ns).length < 64) ∧ Q ((setInts ns).map .int) g1
  | .lrng2 a b, env, g, Q => wpE a env g fun x g1 => wpE b env g1 fun y g2 => opt (rngW x y) fun xs => Q xs g2
  | .dsort o, env, g, Q => wpE o env g fun x g1 => opt (dctOf g1 x) fun d => opt (inlsOf d.1) fun ns => ns.length < 64 ∧ Q ((sortInts ns).map .int) g1
  | _, _, _, _ => False
/-- what a for walks -/
def wpI : E → Env → CH → (Option Nat → List W → CH → Prop) → Prop
  | .it a, env, g, Q => wpE a env g fun x g1 => opt (iterW g1 x) fun p => Q p.1 p.2 g1
  | .enum a, env, g, Q => wpE a env g fun x g1 => opt (fseqOf x) fun xs => Q none (enumW 0 xs) g1
  | .rng1 a, env, g, Q => wpE a env g fun x g1 => opt (rngW (.int 0) x) fun xs => Q none xs g1
  | .rng2 a b, env, g, Q => wpE a env g fun x g1 => wpE b env g1 fun y g2 => opt (rngW x y) fun xs => Q none xs g2
  | _, _, _, _ => False
end
end
/-! ### letting go of what was made -/
mutual
/-- no tracked object at or behind n within -/
def wf (n : Nat) : W → Bool
  | .tup xs => wfs n xs
  | .lst xs => wfs n xs
  | .lck xs => wfs n xs
  | .dct ks xs => wfs n ks && wfs n xs
  | .ob k => decide (k < n)
  | _ => true
def wfs (n : Nat) : List W → Bool
  | [] => true
  | x :: xs => wf n x && wfs n xs
end
mutual
/-- w in the heap g is w' if the objects from n on are no more tracked -/
inductive Fz (n : Nat) (g : CH) : W → W → Prop
  | same {w : W} : wf n w = true → Fz n g w w
  | tup {xs ys : List W} : Fzs n g xs ys → Fz n g (.tup xs) (.tup ys)
  | lst {xs ys : List W} : Fzs n g xs ys → Fz n g (.lst xs) (.lst ys)
  | ob {k : Nat} {xs ys : List W} : n ≤ k → nth g k = some (.lst xs) → Fzs n g xs ys → Fz n g (.ob k) (.lst ys)
  | obd {k : Nat} {ks xs ys : List W} : n ≤ k → nth g k = some (.dct ks xs) → Fzs n g xs ys → Fz n g (.ob k) (.dct ks ys)
inductive Fzs (n : Nat) (g : CH) : List W → List W → Prop
  | nil : Fzs n g [] []
  | cons {x y : W} {xs ys : List W} : Fz n g x y → Fzs n g xs ys → Fzs n g (x :: xs) (y :: ys)
end
/-- a tracked object itself -/
inductive FzO (n : Nat) (g : CH) : W → W → Prop
  | lst {xs ys : List W} : Fzs n g xs ys → FzO n g (.lst xs) (.lst ys)
  | dct {ks xs ys : List W} : Fzs n g xs ys → FzO n g (.dct ks xs) (.dct ks ys)
/-- the heap g2, once g0, let go from n on: g3 -/
def FzG (n : Nat) (g0 g2 g3 : CH) : Prop := g3.length = n ∧ n ≤ g2.length ∧
  ∀ i, i < n → (nth g2 i = nth g3 i ∧ nth g0 i = nth g3 i) ∨ ∃ w w', nth g2 i = some w ∧ nth g3 i = some w' ∧ FzO n g2 w w'
def FzE (n : Nat) (g2 : CH) (e0 e2 e3 : Env) : Prop := e3.length = e2.length ∧
  ∀ (i : Nat) (w : W), slot e3 i = some w → (slot e2 i = some w ∧ slot e0 i = some w) ∨ ∃ w2, slot e2 i = some w2 ∧ Fz n g2 w2 w
structure Post where
  nx : Env → CH → Prop
  rt : WK
  bk : Env → CH → Prop
  ct : Env → CH → Prop
def Post.seq (P : Post) (k : Env → CH → Prop) : Post := ⟨k, P.rt, P.bk, P.ct⟩
def Post.turn (P : Post) (k : Env → CH → Prop) : Post := ⟨k, P.rt, P.nx, k⟩
/-- behind a turn: what the turn made is let go, if the loop says so -/
def turnEnd (gc : Bool) (e0 : Env) (g0 : CH) (k : Env → CH → Prop) : Env → CH → Prop := fun e2 g2 =>
  if gc = true then ∃ e3 g3, FzE g0.length g2 e0 e2 e3 ∧ FzG g0.length g0 g2 g3 ∧ k e3 g3 else k e2 g2
def forL (gc : Bool) (e0 : Env) (g0 : CH) (t : T) (body : Env → CH → Post → Prop) (o : Option Nat) (all : List W) : List W → Env → CH → Post → Prop
  | [], env, g, P => stays g o all ∧ P.nx env g
  | x :: xs, env, g, P => stays g o all ∧ opt (asg t x env) fun env1 => body env1 g
      (P.turn (turnEnd gc e0 g0 fun e g => forL gc e0 g0 t body o all xs e g P))
def whileL (gc : Bool) (e0 : Env) (g0 : CH) (c : Env → CH → (Bool → CH → Prop) → Prop) (body : Env → CH → Post → Prop) : Nat → Env → CH → Post → Prop
  | 0, _, _, _ => False
  | n + 1, env, g, P => c env g fun b g1 => if b = true then body env g1
      (P.turn (turnEnd gc e0 g0 fun e g => whileL gc e0 g0 c body n e g P)) else P.nx env g1
def wpS (F : FSem) : S → Env → CH → Post → Prop
  | .nop, env, g, P => P.nx env g
  | .seq a b, env, g, P => wpS F a env g (P.seq fun e g1 => wpS F b e g1 P)
  | .set t e, env, g, P => wpE F e env g fun w g1 => opt (asg t w env) fun env1 => P.nx env1 g1
  | .par i j a b, env, g, P => wpE F a env g fun x g1 => wpE F b env g1 fun y g2 => P.nx ((env.set i (some x)).set j (some y)) g2
  | .setix o i e, env, g, P => wpE F e env g fun w g1 => wpE F o env g1 fun x g2 => wpE F i env g2 fun y g3 => opt (obOf g3 x) fun p => match y with
    | .int k => opt (ixN p.2.length k) fun j => opt (putL p.2 j w) fun ys => opt (putL g3 p.1 (.lst ys)) fun g4 => P.nx env g4
    | _ => False
  | .setd o i e, env, g, P => wpE F e env g fun w g1 => wpE F o env g1 fun x g2 => wpE F i env g2 fun y g3 => opt (dobOf g3 x) fun p => opt (keyOf y) fun k => p.2.1.length < sizeLine ∧ opt (putD p.2.1 p.2.2 k w) fun d => opt (putL g3 p.1 d) fun g4 => P.nx env g4
  | .aug i op e, env, g, P => opt (slot env i) fun x => wpE F e env g fun y g1 => opt (iop op x y) fun z => P.nx (env.set i (some z)) g1
  | .ite c a b, env, g, P => wpT F c env g fun d g1 => if d = true then wpS F a env g1 P else wpS F b env g1 P
  | .loop gc t src body, env, g, P => wpI F src env g fun o xs g1 => forL gc env g1 t (wpS F body) o xs xs env g1 P
  | .whil gc c body, env, g, P => ∃ n, whileL gc env g (wpT F c) (wpS F body) n env g P
  | .ret e, env, g, P => wpE F e env g P.rt
  | .retN, _, g, P => P.rt .non g
  | .ex e, env, g, P => wpE F e env g fun _ g1 => P.nx env g1
  | .brk, env, g, P => P.bk env g
  | .cont, env, g, P => P.ct env g
/-- a def: its parameters, its slots, whether what it made is let go at its end -/
structure Fn where
  np : Nat
  nv : Nat
  gc : Bool
  body : S
def retEnd (gc : Bool) (g0 : CH) (Q : WK) : WK := fun v g2 =>
  if gc = true then ∃ v' g3, Fz g0.length g2 v v' ∧ FzG g0.length g0 g2 g3 ∧ Q v' g3 else Q v g2
def Post.fn (R : WK) : Post := ⟨fun _ g2 => R .non g2, R, fun _ _ => False, fun _ _ => False⟩
/-- shut: a call is not opened unasked -/
@[irreducible] def shut (F : FSem) : FSem := F
theorem shut_eq {F : FSem} : shut F = F := by unfold shut; rfl
def wpF (T : List Fn) : Nat → FSem
  | 0 => fun _ _ _ _ => False
  | d + 1 => fun f ws g Q => opt (nth T f) fun fn => ws.length = fn.np ∧
      wpS (shut (wpF T d)) fn.body (ws.map some ++ List.replicate (fn.nv - ws.length) none) g (Post.fn (retEnd fn.gc g Q))
/-- .. a call -/
abbrev wpC (T : List Fn) (d : Nat) : FSem := shut (wpF T d)
theorem wpC_succ {T : List Fn} {d f : Nat} {ws : List W} {g : CH} {Q : WK} : wpC T (d + 1) f ws g Q ↔ opt (nth T f) fun fn => ws.length = fn.np ∧
      wpS (wpC T d) fn.body (ws.map some ++ List.replicate (fn.nv - ws.length) none) g (Post.fn (retEnd fn.gc g Q)) := by
  unfold wpC
  rw [shut_eq (F := wpF T (d + 1))]
  exact Iff.rfl
end Z
namespace Z
open PySem PySem.Spec L2
open PyProof.Rows hiding St
/-! ### a term is the text of an expression -/
structure Globs where
  fns : List (Str × Nat)
  consts : List (Str × W)
  free : List Str
structure Ctx where
  N : List Str
  sc : Scope
  fn : Str → Bool
def visB (sc : Scope) (x : Str) : Bool := match sc.names.lookup x with
  | some .local => true
  | some .cell => true
  | some .free => true
  | _ => false
def locB (c : Ctx) (x : Str) : Bool := match c.sc.names.lookup x with
  | some .local => true
  | some .cell => c.fn x
  | _ => false
def glB (sc : Scope) (x : Str) : Bool := match sc.names.lookup x with
  | some .globalImplicit => true
  | _ => false
def notDbg (x : Str) : Bool := !(x == ("__debug__" : Str)) && !(x == ("__classdict__" : Str))
def isName (x : Str) (s : Str) : Bool := decide (x = s)
/-- a built-in's name x, as it is written -/
def bltB (G : Globs) (sc : Scope) (x s : Str) : Bool := decide (x = s) && glB sc x && decide (x ∈ G.free)
def constB : W → Const → Bool
  | .non, .none => true
  | .bl a, .bool b => a == b
  | .int i, .int j => decide (i = j)
  | .str x, .str y => decide (x = y) && decide (x.length ≤ sizeLine) && x.cps.all (· < 0x110000)
  | _, _ => false
def opB : Bop → Operator → Bool
  | .add, .Add => true | .sub, .Sub => true | .mul, .Mult => true | .fdiv, .FloorDiv => true | .mod, .Mod => true | .pow, .Pow => true
  | .shl, .LShift => true | .shr, .RShift => true | .band, .BitAnd => true | .bor, .BitOr => true | .bxor, .BitXor => true
  | _, _ => false
def copB : Cop → CmpOp → Bool
  | .eq, .Eq => true | .ne, .NotEq => true | .lt, .Lt => true | .le, .LtE => true | .gt, .Gt => true | .ge, .GtE => true
  | .isN, .Is => true | .notN, .IsNot => true | .isin, .In => true | .notin, .NotIn => true
  | _, _ => false
def dinB : Bool → CmpOp → Bool
  | false, .In => true
  | true, .NotIn => true
  | _, _ => false
def noSet : Expr → Bool
  | .Set .. => false
  | _ => true
def noStar : Expr → Bool
  | .Starred .. => false
  | _ => true
def noSlice : Expr → Bool
  | .Slice .. => false
  | _ => true
/-- an expression whose test is its value's truth -/
def plainTest : Expr → Bool
  | .UnaryOp .. => false | .BoolOp .. => false | .IfExp .. => false | .Compare .. => false
  | _ => true
def noCall0 : Expr → Bool
  | .Call .. => false
  | _ => true
def u1Name : U1 → Str
  | .len => "len" | .abs => "abs" | .int => "int" | .tuple => "tuple" | .bool => "bool" | .sum => "sum" | .max => "max" | .min => "min"
def u2Name : U2 → Str
  | .max => "max" | .min => "min"
def n1Name : N1 → Str
  | .list => "list" | .sorted => "sorted"
def tyName : Ty → Str
  | .tuple => "tuple" | .list => "list" | .int => "int" | .str => "str" | .bool => "bool"
def ownOf (N : List Str) (own : List Nat) : List (Str × Nat) := own.map fun i => (N.getD i Str.empty, i)
mutual
def chkTg (c : Ctx) : T → Expr → Bool
  | .n i, .Name x _ => decide (c.N[i]? = some x) && locB c x
  | .tup ts, .Tuple es _ _ => chkTgs c ts es
  | _, _ => false
def chkTgs (c : Ctx) : T → List Expr → Bool
  | .nil, [] => true
  | .cons t ts, e :: es => chkTg c t e && noStar e && chkTgs c ts es
  | _, _ => false
end
/-- the block of a comprehension -/
def blkCtx (c : Ctx) (scope : Scope) : Ctx := ⟨c.N, relS scope c.sc, fun x => scope.names.lookup x == some .cell⟩
mutual
/-- the slots that a target stores lie in own -/
def tgIn (own : List Nat) : T → Bool
  | .n i => decide (i ∈ own)
  | .tup ts => tgsIn own ts
  | _ => false
def tgsIn (own : List Nat) : T → Bool
  | .nil => true
  | .cons t ts => tgIn own t && tgsIn own ts
  | _ => false
end
mutual
def chkE (G : Globs) : E → Ctx → Expr → Bool
  | .v i, c, .Name x _ => decide (c.N[i]? = some x) && visB c.sc x && notDbg x
  | .k w, _, .Constant k _ _ => constB w k
  | .gl w n, c, .Name x _ => (match G.consts[n]? with
    | some (y, w') => decide (x = y) && W.beq w w'
    | none => false) && glB c.sc x && notDbg x
  | .bin op a b, c, .BinOp l o r _ => opB op o && chkE G a c l && chkE G b c r
  | .neg a, c, .UnaryOp .USub x _ => chkE G a c x
  | .nt a, c, .UnaryOp .Not x _ => chkE G a c x
  | .cmp op a b, c, .Compare l [o] [r] _ => copB op o && noSet r && chkE G a c l && chkE G b c r
  | .and a b, c, .BoolOp .And (x :: y :: rest) pos => chkE G a c x && (match rest with
    | [] => chkE G b c y
    | _ => chkE G b c (.BoolOp .And (y :: rest) pos))
  | .or a b, c, .BoolOp .Or (x :: y :: rest) pos => chkE G a c x && (match rest with
    | [] => chkE G b c y
    | _ => chkE G b c (.BoolOp .Or (y :: rest) pos))
  | .ite d a b, c, .IfExp t x y _ => chkT G d c t && chkE G a c x && chkE G b c y
  | .tup es, c, .Tuple xs _ _ => chkA G es c xs
  | .mk a, c, e => chkN G a c e
  | .fz a, c, e => chkN G a c e
  | .ix a i, c, .Subscript x s _ => chkE G a c x && chkE G i c s && noSlice s
  | .sl a lo hi, c, .Subscript x (.Slice l h none _) _ => chkE G a c x && chkP G lo c l && chkP G hi c h
  | .call f es, c, .Call (.Name x _) xs [] _ => (match G.fns[f]? with
    | some (y, _) => decide (x = y)
    | none => false) && glB c.sc x && notDbg x && chkA G es c xs
  | .u1 op a, c, .Call (.Name x _) [y] [] _ => bltB G c.sc x (u1Name op) && chkE G a c y && noStar y
  | .u2 op a b, c, .Call (.Name x _) [y, z] [] _ => bltB G c.sc x (u2Name op) && chkE G a c y && noStar y && chkE G b c z && noStar z
  | .isi a t, c, .Call (.Name x _) [y, .Name z _] [] _ => bltB G c.sc x "isinstance" && bltB G c.sc z (tyName t) && chkE G a c y && noStar y
  | .app o a, c, .Call (.Attribute x m ap) [y] [] cp => isName m "append" && (ap.endLine == cp.line) && noCall0 x && chkE G o c x && chkE G a c y && noStar y
  | .ext o a, c, .Call (.Attribute x m ap) [y] [] cp => isName m "extend" && (ap.endLine == cp.line) && noCall0 x && chkE G o c x && chkE G a c y && noStar y
  | .pop o, c, .Call (.Attribute x m ap) [] [] cp => isName m "pop" && (ap.endLine == cp.line) && noCall0 x && chkE G o c x
  | .popAt o i, c, .Call (.Attribute x m ap) [y] [] cp => isName m "pop" && (ap.endLine == cp.line) && noCall0 x && chkE G o c x && chkE G i c y && noStar y
  | .dnew, _, .Dict [] [] _ => true
  | .dix o i, c, .Subscript x s _ => chkE G o c x && chkE G i c s && noSlice s
  | .din neg i o, c, .Compare l [op] [r] _ => dinB neg op && noSet r && chkE G i c l && chkE G o c r
  | .dget o i z, c, .Call (.Attribute x m ap) [y, t] [] cp => isName m "get" && (ap.endLine == cp.line) && noCall0 x && chkE G o c x && chkE G i c y && noStar y && chkE G z c t && noStar t
  | _, _, _ => false
def chkA (G : Globs) : E → Ctx → List Expr → Bool
  | .nil, _, [] => true
  | .cons a es, c, x :: xs => chkE G a c x && noStar x && chkA G es c xs
  | _, _, _ => false
def chkT (G : Globs) : E → Ctx → Expr → Bool
  | .and a b, c, .BoolOp .And (x :: y :: rest) pos => chkT G a c x && (match rest with
    | [] => chkT G b c y
    | _ => chkT G b c (.BoolOp .And (y :: rest) pos))
  | .or a b, c, .BoolOp .Or (x :: y :: rest) pos => chkT G a c x && (match rest with
    | [] => chkT G b c y
    | _ => chkT G b c (.BoolOp .Or (y :: rest) pos))
  | .nt a, c, .UnaryOp .Not x _ => chkT G a c x
  | .cmp op a b, c, .Compare l [o] [r] _ => copB op o && noSet r && chkE G a c l && chkE G b c r
  | .tv a, c, e => plainTest e && chkE G a c e
  | .din neg i o, c, .Compare l [op] [r] _ => dinB neg op && noSet r && chkE G i c l && chkE G o c r
  | _, _, _ => false
def chkTs (G : Globs) : E → Ctx → List Expr → Bool
  | .nil, _, [] => true
  | .cons a _, c, [x] => chkT G a c x
  | _, _, _ => false
def chkP (G : Globs) : E → Ctx → Option Expr → Bool
  | .nopart, _, none => true
  | .cons a _, c, some x => chkE G a c x
  | _, _, _ => false
def chkN (G : Globs) : E → Ctx → Expr → Bool
  | .lst es, c, .List xs _ => chkA G es c xs
  | .lcat a b, c, .BinOp l .Add r _ => chkE G a c l && chkE G b c r
  | .lrep a b, c, .BinOp l .Mult r _ => chkE G a c l && chkE G b c r
  | .lsl a lo hi, c, .Subscript x (.Slice l h none _) _ => chkE G a c x && chkP G lo c l && chkP G hi c h
  | .n1 op a, c, .Call (.Name x _) [y] [] _ => bltB G c.sc x (n1Name op) && chkE G a c y && noStar y
  | .dsort o, c, .Call (.Name x _) [y] [] _ => bltB G c.sc x "sorted" && chkE G o c y && noStar y
  | .sset a, c, .Call (.Name x _) [.Call (.Name r _) [y] [] _] [] _ => bltB G c.sc x "sorted" && bltB G c.sc r "set" && chkE G a c y && noStar y
  | .lrng1 a, c, .Call (.Name x _) [.Call (.Name r _) [y] [] _] [] _ => bltB G c.sc x "list" && bltB G c.sc r "range" && chkE G a c y && noStar y
  | .lrng2 a b, c, .Call (.Name x _) [.Call (.Name r _) [y, z] [] _] [] _ => bltB G c.sc x "list" && bltB G c.sc r "range" && chkE G a c y && noStar y && chkE G b c z && noStar z
  | .lc own t src ifs elt, c, .ListComp e [⟨tg, it, is, 0⟩] scope _ => blkC c.N c.sc scope (ownOf c.N own) && noSet it && chkI G src c tg it && tgIn own t && chkTg (blkCtx c scope) t tg && chkTs G ifs (blkCtx c scope) is && chkE G elt (blkCtx c scope) e
  | _, _, _ => false
def chkI (G : Globs) : E → Ctx → Expr → Expr → Bool
  | .it a, c, _, e => chkE G a c e
  | .enum a, c, .Tuple _ _ _, .Call (.Name r _) [y] [] _ => bltB G c.sc r "enumerate" && chkE G a c y && noStar y
  | .rng1 a, c, _, .Call (.Name r _) [y] [] _ => bltB G c.sc r "range" && chkE G a c y && noStar y
  | .rng2 a b, c, _, .Call (.Name r _) [y, z] [] _ => bltB G c.sc r "range" && chkE G a c y && noStar y && chkE G b c z && noStar z
  | _, _, _, _ => false
end
end Z
namespace Z
open PySem PySem.Spec L2
open PyProof.Rows hiding St
/-! ### readings of the small language -/
abbrev Fr6 := PySem.W.Frag
/-- the state of the small language and of the layer -/
def SR (K : Fr6) (mp : M) (env : Env) (g : CH) (σ : St) (H : Hp) : Prop := EnvR K mp H env σ ∧ Sim K mp g H
def tvE (K : Fr6) (F : FSem) (m : E) : TE := fun σ H Q => ∃ mp env g Q0, SR K mp env g σ H ∧ wpE F m env g Q0 ∧
  ∀ v g', Q0 v g' → ∀ mp' H' u, Ext mp H mp' H' → Sim K mp' g' H' → Rp K mp' H' v u → Q u H'
def tvA (K : Fr6) (F : FSem) (m : E) : TA := fun σ H Q => ∃ mp env g Q0, SR K mp env g σ H ∧ wpA F m env g Q0 ∧
  ∀ v g', Q0 v g' → ∀ mp' H' u, Ext mp H mp' H' → Sim K mp' g' H' → RpL K mp' H' v u → Q u H'
def tvT (K : Fr6) (F : FSem) (m : E) : TT := fun σ H Q => ∃ mp env g Q0, SR K mp env g σ H ∧ wpT F m env g Q0 ∧
  ∀ v g', Q0 v g' → ∀ mp' H', Ext mp H mp' H' → Sim K mp' g' H' → Q v H'
def tvN (K : Fr6) (F : FSem) (m : E) : TE := fun σ H Q => ∃ mp env g Q0, SR K mp env g σ H ∧ wpN F m env g Q0 ∧
  ∀ v g', Q0 v g' → ∀ mp' H' a vs, Ext mp H mp' H' → Sim K (mp'.hide a) g' H' → H a = none → H' a = some (.lst vs) → vs.length ≤ sizeLine → RpL K (mp'.hide a) H' v vs → Q (.ref a) H'
def partO : W → Option Int → Prop
  | .non, o => o = none
  | .int i, o => o = some i
  | _, _ => False
def tvP (K : Fr6) (F : FSem) (m : E) : TO := fun σ H Q => ∃ mp env g Q0, SR K mp env g σ H ∧ wpP F m env g Q0 ∧
  ∀ v g', Q0 v g' → ∀ mp' H' o, Ext mp H mp' H' → Sim K mp' g' H' → partO v o → Q o H'
/-- J gives the items xs, as long as the untracked objects (and the tracked list o) stand -/
structure Gives (K : Fr6) (J : It) (mp : M) (H : Hp) (o : Option Nat) (xs : List W) : Prop where
  small : xs.length ≤ sizeLine
  go : ∀ mp2 g2 H2, Ext0 mp H mp2 H2 → Sim K mp2 g2 H2 → stays g2 o xs → ∀ i, i < xs.length → J.go i H2 ∧
    ∀ x H3, J.yld i H2 x H3 → Ext mp2 H2 mp2 H3 ∧ Sim K mp2 g2 H3 ∧ ∃ w, xs[i]? = some w ∧ Rp K mp2 H3 w x
  stop : ∀ mp2 g2 H2, Ext0 mp H mp2 H2 → Sim K mp2 g2 H2 → stays g2 o xs → J.stop xs.length H2
def tvI (K : Fr6) (F : FSem) (m : E) : TI := fun σ H R => ∃ mp env g Q0, SR K mp env g σ H ∧ wpI F m env g Q0 ∧
  ∀ o xs g', Q0 o xs g' → ∀ mp' H' J, Ext mp H mp' H' → Sim K mp' g' H' → Gives K J mp' H' o xs → R J H'
theorem PE.weak {X : Cx} {e : Expr} {t t' : TE} (h : PE X e t) (w : ∀ σ H Q, t' σ H Q → t σ H Q) : PE X e t' := ⟨fun pins s σ H Q I q => h.run pins s σ H Q I (w σ H Q q)⟩
theorem PT.weak {X : Cx} {e : Expr} {t t' : TT} (h : PT X e t) (w : ∀ σ H Q, t' σ H Q → t σ H Q) : PT X e t' := ⟨fun pins s σ H Q I q => h.run pins s σ H Q I (w σ H Q q)⟩
theorem PW.weak {X : Cx} {e : Expr} {t t' : TT} (h : PW X e t) (w : ∀ σ H Q, t' σ H Q → t σ H Q) : PW X e t' := ⟨fun wh pins s σ H Q I q => h.run wh pins s σ H Q I (w σ H Q q)⟩
theorem PTs.weak {X : Cx} {e : List Expr} {t t' : TT} (h : PTs X e t) (w : ∀ σ H Q, t' σ H Q → t σ H Q) : PTs X e t' := ⟨fun pins s σ H Q I q => h.run pins s σ H Q I (w σ H Q q)⟩
theorem PA.weak {X : Cx} {e : List Expr} {t t' : TA} (h : PA X e t) (w : ∀ σ H Q, t' σ H Q → t σ H Q) : PA X e t' := ⟨fun pos pins s σ H Q I q => h.run pos pins s σ H Q I (w σ H Q q)⟩
theorem PO.weak {X : Cx} {e : Option Expr} {t t' : TO} (h : PO X e t) (w : ∀ σ H Q, t' σ H Q → t σ H Q) : PO X e t' := ⟨fun pins s σ H Q I q => h.run pins s σ H Q I (w σ H Q q)⟩
theorem PI.weak {X : Cx} {tg e : Expr} {t t' : TI} (h : PI X tg e t) (w : ∀ σ H Q, t' σ H Q → t σ H Q) : PI X tg e t' := ⟨fun pins s σ H Q I q => h.run pins s σ H Q I (w σ H Q q)⟩
theorem PS.weak {X : Cx} {e : Stmt} {t t' : TS} (h : PS X e t) (w : ∀ D σ H, t' D σ H → t D σ H) : PS X e t' := ⟨fun pins s σ H D I q => h.run pins s σ H D I (w D σ H q)⟩
theorem PSs.weak {X : Cx} {e : List Stmt} {t t' : TS} (h : PSs X e t) (w : ∀ D σ H, t' D σ H → t D σ H) : PSs X e t' := ⟨fun pins s σ H D I q => h.run pins s σ H D I (w D σ H q)⟩
/-- what a def promises: the small language's meaning -/
def spOf (K : Fr6) (F : FSem) (f np : Nat) : Sp := fun vs H Q _ => vs.length = np ∧ ∃ mp g ws Q0, Sim K mp g H ∧ RpL K mp H ws vs ∧ F f ws g Q0 ∧
  ∀ v g', Q0 v g' → ∀ mp' H' u, Ext mp H mp' H' → Sim K mp' g' H' → Rp K mp' H' v u → Q u H'
/-- what is known of the module -/
structure Facts (P : Program) (w : World) (K : Fr6) (mg : Str → Option Value) (base : Heap) (G : Globs) (F : FSem) (d : Nat) : Prop where
  fns : ∀ (i : Nat) x n, G.fns[i]? = some (x, n) → ∃ f fd ps, mg x = some (.ref f) ∧ PySem.W.keepIn K (.ref f) = true ∧ ps.length = n ∧ Binds K fd ps [] ∧ FnOk P w K mg base CX0 d f fd ps (spOf K F i n)
  consts : ∀ (i : Nat) x c, G.consts[i]? = some (x, c) → ∃ v u, mg x = some u ∧ RelV v u ∧ ∀ mp H, Rp K mp H c v
  free : ∀ x ∈ G.free, mg x = none
  ar : ∀ (i : Nat) x n, G.fns[i]? = some (x, n) → ∀ ws g Q, F i ws g Q → ws.length = n
structure Good (G : Globs) (F : FSem) (d : Nat) (c : Ctx) (X : Cx) : Prop where
  facts : Facts X.prog X.w X.K X.mg X.base G F d
  N : X.N = c.N
  nd : c.N.Nodup
  sc : X.env.scope = c.sc
  calm : X.calm = true
  xe : X.xe = fun _ _ => False
  fn : ∀ x, c.fn x = true → X.fn x = true
  room : Room d X.A
/-! ### small facts -/
section
variable {K : Fr6} {F : FSem} {mp mp' : M} {env : Env} {g g' : CH} {σ : St} {H H' : Hp} {w : W} {u : V} {a : Addr}
theorem SR.ext (h : SR K mp env g σ H) (e : Ext mp H mp' H') (s : Sim K mp' g' H') : SR K mp' env g' σ H' := ⟨h.1.ext e, s⟩
theorem slot_some {i : Nat} (h : slot env i = some w) : env[i]? = some (some w) := by
  unfold slot at h
  rw [nth_eq] at h
  split at h
  · cases h; assumption
  · cases h
theorem slot_of {i : Nat} (h : env[i]? = some (some w)) : slot env i = some w := by
  unfold slot
  rw [nth_eq, h]
theorem EnvR.slot {i : Nat} (h : EnvR K mp H env σ) (e : slot env i = some w) : ∃ u, σ[i]? = some (some u) ∧ Rp K mp H w u := h.2 i w (slot_some e)
/-- a tracked list, read -/
theorem Sim.at_ {n : Nat} (s : Sim K mp g H) (e : nth g n = some w) : ∃ a, mp.ob[n]? = some a ∧ RO K mp H a w := s.obj n w (by rw [← nth_eq]; exact e)
theorem Rp.tupI {xs : List W} (h : Rp K mp H (.tup xs) u) : ∃ a vs, u = .ref a ∧ FT K mp H a vs ∧ RpL K mp H xs vs := by simpa only [Rp] using h
theorem Rp.lstI {xs : List W} (h : Rp K mp H (.lst xs) u) : ∃ a vs, u = .ref a ∧ FL mp H a vs ∧ RpL K mp H xs vs := by simpa only [Rp] using h
theorem Rp.lckI {xs : List W} (h : Rp K mp H (.lck xs) u) : ∃ a vs, u = .ref a ∧ FK K mp H a vs ∧ RpL K mp H xs vs := by simpa only [Rp] using h
theorem Rp.intI {i : Int} (h : Rp K mp H (.int i) u) : u = .int i := by simpa only [Rp] using h
theorem Rp.blI {b : Bool} (h : Rp K mp H (.bl b) u) : u = .bl b := by simpa only [Rp] using h
theorem Rp.nonI (h : Rp K mp H .non u) : u = .non := by simpa only [Rp] using h
theorem Rp.strI {x : Str} (h : Rp K mp H (.str x) u) : u = .str x ∧ StrOk x := by simpa only [Rp] using h
theorem Rp.obI {n : Nat} (h : Rp K mp H (.ob n) u) : ∃ a, u = .ref a ∧ mp.ob[n]? = some a := by simpa only [Rp] using h
theorem Rp.int (i : Int) : Rp K mp H (.int i) (.int i) := by simp only [Rp]
theorem Rp.bl (b : Bool) : Rp K mp H (.bl b) (.bl b) := by simp only [Rp]
theorem Rp.non : Rp K mp H .non .non := by simp only [Rp]
theorem Rp.str {x : Str} (h : StrOk x) : Rp K mp H (.str x) (.str x) := by simp only [Rp]; exact ⟨trivial, h⟩
theorem dr_some {n : Nat} (h : nth g n = some w) : dr g (.ob n) = w := by unfold dr; simp only [h]
theorem dr_none {n : Nat} (h : nth g n = none) : dr g (.ob n) = .ob n := by unfold dr; simp only [h]
/-- a value that reads as a list: frozen, or tracked -/
theorem dr_lst' {xs : List W} (s : Sim K mp g H) (r : Rp K mp H w u) (e : dr g w = .lst xs) : ∃ a vs, u = .ref a ∧ H a = some (.lst vs) ∧ vs.length ≤ sizeLine ∧ RpL K mp H xs vs := by
  cases w with
  | lst ys =>
    cases (show W.lst ys = .lst xs from e)
    obtain ⟨a, vs, h1, h2, h3⟩ := r.lstI
    exact ⟨a, vs, h1, h2.2.1, h2.1, h3⟩
  | ob n =>
    obtain ⟨a, h1, h2⟩ := r.obI
    cases q : nth g n with
    | none => rw [dr_none q] at e; cases e
    | some w' =>
      rw [dr_some q] at e
      subst e
      obtain ⟨b, h3, vs, h4, h5, h6⟩ := s.at_ q
      rw [h2] at h3; cases h3
      exact ⟨a, vs, h1, h4, h5, h6⟩
  | _ => cases e
theorem dr_lst {xs : List W} (s : Sim K mp g H) (r : Rp K mp H w u) (e : dr g w = .lst xs) : ∃ a vs, u = .ref a ∧ SqL K H a vs ∧ vs.length ≤ sizeLine ∧ RpL K mp H xs vs :=
  let ⟨a, vs, h1, h2, h3, h4⟩ := dr_lst' s r e
  ⟨a, vs, h1, .of h2, h3, h4⟩
theorem dr_flat (s : Sim K mp g H) {w' : W} (e : dr g w = w') (h : ∀ xs, w' ≠ .lst xs) (h2 : ∀ ks xs, w' ≠ .dct ks xs) (h3 : ∀ n, w' ≠ .ob n) : w = w' := by
  cases w with
  | ob n =>
    cases q : nth g n with
    | none => rw [dr_none q] at e; exact absurd e.symm (h3 n)
    | some w2 =>
      rw [dr_some q] at e
      subst e
      obtain ⟨b, _, h4⟩ := s.at_ q
      cases w2 with
      | lst xs => exact absurd rfl (h xs)
      | dct ks xs => exact absurd rfl (h2 ks xs)
      | _ => exact False.elim h4
  | _ => exact e
theorem dr_tup {xs : List W} (s : Sim K mp g H) (r : Rp K mp H w u) (e : dr g w = .tup xs) : ∃ a vs, u = .ref a ∧ FT K mp H a vs ∧ RpL K mp H xs vs := by
  rw [dr_flat s e (by intro _ z; cases z) (by intro _ _ z; cases z) (by intro _ z; cases z)] at r
  exact r.tupI
theorem dr_int {i : Int} (s : Sim K mp g H) (r : Rp K mp H w u) (e : dr g w = .int i) : u = .int i := by
  rw [dr_flat s e (by intro _ z; cases z) (by intro _ _ z; cases z) (by intro _ z; cases z)] at r
  exact r.intI
theorem dr_bl {i : Bool} (s : Sim K mp g H) (r : Rp K mp H w u) (e : dr g w = .bl i) : u = .bl i := by
  rw [dr_flat s e (by intro _ z; cases z) (by intro _ _ z; cases z) (by intro _ z; cases z)] at r
  exact r.blI
theorem dr_non (s : Sim K mp g H) (r : Rp K mp H w u) (e : dr g w = .non) : u = .non := by
  rw [dr_flat s e (by intro _ z; cases z) (by intro _ _ z; cases z) (by intro _ z; cases z)] at r
  exact r.nonI
theorem dr_str {x : Str} (s : Sim K mp g H) (r : Rp K mp H w u) (e : dr g w = .str x) : u = .str x ∧ StrOk x := by
  rw [dr_flat s e (by intro _ z; cases z) (by intro _ _ z; cases z) (by intro _ z; cases z)] at r
  exact r.strI
theorem keyOf_rp {k : Key} (r : Rp K mp H w u) (e : keyOf w = some k) : u = kV k := by
  cases w <;> simp only [keyOf] at e <;> first | (cases e; done) | skip
  · cases e; exact r.intI
  · cases e; exact r.strI.1
theorem keyOf_keyW (k : Key) : keyOf (keyW k) = some k := by cases k <;> rfl
theorem keysOf_keyW {β : Type} : ∀ kvs : List (Key × β), keysOf (kvs.map fun p => keyW p.1) = some (kvs.map (·.1))
  | [] => rfl
  | p :: r => by
    simp only [List.map_cons, keysOf, keyOf_keyW, keysOf_keyW r]
    rfl
/-- a dict with keys that are ints and texts -/
theorem dct_at {ks xs : List W} {l : List Key} {A : HO → Prop} (h : (∃ kvs : List (Key × V), A (.dK kvs) ∧ ks = kvs.map (fun p => keyW p.1) ∧ RpL K mp H xs (kvs.map (·.2))) ∨
      (∃ kvs : List (List Key × V), (A (.dT kvs) ∧ kvs ≠ []) ∧ ks = kvs.map (fun p => W.tup (p.1.map keyW)) ∧ RpL K mp H xs (kvs.map (·.2)))) (e : keysOf ks = some l) :
    ∃ kvs : List (Key × V), A (.dK kvs) ∧ l = kvs.map (·.1) ∧ RpL K mp H xs (kvs.map (·.2)) := by
  rcases h with ⟨kvs, h1, rfl, h3⟩ | ⟨kvs, ⟨_, h0⟩, rfl, _⟩
  · rw [keysOf_keyW] at e
    cases e
    exact ⟨kvs, h1, rfl, h3⟩
  · cases kvs with
    | nil => exact absurd rfl h0
    | cons p r => simp [keysOf, keyOf] at e
theorem dctOf_at {d : List Key × List W} (s : Sim K mp g H) (r : Rp K mp H w u) (e : dctOf g w = some d) : ∃ a kvs, u = .ref a ∧ Rd H a (.dK kvs) ∧ d.1 = kvs.map (·.1) ∧ RpL K mp H d.2 (kvs.map (·.2)) := by
  unfold dctOf at e
  split at e
  · rename_i ks xs hd
    rw [Option.map_eq_some_iff] at e
    obtain ⟨l, e, rfl⟩ := e
    cases w with
    | dct ks' xs' =>
      cases (show W.dct ks' xs' = .dct ks xs from hd)
      simp only [Rp] at r
      obtain ⟨a, rfl, _, r⟩ := r
      obtain ⟨kvs, h1, h2, h3⟩ := dct_at (A := fun o => Rd H a o) r e
      exact ⟨a, kvs, rfl, h1, h2, h3⟩
    | ob n =>
      obtain ⟨a, h1, h2⟩ := r.obI
      cases q : nth g n with
      | none => rw [dr_none q] at hd; cases hd
      | some w' =>
        rw [dr_some q] at hd
        subst hd
        obtain ⟨b, h3, r⟩ := s.at_ q
        rw [h2] at h3; cases h3
        obtain ⟨kvs, h4, h5, h6⟩ := dct_at (A := fun o => H a = some o) r e
        exact ⟨a, kvs, h1, .inl h4, h5, h6⟩
    | _ => cases hd
  · cases e
theorem dob_at {p : Nat × List Key × List W} (s : Sim K mp g H) (r : Rp K mp H w u) (e : dobOf g w = some p) : ∃ a kvs, u = .ref a ∧ mp.ob[p.1]? = some a ∧ H a = some (.dK kvs) ∧ p.2.1 = kvs.map (·.1) ∧ RpL K mp H p.2.2 (kvs.map (·.2)) := by
  unfold dobOf at e
  cases w <;> simp only at e <;> try (cases e)
  rename_i n
  split at e
  · rename_i ks xs q
    rw [Option.map_eq_some_iff] at e
    obtain ⟨l, e, rfl⟩ := e
    obtain ⟨a, h1, h2⟩ := r.obI
    obtain ⟨b, h3, r⟩ := s.at_ q
    rw [h2] at h3; cases h3
    obtain ⟨kvs, h4, h5, h6⟩ := dct_at (A := fun o => H a = some o) r e
    exact ⟨a, kvs, h1, h2, h4, h5, h6⟩
  · cases e
theorem dfind_rp {k : Key} : ∀ {kvs : List (Key × V)} {xs : List W}, RpL K mp H xs (kvs.map (·.2)) → (∀ x, dfind (kvs.map (·.1)) xs k = some x → ∃ v, valV kvs k = some v ∧ Rp K mp H x v) ∧ (dfind (kvs.map (·.1)) xs k = none → valV kvs k = none)
  | [], xs, r => ⟨fun x h => by simp [dfind] at h, fun _ => rfl⟩
  | p :: kvs, [], r => by simp [RpL] at r
  | p :: kvs, x :: xs, r => by
    simp only [List.map_cons, RpL] at r
    obtain ⟨u, us, e, r1, r2⟩ := r
    cases e
    obtain ⟨i1, i2⟩ := dfind_rp (k := k) r2
    simp only [List.map_cons, dfind]
    by_cases h : p.1 = k
    · rw [if_pos h, valV_pos h]
      exact ⟨fun y e => by cases e; exact ⟨_, rfl, r1⟩, fun e => by cases e⟩
    · rw [if_neg h, valV_neg h]
      exact ⟨i1, i2⟩
theorem dput_keys {k : Key} {v : V} {kvs : List (Key × V)} : (putK kvs k v).map (·.1) = dputK (kvs.map (·.1)) k := by
  unfold putK dputK
  have e : hasK (kvs.map (·.1)) k = kvs.any fun kv => decide (kv.1 = k) := by
    unfold hasK; rw [List.any_map]; rfl
  rw [e]
  by_cases h : (kvs.any fun kv => decide (kv.1 = k)) = true
  · rw [if_pos h, if_pos h, List.map_map]
    apply List.map_congr_left
    intro p _
    simp only [Function.comp]
    split <;> rfl
  · rw [if_neg h, if_neg h, List.map_append]; rfl
theorem drepl_rp {k : Key} {v : V} (rv : Rp K mp H w v) : ∀ {kvs : List (Key × V)} {xs : List W}, RpL K mp H xs (kvs.map (·.2)) → RpL K mp H (drepl (kvs.map (·.1)) xs k w) ((kvs.map fun kv => if kv.1 = k then (kv.1, v) else kv).map (·.2))
  | [], xs, r => by
    simp only [List.map_nil, RpL] at r ⊢
    have e : xs = [] := by
      cases xs with
      | nil => rfl
      | cons _ _ => simp [RpL] at r
    subst e
    exact .nil
  | p :: kvs, [], r => by simp [RpL] at r
  | p :: kvs, x :: xs, r => by
    simp only [List.map_cons, RpL] at r
    obtain ⟨u, us, e, r1, r2⟩ := r
    cases e
    simp only [List.map_cons, drepl]
    refine .cons ?_ (drepl_rp rv r2)
    split
    · exact rv
    · exact r1
theorem dput_rp {k : Key} {v : V} {kvs : List (Key × V)} {xs : List W} (rv : Rp K mp H w v) (r : RpL K mp H xs (kvs.map (·.2))) : RpL K mp H (dputX (kvs.map (·.1)) xs k w) ((putK kvs k v).map (·.2)) := by
  unfold putK dputX
  have e : hasK (kvs.map (·.1)) k = kvs.any fun kv => decide (kv.1 = k) := by
    unfold hasK; rw [List.any_map]; rfl
  rw [e]
  by_cases h : (kvs.any fun kv => decide (kv.1 = k)) = true
  · rw [if_pos h, if_pos h]
    exact drepl_rp rv r
  · rw [if_neg h, if_neg h, List.map_append]
    exact r.append (.cons rv .nil)
/-- a new tuple -/
theorem new_tup {xs : List W} {vs : List V} {p : Addr} (s : Sim K mp g H) (r : RpL K mp H xs vs) (hz : vs.length ≤ sizeLine) (hp : H p = none) :
    Ext mp H mp (upd H p (.tup vs)) ∧ Sim K mp g (upd H p (.tup vs)) ∧ Rp K mp (upd H p (.tup vs)) (.tup xs) (.ref p) := by
  refine ⟨.new hp, s.new hp, ?_⟩
  simp only [Rp]
  exact ⟨p, vs, rfl, ⟨hz, .inl ⟨.inl upd_same, s.fresh hp⟩⟩, r.ext (.new hp)⟩
/-- a new list, hidden -/
theorem new_lst {xs : List W} {vs : List V} {p : Addr} (s : Sim K mp g H) (r : RpL K mp H xs vs) (hp : H p = none) :
    Ext mp H mp (upd H p (.lst vs)) ∧ Sim K (mp.hide p) g (upd H p (.lst vs)) ∧ RpL K (mp.hide p) (upd H p (.lst vs)) xs vs :=
  ⟨.new hp, s.hide hp, r.ext0 (.hide hp)⟩
theorem Sim.hidden (s : Sim K (mp.hide a) g H) : ¬ mp.has a := fun z => z.elim (s.hid a List.mem_cons_self).2 (List.nodup_cons.mp s.ndh).1
/-- .. becomes tracked -/
theorem Sim.trackW (s : Sim K (mp.hide a) g H) (r : RO K (mp.track a) H a w) : Sim K (mp.track a) (g ++ [w]) H := by
  have hn : a ∉ mp.ob := (s.hid a List.mem_cons_self).2
  have hl0 : mp.ob.length = g.length := s.len
  refine ⟨?_, ?_, fun n w' hw => ?_, fun b hb => ?_, (List.nodup_cons.mp s.ndh).2⟩
  · show (mp.ob ++ [a]).Nodup
    rw [List.nodup_append]
    refine ⟨s.nd, by simp, fun b hb c hc z => ?_⟩
    rw [List.mem_singleton] at hc
    rw [z, hc] at hb
    exact hn hb
  · show (mp.ob ++ [a]).length = _
    rw [List.length_append, List.length_append, hl0]; rfl
  · by_cases hl : n < g.length
    · rw [List.getElem?_append_left hl] at hw
      obtain ⟨b, h1, h2⟩ := s.obj n w' hw
      refine ⟨b, ?_, h2.track⟩
      show (mp.ob ++ [a])[n]? = some b
      rw [List.getElem?_append_left (by rw [hl0]; exact hl)]
      exact h1
    · rw [List.getElem?_append_right (by omega)] at hw
      have hz' : n - g.length = 0 := by
        by_cases q : n - g.length = 0
        · exact q
        · rw [List.getElem?_eq_none (by simp; omega)] at hw; cases hw
      rw [hz'] at hw
      cases hw
      refine ⟨a, ?_, r⟩
      show (mp.ob ++ [a])[n]? = some a
      rw [List.getElem?_append_right (by rw [hl0]; omega), hl0, hz']
      rfl
  · obtain ⟨h1, h2⟩ := s.hid b (List.mem_cons_of_mem _ hb)
    refine ⟨h1, fun z => ?_⟩
    rcases List.mem_append.mp z with z | z
    · exact h2 z
    · rw [List.mem_singleton.mp z] at hb
      exact (List.nodup_cons.mp s.ndh).1 hb
theorem Sim.track {xs : List W} {vs : List V} (s : Sim K (mp.hide a) g H) (h : H a = some (.lst vs)) (hz : vs.length ≤ sizeLine) (r : RpL K (mp.hide a) H xs vs) :
    Sim K (mp.track a) (g ++ [.lst xs]) H := s.trackW ⟨vs, h, hz, r.track⟩
end
end Z
namespace Z
open PySem PySem.Spec L2
open PyProof.Rows hiding St
/-! ### operators -/
/-- a rule of the layer for an operator, and what the small language says -/
def OpS (X : Cx) (f : Value → Value → Sem Value) (fn : CH → W → W → Option W) : Prop := ∃ r : R2, OpR X f r ∧ ∀ (mp : M) (g : CH) (H : Hp) (x y : W) (u v : V) (z : W) (Q : VK),
  Sim X.K mp g H → Rp X.K mp H x u → Rp X.K mp H y v → fn g x y = some z → (∀ mp' H' t, Ext mp H mp' H' → Sim X.K mp' g H' → Rp X.K mp' H' z t → Q t H') → r u v H Q
section
variable {X : Cx} {f : Value → Value → Sem Value}
theorem OpS.or {fn : CH → W → W → Option W} {r1 r2 : R2} (h1 : OpR X f r1) (h2 : OpR X f r2) (h : ∀ (mp : M) (g : CH) (H : Hp) (x y : W) (u v : V) (z : W) (Q : VK),
  Sim X.K mp g H → Rp X.K mp H x u → Rp X.K mp H y v → fn g x y = some z → (∀ mp' H' t, Ext mp H mp' H' → Sim X.K mp' g H' → Rp X.K mp' H' z t → Q t H') → r1 u v H Q ∨ r2 u v H Q) : OpS X f fn := ⟨_, h1.or h2, h⟩
theorem ite_some {α : Type} {c : Prop} [Decidable c] {a b : α} (h : (if c then some a else none) = some b) : c ∧ a = b := by
  by_cases hc : c
  · rw [if_pos hc] at h; exact ⟨hc, Option.some.inj h⟩
  · rw [if_neg hc] at h; cases h
theorem log2_bits (x : Int) : Builtin.Int.intBits x ≤ x.natAbs.log2 + 1 := by
  unfold Builtin.Int.intBits
  split <;> omega
/-- two ints -/
theorem bop_int {op : Bop} {C : Int → Int → Prop} {k : Int → Int → Int} (hr : OpR X f (rI C fun i j => .int (k i j)))
    (h : ∀ x y z, bop op x y = some z → ∃ i j, x = .int i ∧ y = .int j ∧ C i j ∧ z = .int (k i j)) : OpS X f (fun _ => bop op) := by
  refine ⟨_, hr, fun mp g H x y u v z Q s rx ry e q => ?_⟩
  obtain ⟨i, j, rfl, rfl, hc, rfl⟩ := h x y z e
  exact ⟨i, j, rx.intI, ry.intI, hc, q mp H _ .refl s (.int _)⟩
theorem bop_int0 {op : Bop} {k : Int → Int → Int} (hr : OpR X f (rI0 fun i j => .int (k i j)))
    (h : ∀ x y z, bop op x y = some z → ∃ i j, x = .int i ∧ y = .int j ∧ z = .int (k i j)) : OpS X f (fun _ => bop op) := by
  refine ⟨_, hr, fun mp g H x y u v z Q s rx ry e q => ?_⟩
  obtain ⟨i, j, rfl, rfl, rfl⟩ := h x y z e
  exact ⟨i, j, rx.intI, ry.intI, q mp H _ .refl s (.int _)⟩
theorem str_append_length (x y : Str) : (x ++ y).length = x.length + y.length := by
  show (x.cps ++ y.cps).size = _
  rw [Array.size_append]; rfl
theorem StrOk.append {x y : Str} (hx : StrOk x) (hy : StrOk y) (h : (x ++ y).length ≤ sizeLine) : StrOk (x ++ y) := by
  refine ⟨h, ?_⟩
  show (x.cps ++ y.cps).all _ = true
  rw [Array.all_append, hx.2, hy.2]; rfl
theorem add_sound : OpS X (binaryOp .Add) (fun _ => bop .add) := by
  refine ⟨_, (op_add.or op_add_str).or op_catA, fun mp g H x y u v z Q s rx ry e q => ?_⟩
  cases x <;> cases y <;> simp only [bop] at e <;> (try cases e)
  · exact .inl (.inl ⟨_, _, rx.intI, ry.intI, q mp H _ .refl s (.int _)⟩)
  · obtain ⟨hz, e⟩ := ite_some e
    subst e
    obtain ⟨rx, okx⟩ := rx.strI
    obtain ⟨ry, oky⟩ := ry.strI
    exact .inl (.inr ⟨_, _, rx, ry, by rw [← str_append_length]; exact hz, q mp H _ .refl s (.str (okx.append oky hz))⟩)
  · obtain ⟨hz, e⟩ := ite_some e
    subst e
    rename_i xs ys
    have rx' := rx
    have ry' := ry
    obtain ⟨a, vs, rfl, fa, ra⟩ := rx.tupI
    obtain ⟨b, us, rfl, fb, rb⟩ := ry.tupI
    have la := ra.length
    have lb := rb.length
    rw [List.length_append] at hz
    refine .inr ⟨a, b, vs, us, rfl, rfl, fa.sq, fb.sq, by omega, fun h0 => ?_, fun _ h0 => ?_, fun _ _ p hp => ?_⟩
    · subst h0
      obtain rfl : xs = [] := List.eq_nil_of_length_eq_zero (by rw [la]; rfl)
      exact q mp H _ .refl s ry'
    · subst h0
      obtain rfl : ys = [] := List.eq_nil_of_length_eq_zero (by rw [lb]; rfl)
      rw [List.append_nil] at q
      exact q mp H _ .refl s rx'
    · obtain ⟨e1, s1, r1⟩ := new_tup s (ra.append rb) (by rw [List.length_append]; omega) hp
      exact q mp _ _ e1 s1 r1
theorem RpL.repA {K : Fr6} {mp : M} {H : Hp} {xs : List W} {us : List V} (h : RpL K mp H xs us) : ∀ k : Nat, RpL K mp H (List.replicate k xs).flatten (List.replicate k us).flatten
  | 0 => .nil
  | k + 1 => by
    rw [List.replicate_succ, List.replicate_succ, List.flatten_cons, List.flatten_cons]
    exact h.append (RpL.repA h k)
theorem mul_sound : OpS X (binaryOp .Mult) (fun _ => bop .mul) := by
  refine ⟨_, op_mulX.or op_repA, fun mp g H x y u v z Q s rx ry e q => ?_⟩
  cases x <;> cases y <;> simp only [bop] at e <;> (try cases e)
  · rename_i i j
    obtain ⟨hc, e⟩ := ite_some e
    subst e
    refine .inl ⟨_, _, rx.intI, ry.intI, ?_, q mp H _ .refl s (.int _)⟩
    have h1 := log2_bits i
    have h2 := log2_bits j
    unfold mulOk at hc
    unfold CMulX
    omega
  · rename_i xs j
    obtain ⟨⟨h1, h2, h3, h4⟩, e⟩ := ite_some e
    subst e
    have rx' := rx
    obtain ⟨a, vs, rfl, fa, ra⟩ := rx.tupI
    have la := ra.length
    refine .inr ⟨a, j, vs, rfl, ry.intI, fa.sq, fun h0 => ?_, h2, h3, by omega, fun e1 => ?_, fun _ p hp => ?_⟩
    · subst h0
      obtain rfl : xs = [] := List.eq_nil_of_length_eq_zero (by rw [la]; rfl)
      cases h1
    · subst e1
      have e2 : (List.replicate (1 : Int).toNat xs).flatten = xs := by
        show (List.replicate 1 xs).flatten = xs
        simp
      rw [e2] at q
      exact q mp H _ .refl s rx'
    · obtain ⟨e1, s1, r1⟩ := new_tup s (ra.repA j.toNat) (by
        rw [PyProof.Rows.lm_len_rep_flat, sizeLine_eq]
        have a1 : j.toNat * vs.length ≤ 1000 * 1000 := Nat.mul_le_mul (by omega) (by omega)
        omega) hp
      exact q mp _ _ e1 s1 r1
theorem bop_sound {op : Bop} {o : Operator} (h : opB op o = true) : OpS X (binaryOp o) (fun _ => bop op) := by
  cases op <;> cases o <;> (try cases h)
  · exact add_sound
  · exact bop_int0 op_sub fun x y z e => by
      cases x <;> cases y <;> simp only [bop] at e <;> cases e
      exact ⟨_, _, rfl, rfl, rfl⟩
  · exact mul_sound
  · exact bop_int (C := CDivW) op_fdivW fun x y z e => by
      cases x <;> cases y <;> simp only [bop] at e <;> (try cases e)
      obtain ⟨hc, e⟩ := ite_some e
      exact ⟨_, _, rfl, rfl, hc, e.symm⟩
  · exact bop_int op_mod fun x y z e => by
      cases x <;> cases y <;> simp only [bop] at e <;> (try cases e)
      obtain ⟨hc, e⟩ := ite_some e
      exact ⟨_, _, rfl, rfl, hc, e.symm⟩
  · exact bop_int (C := CPow) op_pow fun x y z e => by
      cases x <;> cases y <;> simp only [bop] at e <;> (try cases e)
      obtain ⟨hc, e⟩ := ite_some e
      exact ⟨_, _, rfl, rfl, hc, e.symm⟩
  · exact bop_int (C := CShl) op_shlW fun x y z e => by
      cases x <;> cases y <;> simp only [bop] at e <;> (try cases e)
      rename_i i j
      obtain ⟨hc, e⟩ := ite_some e
      have h1 := log2_bits i
      exact ⟨_, _, rfl, rfl, ⟨hc.1, by have := hc.2; omega⟩, e.symm⟩
  · exact bop_int op_shr fun x y z e => by
      cases x <;> cases y <;> simp only [bop] at e <;> (try cases e)
      obtain ⟨hc, e⟩ := ite_some e
      exact ⟨_, _, rfl, rfl, hc, e.symm⟩
  · exact bop_int0 op_and fun x y z e => by
      cases x <;> cases y <;> simp only [bop] at e <;> cases e
      exact ⟨_, _, rfl, rfl, rfl⟩
  · exact bop_int0 op_or fun x y z e => by
      cases x <;> cases y <;> simp only [bop] at e <;> cases e
      exact ⟨_, _, rfl, rfl, rfl⟩
  · exact bop_int0 op_xor fun x y z e => by
      cases x <;> cases y <;> simp only [bop] at e <;> cases e
      exact ⟨_, _, rfl, rfl, rfl⟩
/-! ### comparisons -/
section
variable {K : Fr6} {mp : M} {H : Hp} {g : CH}
mutual
theorem dat_rp : ∀ {w : W} {u : V} {d : PyData}, Rp K mp H w u → dat w = some d → Dp K H u d ∧ d.canLay0 = true
  | .non, _, _, r, e => by cases r.nonI; simp only [dat, Option.some.injEq] at e; subst e; exact ⟨.non, by simp only [PyData.canLay0]⟩
  | .bl _, _, _, r, e => by cases r.blI; simp only [dat, Option.some.injEq] at e; subst e; exact ⟨.bl _, by simp only [PyData.canLay0]⟩
  | .int _, _, _, r, e => by cases r.intI; simp only [dat, Option.some.injEq] at e; subst e; exact ⟨.int _, by simp only [PyData.canLay0]⟩
  | .str x, _, _, r, e => by
    obtain ⟨rfl, ok⟩ := r.strI
    simp only [dat, Option.some.injEq] at e; subst e
    exact ⟨.str _, by simp only [PyData.canLay0]; exact ok.2⟩
  | .tup xs, _, _, r, e => by
    obtain ⟨a, vs, rfl, f, r⟩ := r.tupI
    simp only [dat, Option.map_eq_some_iff] at e
    obtain ⟨ds, e1, rfl⟩ := e
    obtain ⟨h1, h2⟩ := dats_rp r e1
    exact ⟨.tup f.sq h1, by simp only [PyData.canLay0]; exact h2⟩
  | .lst xs, _, _, r, e => by
    obtain ⟨a, vs, rfl, f, r⟩ := r.lstI
    simp only [dat, Option.map_eq_some_iff] at e
    obtain ⟨ds, e1, rfl⟩ := e
    obtain ⟨h1, h2⟩ := dats_rp r e1
    exact ⟨.lst f.sq h1, by simp only [PyData.canLay0]; exact h2⟩
  | .dct _ _, _, _, _, e => by simp [dat] at e
  | .lck _, _, _, _, e => by simp [dat] at e
  | .ob _, _, _, _, e => by simp [dat] at e
theorem dats_rp : ∀ {xs : List W} {us : List V} {ds : List PyData}, RpL K mp H xs us → dats xs = some ds → DpAll K H us ds ∧ PyData.canLayAll0 ds = true
  | [], _, _, r, e => by
    simp only [RpL] at r; subst r
    simp only [dats, Option.some.injEq] at e; subst e
    exact ⟨.nil, by simp only [PyData.canLayAll0]⟩
  | x :: xs, _, _, r, e => by
    simp only [RpL] at r
    obtain ⟨u, us, rfl, r1, r2⟩ := r
    simp only [dats] at e
    split at e
    · rename_i d ds e1 e2
      cases e
      obtain ⟨h1, h2⟩ := dat_rp r1 e1
      obtain ⟨h3, h4⟩ := dats_rp r2 e2
      exact ⟨.cons h1 h3, by simp only [PyData.canLayAll0, h2, h4, Bool.and_self]⟩
    · cases e
end
theorem dr_dat {w : W} {u : V} {d : PyData} (s : Sim K mp g H) (r : Rp K mp H w u) (e : dat (dr g w) = some d) : Dp K H u d ∧ d.canLay0 = true := by
  cases w with
  | ob n =>
    cases q : nth g n with
    | none => rw [dr_none q] at e; simp [dat] at e
    | some w2 =>
      rw [dr_some q] at e
      cases w2 with
      | lst xs =>
        simp only [dat, Option.map_eq_some_iff] at e
        obtain ⟨ds, e1, rfl⟩ := e
        obtain ⟨a, vs, rfl, h1, _, h2⟩ := dr_lst s r (dr_some q)
        obtain ⟨h3, h4⟩ := dats_rp h2 e1
        exact ⟨.lst h1 h3, by simp only [PyData.canLay0]; exact h4⟩
      | _ => 
        obtain ⟨b, _, h4⟩ := s.at_ q
        first | exact False.elim h4 | (simp [dat] at e)
  | _ => exact dat_rp r e
theorem shaped_of {d : PyData} (h : d.canLay0 = true) (h2 : d.depth ≤ 64) : SeqAt.shaped d = true := by
  unfold SeqAt.shaped
  rw [h, decide_eq_true h2]; rfl
end
def liftB (fn : CH → W → W → Option Bool) : CH → W → W → Option W := fun g x y => (fn g x y).map .bl
theorem eqD_sound (hu : X.A.units + 64 < cLine) : OpS X (compareOp .Eq) (liftB eqD) := by
  refine ⟨_, op_eqD hu, fun mp g H x y u v z Q s rx ry e q => ?_⟩
  simp only [liftB, Option.map_eq_some_iff] at e
  obtain ⟨b, e, rfl⟩ := e
  unfold eqD at e
  split at e
  · rename_i d e' h1 h2
    obtain ⟨⟨hd, he⟩, rfl⟩ := ite_some e
    obtain ⟨a1, a2⟩ := dr_dat s rx h1
    obtain ⟨b1, b2⟩ := dr_dat s ry h2
    exact ⟨d, e', a1, b1, shaped_of a2 hd, shaped_of b2 he, q mp H _ .refl s (.bl _)⟩
  · cases e
theorem neD_sound (hu : X.A.units + 64 < cLine) : OpS X (compareOp .NotEq) (liftB fun g x y => (eqD g x y).map not) := by
  refine ⟨_, op_neD hu, fun mp g H x y u v z Q s rx ry e q => ?_⟩
  simp only [liftB, Option.map_eq_some_iff] at e
  obtain ⟨b, ⟨b', e, rfl⟩, rfl⟩ := e
  unfold eqD at e
  split at e
  · rename_i d e' h1 h2
    obtain ⟨⟨hd, he⟩, rfl⟩ := ite_some e
    obtain ⟨a1, a2⟩ := dr_dat s rx h1
    obtain ⟨b1, b2⟩ := dr_dat s ry h2
    exact ⟨d, e', a1, b1, shaped_of a2 hd, shaped_of b2 he, q mp H _ .refl s (.bl _)⟩
  · cases e
/-- in, over a list or a tuple of data -/
def rInS (K : Fr6) (neg : Bool) : R2 := fun x y H Q => ∃ d ds, Dp K H x d ∧ (Dp K H y (.list ds) ∨ Dp K H y (.tuple ds)) ∧ SeqAt.shaped d = true ∧ PyData.canLayAll0 ds = true ∧ Q (.bl (if neg then !(ds.any fun z => PyData.eqv z d) else ds.any fun z => PyData.eqv z d)) H
theorem op_inS (hu : X.A.units + 65 < cLine) : OpR X (compareOp .In) (rInS X.K false) := by
  intro pins s σ H x y v u Q I rx ry h
  obtain ⟨d, ds, hd, he, sd, se, q⟩ := h
  obtain ⟨as, r1⟩ := Dp.reads I d x v hd rx
  rcases he with he | he
  · obtain ⟨bs, r2⟩ := Dp.reads I (.list ds) y u he ry
    exact SeqAt.in_list_reads r2 r1 se (SeqAt.canLay_of_shaped sd) (room_in_shaped sd hu) ⟨.bl _, H, I, rfl, q⟩
  · obtain ⟨bs, r2⟩ := Dp.reads I (.tuple ds) y u he ry
    exact SeqAt.in_tuple_reads r2 r1 se (SeqAt.canLay_of_shaped sd) (room_in_shaped sd hu) ⟨.bl _, H, I, rfl, q⟩
theorem op_notInS (hu : X.A.units + 65 < cLine) : OpR X (compareOp .NotIn) (rInS X.K true) := by
  intro pins s σ H x y v u Q I rx ry h
  obtain ⟨d, ds, hd, he, sd, se, q⟩ := h
  obtain ⟨as, r1⟩ := Dp.reads I d x v hd rx
  rcases he with he | he
  · obtain ⟨bs, r2⟩ := Dp.reads I (.list ds) y u he ry
    exact SeqAt.notIn_list_reads r2 r1 se (SeqAt.canLay_of_shaped sd) (room_in_shaped sd hu) ⟨.bl _, H, I, rfl, q⟩
  · obtain ⟨bs, r2⟩ := Dp.reads I (.tuple ds) y u he ry
    exact SeqAt.notIn_tuple_reads r2 r1 se (SeqAt.canLay_of_shaped sd) (room_in_shaped sd hu) ⟨.bl _, H, I, rfl, q⟩
theorem inD_rule {K : Fr6} {neg : Bool} {mp : M} {g : CH} {H : Hp} {x y : W} {u v : V} {b : Bool} {Q : VK} (s : Sim K mp g H) (rx : Rp K mp H x u) (ry : Rp K mp H y v) (e : inD g x y = some b)
    (q : Q (.bl (if neg then !b else b)) H) : rInS K neg u v H Q := by
  unfold inD at e
  split at e
  · rename_i d ys h1 h2
    rw [Option.bind_eq_some_iff] at e
    obtain ⟨es, h3, e⟩ := e
    obtain ⟨⟨hd, he⟩, rfl⟩ := ite_some e
    obtain ⟨a1, a2⟩ := dr_dat s rx h1
    obtain ⟨b, vs, rfl, hb, rb⟩ := dr_tup s ry h2
    obtain ⟨b1, b2⟩ := dats_rp rb h3
    exact ⟨d, es, a1, .inr (.tup hb.sq b1), shaped_of a2 hd, b2, q⟩
  · rename_i d ys h1 h2
    rw [Option.bind_eq_some_iff] at e
    obtain ⟨es, h3, e⟩ := e
    obtain ⟨⟨hd, he⟩, rfl⟩ := ite_some e
    obtain ⟨a1, a2⟩ := dr_dat s rx h1
    obtain ⟨b, vs, rfl, hb, _, rb⟩ := dr_lst s ry h2
    obtain ⟨b1, b2⟩ := dats_rp rb h3
    exact ⟨d, es, a1, .inl (.lst hb b1), shaped_of a2 hd, b2, q⟩
  · cases e
theorem cop_int {op : Cop} {p : Int → Int → Bool} (hr : OpR X f (rI0 fun i j => .bl (p i j)))
    (h : ∀ g x y z, cop g op x y = some z → ∃ i j, x = .int i ∧ y = .int j ∧ z = p i j) : OpS X f (liftB fun g => cop g op) := by
  refine ⟨_, hr, fun mp g H x y u v z Q s rx ry e q => ?_⟩
  simp only [liftB, Option.map_eq_some_iff] at e
  obtain ⟨b, e, rfl⟩ := e
  obtain ⟨i, j, rfl, rfl, rfl⟩ := h g x y b e
  exact ⟨i, j, rx.intI, ry.intI, q mp H _ .refl s (.bl _)⟩
theorem isN_rel {K : Fr6} {mp : M} {H : Hp} {x : W} {u : V} (r : Rp K mp H x u) : decide (u = .non) = isNon x := by
  cases x with
  | non => cases r.nonI; rfl
  | bl b => cases r.blI; rfl
  | int i => cases r.intI; rfl
  | str y => cases r.strI.1; rfl
  | tup xs => obtain ⟨a, vs, rfl, _⟩ := r.tupI; rfl
  | lst xs => obtain ⟨a, vs, rfl, _⟩ := r.lstI; rfl
  | dct ks xs => simp only [Rp] at r; obtain ⟨a, rfl, _⟩ := r; rfl
  | lck xs => obtain ⟨a, vs, rfl, _⟩ := r.lckI; rfl
  | ob n => obtain ⟨a, rfl, _⟩ := r.obI; rfl
theorem cop_sound {op : Cop} {o : CmpOp} (hu : X.A.units + 65 < cLine) (h : copB op o = true) : OpS X (compareOp o) (liftB fun g => cop g op) := by
  cases op <;> cases o <;> (try cases h)
  · exact eqD_sound (by omega)
  · exact neD_sound (by omega)
  · exact cop_int op_lt fun g x y z e => by
      cases x <;> cases y <;> simp only [cop] at e <;> cases e
      exact ⟨_, _, rfl, rfl, rfl⟩
  · exact cop_int op_le fun g x y z e => by
      cases x <;> cases y <;> simp only [cop] at e <;> cases e
      exact ⟨_, _, rfl, rfl, rfl⟩
  · exact cop_int op_gt fun g x y z e => by
      cases x <;> cases y <;> simp only [cop] at e <;> cases e
      exact ⟨_, _, rfl, rfl, rfl⟩
  · exact cop_int op_ge fun g x y z e => by
      cases x <;> cases y <;> simp only [cop] at e <;> cases e
      exact ⟨_, _, rfl, rfl, rfl⟩
  · refine ⟨_, op_isN, fun mp g H x y u v z Q s rx ry e q => ?_⟩
    simp only [liftB, Option.map_eq_some_iff] at e
    obtain ⟨b, e, rfl⟩ := e
    have e2 : y = .non ∧ b = isNon x := by
      cases y <;> first
        | (cases x <;> cases e <;> exact ⟨rfl, rfl⟩)
        | (cases x <;> cases e)
    obtain ⟨rfl, rfl⟩ := e2
    refine ⟨ry.nonI, ?_⟩
    rw [isN_rel rx]
    exact q mp H _ .refl s (.bl _)
  · refine ⟨_, op_notN, fun mp g H x y u v z Q s rx ry e q => ?_⟩
    simp only [liftB, Option.map_eq_some_iff] at e
    obtain ⟨b, e, rfl⟩ := e
    have e2 : y = .non ∧ b = !isNon x := by
      cases y <;> first
        | (cases x <;> cases e <;> exact ⟨rfl, rfl⟩)
        | (cases x <;> cases e)
    obtain ⟨rfl, rfl⟩ := e2
    refine ⟨ry.nonI, ?_⟩
    rw [isN_rel rx]
    exact q mp H _ .refl s (.bl _)
  · refine ⟨_, op_inS hu, fun mp g H x y u v z Q s rx ry e q => ?_⟩
    simp only [liftB, Option.map_eq_some_iff] at e
    obtain ⟨b, e, rfl⟩ := e
    have e' : inD g x y = some b := by cases x <;> cases y <;> exact e
    exact inD_rule s rx ry e' (q mp H _ .refl s (.bl _))
  · refine ⟨_, op_notInS hu, fun mp g H x y u v z Q s rx ry e q => ?_⟩
    simp only [liftB, Option.map_eq_some_iff] at e
    obtain ⟨b, e, rfl⟩ := e
    have e' : (inD g x y).map not = some b := by cases x <;> cases y <;> exact e
    rw [Option.map_eq_some_iff] at e'
    obtain ⟨b', e', rfl⟩ := e'
    exact inD_rule (neg := true) s rx ry e' (q mp H _ .refl s (.bl _))
def rDIn (neg : Bool) : R2 := fun y x H Q => ∃ a o, x = .ref a ∧ DGet H a y o ∧ Q (.bl (if neg = true then !o.isSome else o.isSome)) H
theorem op_din {neg : Bool} {o : CmpOp} (hu : X.A.units + 1 < cLine) (h : dinB neg o = true) : OpR X (compareOp o) (rDIn neg) := by
  intro pins s σ H y x v u Q I ry rx h2
  obtain ⟨a, ov, rfl, g, q⟩ := h2
  cases (show u = Value.ref a from rx)
  cases neg <;> cases o <;> first | (cases h; done) | skip
  · exact d_in hu I g ry fun s' I' => ⟨.bl ov.isSome, H, I', rfl, q⟩
  · exact d_notIn hu I g ry fun s' I' => ⟨.bl (!ov.isSome), H, I', rfl, q⟩
theorem dinW_sound {K : Fr6} {mp : M} {H : Hp} {g : CH} {x y : W} {u v : V} {b : Bool} {neg : Bool} {Q : VK} (s : Sim K mp g H) (ry : Rp K mp H y v) (rx : Rp K mp H x u) (e : dinW g y x = some b) (q : Q (.bl (if neg = true then !b else b)) H) : rDIn neg v u H Q := by
  unfold dinW at e
  rw [Option.bind_eq_some_iff] at e
  obtain ⟨d, h1, e⟩ := e
  rw [Option.map_eq_some_iff] at e
  obtain ⟨k, h2, rfl⟩ := e
  obtain ⟨a, kvs, rfl, hr, hk, rl⟩ := dctOf_at s rx h1
  obtain ⟨f1, f2⟩ := dfind_rp (k := k) rl
  rw [hk] at q
  refine ⟨a, valV kvs k, rfl, .inl ⟨kvs, k, hr, keyOf_rp ry h2, rfl⟩, ?_⟩
  cases hf : dfind (kvs.map (·.1)) d.2 k with
  | none => rw [f2 hf]; rw [hf] at q; exact q
  | some z =>
    obtain ⟨v', hv, _⟩ := f1 z hf
    rw [hv]; rw [hf] at q; exact q
end
end Z
namespace Z
open PySem PySem.Spec L2
open PyProof.Rows hiding St
/-! ### the syntax's own facts -/
theorem star_cons {e : Expr} {es : List Expr} {env : PySem.Env} (h : noStar e = true) : starEach (e :: es) env = (false, eval e env) :: starEach es env := by
  cases e <;> first | rfl | cases h
theorem plain_star : ∀ {es : List Expr} {env : PySem.Env} {pos : Pos}, es.all noStar = true → (backTo pos (starEach es env)).any (·.1) = false
  | [], _, _, _ => rfl
  | e :: es, env, pos, h => by
    rw [List.all_cons, Bool.and_eq_true] at h
    rw [star_cons h.1]
    show (false || (backTo pos (starEach es env)).any (·.1)) = false
    rw [plain_star h.2]; rfl
theorem all_star : ∀ {es : List Expr} {env : PySem.Env} {pos : Pos}, es.all noStar = true → (backTo pos (starEach es env)).all (fun x => !x.1) = true
  | [], _, _, _ => rfl
  | e :: es, env, pos, h => by
    rw [List.all_cons, Bool.and_eq_true] at h
    rw [star_cons h.1]
    show ((!false) && (backTo pos (starEach es env)).all (fun x => !x.1)) = true
    rw [all_star h.2]; rfl
theorem plainIx_of {b : Expr} (h : noSlice b = true) : PlainIx b := by
  intro o i
  cases b <;> first | rfl | cases h
theorem noMark {op : CmpOp} {e : Expr} (h : noSet e = true) : behindInMarks op e = false := by
  cases e <;> first | rfl | cases h
theorem noFold {e : Expr} {env : PySem.Env} (h : noSet e = true) : ∀ x, foldedSetIterable e env x = pure x := by
  intro x
  cases e <;> first | rfl | cases h
theorem attr_plain {e : Expr} {m : Str} {env : PySem.Env} (h : noCall0 e = true) : attributeBase e m env (eval e env) = eval e env := by
  cases e <;> first | rfl | cases h
theorem test_plain {e : Expr} {env : PySem.Env} (h : plainTest e = true) : ∀ whole, isTrue e env whole = (do let v ← whole; standAt e.pos; holding [v] (truthy v)) := by
  intro whole
  cases e <;> first | rfl | cases h
theorem vis_of {sc : Scope} {x : Str} (h : visB sc x = true) : Vis sc x := by
  unfold visB at h
  split at h <;> first | exact .inl (by assumption) | exact .inr (.inl (by assumption)) | exact .inr (.inr (by assumption)) | cases h
theorem gl_of {sc : Scope} {x : Str} (h : glB sc x = true) : sc.names.lookup x = some .globalImplicit := by
  unfold glB at h
  split at h
  · assumption
  · cases h
theorem loc_of {c : Ctx} {x : Str} (h : locB c x = true) : (c.sc.names.lookup x = some .local) ∨ (c.sc.names.lookup x = some .cell ∧ c.fn x = true) := by
  unfold locB at h
  split at h
  · exact .inl (by assumption)
  · exact .inr ⟨by assumption, h⟩
  · cases h
theorem dbg_of {x : Str} (h : notDbg x = true) : (x == ("__debug__" : Str)) = false ∧ (x == ("__classdict__" : Str)) = false := by
  unfold notDbg at h
  rw [Bool.and_eq_true, Bool.not_eq_true', Bool.not_eq_true'] at h
  exact h
section
variable {X : Cx} {G : Globs} {F : FSem} {d : Nat} {c : Ctx}
theorem Good.gl (g : Good G F d c X) {x : Str} (h : glB c.sc x = true) : Gl X x := by
  unfold Gl Env.kindOf
  rw [g.sc]
  exact gl_of h
theorem Good.vis (g : Good G F d c X) {x : Str} (h : visB c.sc x = true) : Vis X.env.scope x := by rw [g.sc]; exact vis_of h
theorem Good.ndX (g : Good G F d c X) : X.N.Nodup := by rw [g.N]; exact g.nd
theorem Good.xN (g : Good G F d c X) {i : Nat} {x : Str} (h : c.N[i]? = some x) : X.N[i]? = some x := by rw [g.N]; exact h
theorem Good.locX (g : Good G F d c X) {x : Str} (h : locB c x = true) : Loc X.env.scope x := by
  rw [g.sc]
  rcases loc_of h with h | h
  · exact .inl h
  · exact .inr h.1
theorem Good.locF (g : Good G F d c X) {x : Str} (h : locB c x = true) : X.fn x = true ∨ X.env.scope.names.lookup x = some .local := by
  rcases loc_of h with h | h
  · right; rw [g.sc]; exact h
  · left; exact g.fn _ h.2
theorem blt_of {x s : Str} (h : bltB G c.sc x s = true) : x = s ∧ glB c.sc x = true ∧ x ∈ G.free := by
  unfold bltB at h
  rw [Bool.and_eq_true, Bool.and_eq_true] at h
  exact ⟨of_decide_eq_true h.1.1, h.1.2, of_decide_eq_true h.2⟩
/-! ### values -/
theorem s_v (g : Good G F d c X) {i : Nat} {x : Str} {pos : Pos} (h : chkE G (.v i) c (.Name x pos) = true) : PE X (.Name x pos) (tvE X.K F (.v i)) := by
  simp only [chkE, Bool.and_eq_true, decide_eq_true_eq] at h
  obtain ⟨⟨h1, h2⟩, h3⟩ := h
  refine PE.weak (pe_var (g.xN h1) (g.vis h2) (dbg_of h3).1 (dbg_of h3).2) fun σ H Q ⟨mp, env, g, Q0, sr, hw, k⟩ => ?_
  simp only [wpE, opt] at hw
  obtain ⟨w, hw, q⟩ := hw
  obtain ⟨u, hu, r⟩ := sr.1.slot hw
  exact ⟨u, hu, k w g q mp H u .refl sr.2 r⟩
theorem s_k {w : W} {k : Const} {j : Nat} {pos : Pos} (h : chkE G (.k w) c (.Constant k j pos) = true) : PE X (.Constant k j pos) (tvE X.K F (.k w)) := by
  simp only [chkE] at h
  have go : ∀ {v : V}, (∀ mp H, Rp X.K mp H w v) → ∀ σ H Q, tvE X.K F (.k w) σ H Q → tC v σ H Q := fun {v} hr σ H Q ⟨mp, env, g, Q0, sr, hw, k⟩ => by
    simp only [wpE] at hw
    exact k w g hw mp H v .refl sr.2 (hr mp H)
  cases w <;> cases k <;> (try cases h)
  · exact PE.weak pe_non (go fun _ _ => .non)
  · simp only [constB, beq_iff_eq] at h
    subst h
    exact PE.weak pe_bl (go fun _ _ => .bl _)
  · simp only [constB, decide_eq_true_eq] at h
    subst h
    exact PE.weak pe_int (go fun _ _ => .int _)
  · simp only [constB, Bool.and_eq_true, decide_eq_true_eq] at h
    obtain ⟨⟨h1, h2⟩, h3⟩ := h
    subst h1
    exact PE.weak pe_str (go fun _ _ => .str ⟨h2, h3⟩)
theorem s_gl (g : Good G F d c X) {w : W} {n : Nat} {x : Str} {pos : Pos} (h : chkE G (.gl w n) c (.Name x pos) = true) : PE X (.Name x pos) (tvE X.K F (.gl w n)) := by
  simp only [chkE, Bool.and_eq_true] at h
  obtain ⟨⟨h1, h2⟩, h3⟩ := h
  split at h1
  · rename_i y w' e
    rw [Bool.and_eq_true] at h1
    obtain rfl := of_decide_eq_true h1.1
    obtain rfl := W.beq_ok h1.2
    obtain ⟨v, u, hm, r, hr⟩ := g.facts.consts _ _ _ e
    refine PE.weak (pe_glob (g.gl h2) hm r (dbg_of h3).1) fun σ H Q ⟨mp, env, g, Q0, sr, hw, k⟩ => ?_
    simp only [wpE] at hw
    exact k w g hw mp H v .refl sr.2 (hr mp H)
  · cases h1
theorem s_op {a b : E} {e : Expr} {f : Value → Value → Sem Value} {fn : CH → W → W → Option W} {m : E} (R : CH → W → W → WK → Prop) (hf : OpS X f fn)
    (rule : ∀ {r : R2}, OpR X f r → PE X e (tOp r (tvE X.K F a) (tvE X.K F b)))
    (hm : ∀ env g Q, wpE F m env g Q → wpE F a env g fun x g1 => wpE F b env g1 fun y g2 => R g2 x y Q) (hR : ∀ g x y Q, R g x y Q → ∃ z, fn g x y = some z ∧ Q z g) : PE X e (tvE X.K F m) := by
  obtain ⟨r, hr, hs⟩ := hf
  refine PE.weak (rule hr) fun σ H Q ⟨mp, env, g, Q0, sr, hw, k⟩ => ?_
  refine ⟨mp, env, g, _, sr, hm _ _ _ hw, fun x g1 hq mp1 H1 u1 e1 s1 r1 => ?_⟩
  refine ⟨mp1, env, g1, _, sr.ext e1 s1, hq, fun y g2 hq2 mp2 H2 u2 e2 s2 r2 => ?_⟩
  obtain ⟨z, hz, hq3⟩ := hR _ _ _ _ hq2
  exact hs mp2 g2 H2 x y u1 u2 z Q s2 (r1.ext e2) r2 hz fun mp' H' t e3 s3 r3 => k z g2 hq3 mp' H' t ((e1.trans e2).trans e3) s3 r3
theorem opt_map {α β : Type} {o : Option α} {f : α → β} {P : β → Prop} (h : opt o fun a => P (f a)) : ∃ z, o.map f = some z ∧ P z := by
  obtain ⟨a, h1, h2⟩ := h
  exact ⟨f a, by rw [h1]; rfl, h2⟩
theorem s_bin {op : Bop} {a b : E} {o : Operator} {l r : Expr} {pos : Pos} (ha : PE X l (tvE X.K F a)) (hb : PE X r (tvE X.K F b)) (h : opB op o = true) : PE X (.BinOp l o r pos) (tvE X.K F (.bin op a b)) :=
  s_op (fun g x y Q => opt (bop op x y) fun z => Q z g) (bop_sound h) (fun hr => pe_op hr ha hb) (fun env g Q hw => by simpa only [wpE] using hw) fun g x y Q h => h
theorem s_cmp {op : Cop} {a b : E} {o : CmpOp} {l r : Expr} {pos : Pos} (hu : X.A.units + 65 < cLine) (ha : PE X l (tvE X.K F a)) (hb : PE X r (tvE X.K F b)) (h : copB op o = true) (hs : noSet r = true) : PE X (.Compare l [o] [r] pos) (tvE X.K F (.cmp op a b)) :=
  s_op (fun g x y Q => opt (cop g op x y) fun z => Q (.bl z) g) (cop_sound hu h) (fun hr => pe_cmpR hr ha hb (noMark hs)) (fun env g Q hw => by simpa only [wpE] using hw) fun g x y Q h => opt_map (f := W.bl) (P := fun z => Q z g) h
theorem s_cmpT {op : Cop} {a b : E} {o : CmpOp} {l r : Expr} {pos : Pos} (hu : X.A.units + 65 < cLine) (ha : PE X l (tvE X.K F a)) (hb : PE X r (tvE X.K F b)) (h : copB op o = true) (hs : noSet r = true) : PT X (.Compare l [o] [r] pos) (tvT X.K F (.cmp op a b)) := by
  obtain ⟨r', hr, hs'⟩ := cop_sound (X := X) hu h
  refine PT.weak (pt_cmpR hr ha hb (noMark hs)) fun σ H Q ⟨mp, env, g, Q0, sr, hw, k⟩ => ?_
  simp only [wpT] at hw
  refine ⟨mp, env, g, _, sr, hw, fun x g1 hq mp1 H1 u1 e1 s1 r1 => ?_⟩
  refine ⟨mp1, env, g1, _, sr.ext e1 s1, hq, fun y g2 hq2 mp2 H2 u2 e2 s2 r2 => ?_⟩
  obtain ⟨z, hz, hq3⟩ := hq2
  refine hs' mp2 g2 H2 x y u1 u2 (.bl z) _ s2 (r1.ext e2) r2 (by simp only [liftB, hz, Option.map_some]) fun mp' H' t e3 s3 r3 => ?_
  exact ⟨z, r3.blI, k z g2 hq3 mp' H' ((e1.trans e2).trans e3) s3⟩
theorem s_neg {a : E} {l : Expr} {pos : Pos} (ha : PE X l (tvE X.K F a)) : PE X (.UnaryOp .USub l pos) (tvE X.K F (.neg a)) := by
  refine PE.weak (pe_un un_neg ha) fun σ H Q ⟨mp, env, g, Q0, sr, hw, k⟩ => ?_
  simp only [wpE] at hw
  refine ⟨mp, env, g, _, sr, hw, fun x g1 hq mp1 H1 u1 e1 s1 r1 => ?_⟩
  cases x with
  | int i => exact ⟨i, r1.intI, k _ g1 hq mp1 H1 _ e1 s1 (.int _)⟩
  | _ => exact hq.elim
theorem s_nt {a : E} {l : Expr} {pos : Pos} (ha : PE X l (tvE X.K F a)) : PE X (.UnaryOp .Not l pos) (tvE X.K F (.nt a)) := by
  refine PE.weak (pe_not ha) fun σ H Q ⟨mp, env, g, Q0, sr, hw, k⟩ => ?_
  simp only [wpE] at hw
  refine ⟨mp, env, g, _, sr, hw, fun x g1 hq mp1 H1 u1 e1 s1 r1 => ?_⟩
  cases x with
  | bl i => exact ⟨i, r1.blI, k _ g1 hq mp1 H1 _ e1 s1 (.bl _)⟩
  | _ => exact hq.elim
theorem s_and {a b : E} {x y : Expr} {rest : List Expr} {pos : Pos} (ha : PE X x (tvE X.K F a)) (hb : PE X (.BoolOp .And (y :: rest) pos) (tvE X.K F b)) : PE X (.BoolOp .And (x :: y :: rest) pos) (tvE X.K F (.and a b)) := by
  refine PE.weak (pe_and ha hb) fun σ H Q ⟨mp, env, g, Q0, sr, hw, k⟩ => ?_
  simp only [wpE] at hw
  refine ⟨mp, env, g, _, sr, hw, fun x g1 hq mp1 H1 u1 e1 s1 r1 => ?_⟩
  cases x with
  | bl i =>
    refine ⟨i, r1.blI, ?_⟩
    simp only at hq
    cases i with
    | true => exact ⟨mp1, env, g1, _, sr.ext e1 s1, hq, fun y g2 hq2 mp2 H2 u2 e2 s2 r2 => k _ g2 hq2 mp2 H2 _ (e1.trans e2) s2 r2⟩
    | false => exact k _ g1 hq mp1 H1 _ e1 s1 (.bl _)
  | _ => exact hq.elim
theorem s_or {a b : E} {x y : Expr} {rest : List Expr} {pos : Pos} (ha : PE X x (tvE X.K F a)) (hb : PE X (.BoolOp .Or (y :: rest) pos) (tvE X.K F b)) : PE X (.BoolOp .Or (x :: y :: rest) pos) (tvE X.K F (.or a b)) := by
  refine PE.weak (pe_or ha hb) fun σ H Q ⟨mp, env, g, Q0, sr, hw, k⟩ => ?_
  simp only [wpE] at hw
  refine ⟨mp, env, g, _, sr, hw, fun x g1 hq mp1 H1 u1 e1 s1 r1 => ?_⟩
  cases x with
  | bl i =>
    refine ⟨i, r1.blI, ?_⟩
    simp only at hq
    cases i with
    | false => exact ⟨mp1, env, g1, _, sr.ext e1 s1, hq, fun y g2 hq2 mp2 H2 u2 e2 s2 r2 => k _ g2 hq2 mp2 H2 _ (e1.trans e2) s2 r2⟩
    | true => exact k _ g1 hq mp1 H1 _ e1 s1 (.bl _)
  | _ => exact hq.elim
theorem s_ite {t a b : E} {ct x y : Expr} {pos : Pos} (ht : PT X ct (tvT X.K F t)) (ha : PE X x (tvE X.K F a)) (hb : PE X y (tvE X.K F b)) : PE X (.IfExp ct x y pos) (tvE X.K F (.ite t a b)) := by
  refine PE.weak (pe_ifExp ht ha hb) fun σ H Q ⟨mp, env, g, Q0, sr, hw, k⟩ => ?_
  simp only [wpE] at hw
  refine ⟨mp, env, g, _, sr, hw, fun d g1 hq mp1 H1 e1 s1 => ?_⟩
  cases d with
  | true => exact ⟨mp1, env, g1, _, sr.ext e1 s1, hq, fun y g2 hq2 mp2 H2 u2 e2 s2 r2 => k _ g2 hq2 mp2 H2 _ (e1.trans e2) s2 r2⟩
  | false => exact ⟨mp1, env, g1, _, sr.ext e1 s1, hq, fun y g2 hq2 mp2 H2 u2 e2 s2 r2 => k _ g2 hq2 mp2 H2 _ (e1.trans e2) s2 r2⟩
theorem s_tup {a : E} {es : List Expr} {k : Nat} {pos : Pos} (ha : PA X es (tvA X.K F a)) : PE X (.Tuple es k pos) (tvE X.K F (.tup a)) := by
  refine PE.weak (pe_tup ha) fun σ H Q ⟨mp, env, g, Q0, sr, hw, k⟩ => ?_
  simp only [wpE] at hw
  refine ⟨mp, env, g, _, sr, hw, fun xs g1 hq mp1 H1 us e1 s1 r1 => ?_⟩
  obtain ⟨w, hw, hq⟩ := hq
  obtain ⟨hz, rfl⟩ := ite_some hw
  have hl := r1.length
  refine ⟨by omega, fun p hp => ?_⟩
  obtain ⟨e2, s2, r2⟩ := new_tup s1 r1 (by omega) hp
  exact k _ g1 hq mp1 _ _ (e1.trans e2) s2 r2
theorem s_fz {a : E} {e : Expr} (ha : PE X e (tvN X.K F a)) : PE X e (tvE X.K F (.fz a)) := by
  refine PE.weak ha fun σ H Q ⟨mp, env, g, Q0, sr, hw, k⟩ => ?_
  simp only [wpE] at hw
  refine ⟨mp, env, g, _, sr, hw, fun xs g1 hq mp1 H1 a vs e1 s1 hn h hz r => ?_⟩
  refine k _ g1 hq mp1 H1 _ e1 s1.unhide ?_
  simp only [Rp]
  exact ⟨a, vs, rfl, ⟨hz, h, s1.hidden⟩, r.unhide⟩
theorem s_mk {a : E} {e : Expr} (ha : PE X e (tvN X.K F a)) : PE X e (tvE X.K F (.mk a)) := by
  refine PE.weak ha fun σ H Q ⟨mp, env, g, Q0, sr, hw, k⟩ => ?_
  simp only [wpE] at hw
  refine ⟨mp, env, g, _, sr, hw, fun xs g1 hq mp1 H1 a vs e1 s1 hn h hz r => ?_⟩
  refine k _ _ (opt_add hq) (mp1.track a) H1 _ (e1.track hn) (s1.track h hz r) ?_
  simp only [Rp]
  have hl : mp1.ob.length = g1.length := s1.len
  refine ⟨a, rfl, ?_⟩
  show (mp1.ob ++ [a])[g1.length]? = some a
  rw [List.getElem?_append_right (by omega), hl]
  simp
/-! ### lists of values, tests, parts -/
theorem a_nil : PA X [] (tvA X.K F .nil) := PA.weak pa_nil fun σ H Q ⟨mp, env, g, Q0, sr, hw, k⟩ => k [] g (by simpa only [wpA] using hw) mp H [] .refl sr.2 .nil
theorem a_cons {a es : E} {x : Expr} {xs : List Expr} (ha : PE X x (tvE X.K F a)) (hr : PA X xs (tvA X.K F es)) (h : noStar x = true) : PA X (x :: xs) (tvA X.K F (.cons a es)) := by
  refine PA.weak (pa_cons ha hr (star_cons h)) fun σ H Q ⟨mp, env, g, Q0, sr, hw, k⟩ => ?_
  simp only [wpA] at hw
  refine ⟨mp, env, g, _, sr, hw, fun x g1 hq mp1 H1 u1 e1 s1 r1 => ?_⟩
  exact ⟨mp1, env, g1, _, sr.ext e1 s1, hq, fun xs g2 hq2 mp2 H2 us e2 s2 r2 => k _ g2 hq2 mp2 H2 _ (e1.trans e2) s2 (.cons (r1.ext e2) r2)⟩
theorem t_and {a b : E} {x y : Expr} {rest : List Expr} {pos : Pos} (ha : PT X x (tvT X.K F a)) (hb : PW X (.BoolOp .And (y :: rest) pos) (tvT X.K F b)) : PW X (.BoolOp .And (x :: y :: rest) pos) (tvT X.K F (.and a b)) := by
  refine PW.weak (pw_and ha hb) fun σ H Q ⟨mp, env, g, Q0, sr, hw, k⟩ => ?_
  simp only [wpT] at hw
  refine ⟨mp, env, g, _, sr, hw, fun c g1 hq mp1 H1 e1 s1 => ?_⟩
  cases c with
  | true => exact ⟨mp1, env, g1, _, sr.ext e1 s1, hq, fun y g2 hq2 mp2 H2 e2 s2 => k _ g2 hq2 mp2 H2 (e1.trans e2) s2⟩
  | false => exact k _ g1 hq mp1 H1 e1 s1
theorem t_or {a b : E} {x y : Expr} {rest : List Expr} {pos : Pos} (ha : PT X x (tvT X.K F a)) (hb : PW X (.BoolOp .Or (y :: rest) pos) (tvT X.K F b)) : PW X (.BoolOp .Or (x :: y :: rest) pos) (tvT X.K F (.or a b)) := by
  refine PW.weak (pw_or ha hb) fun σ H Q ⟨mp, env, g, Q0, sr, hw, k⟩ => ?_
  simp only [wpT] at hw
  refine ⟨mp, env, g, _, sr, hw, fun c g1 hq mp1 H1 e1 s1 => ?_⟩
  cases c with
  | false => exact ⟨mp1, env, g1, _, sr.ext e1 s1, hq, fun y g2 hq2 mp2 H2 e2 s2 => k _ g2 hq2 mp2 H2 (e1.trans e2) s2⟩
  | true => exact k _ g1 hq mp1 H1 e1 s1
theorem t_nt {a : E} {x : Expr} {pos : Pos} (ha : PT X x (tvT X.K F a)) : PT X (.UnaryOp .Not x pos) (tvT X.K F (.nt a)) := by
  refine PT.weak (pt_not ha) fun σ H Q ⟨mp, env, g, Q0, sr, hw, k⟩ => ?_
  simp only [wpT] at hw
  exact ⟨mp, env, g, _, sr, hw, fun c g1 hq mp1 H1 e1 s1 => k _ g1 hq mp1 H1 e1 s1⟩
theorem tru_rel {mp : M} {g : CH} {H : Hp} {w : W} {u : V} {b : Bool} (s : Sim X.K mp g H) (r : Rp X.K mp H w u) (e : tru g w = some b) : TruV X.K u H b := by
  unfold tru at e
  split at e
  · rename_i h; cases e; cases dr_non s r h; exact rfl
  · rename_i h; cases e; cases dr_bl s r h; exact rfl
  · rename_i h; cases e; cases dr_int s r h; exact rfl
  · rename_i h
    cases e
    obtain ⟨rfl, ok⟩ := dr_str s r h
    exact ⟨ok.1, rfl⟩
  · rename_i xs h
    cases e
    obtain ⟨a, vs, rfl, f, r⟩ := dr_tup s r h
    refine .inr (.inl ⟨vs, f.sq, ?_⟩)
    have := r.length
    cases xs <;> cases vs <;> first | rfl | simp at this
  · rename_i xs h
    cases e
    obtain ⟨a, vs, rfl, f, _, r⟩ := dr_lst s r h
    refine .inl ⟨vs, f, ?_⟩
    have := r.length
    cases xs <;> cases vs <;> first | rfl | simp at this
  · cases e
theorem t_tv {a : E} {e : Expr} (ha : PE X e (tvE X.K F a)) (h : plainTest e = true) : PT X e (tvT X.K F (.tv a)) := by
  refine PT.weak (pt_truth ha (test_plain h)) fun σ H Q ⟨mp, env, g, Q0, sr, hw, k⟩ => ?_
  simp only [wpT] at hw
  refine ⟨mp, env, g, _, sr, hw, fun x g1 hq mp1 H1 u1 e1 s1 r1 => ?_⟩
  obtain ⟨b, hb, hq⟩ := hq
  exact ⟨b, tru_rel s1 r1 hb, k _ g1 hq mp1 H1 e1 s1⟩
theorem ts_nil : PTs X [] (tvT X.K F .nil) := PTs.weak pts_nil fun σ H Q ⟨mp, env, g, Q0, sr, hw, k⟩ => k true g (by simpa only [wpT] using hw) mp H .refl sr.2
theorem ts_one {a es : E} {e : Expr} (ha : PT X e (tvT X.K F a)) : PTs X [e] (tvT X.K F (.cons a es)) :=
  PTs.weak (pts_one ha) fun σ H Q ⟨mp, env, g, Q0, sr, hw, k⟩ => ⟨mp, env, g, Q0, sr, by simpa only [wpT] using hw, k⟩
theorem p_none : PO X none (tvP X.K F .nopart) := PO.weak po_none fun σ H Q ⟨mp, env, g, Q0, sr, hw, k⟩ => k .non g (by simpa only [wpP] using hw) mp H none .refl sr.2 rfl
theorem p_some {a es : E} {e : Expr} (ha : PE X e (tvE X.K F a)) : PO X (some e) (tvP X.K F (.cons a es)) := by
  refine PO.weak (po_some ha) fun σ H Q ⟨mp, env, g, Q0, sr, hw, k⟩ => ?_
  simp only [wpP] at hw
  refine ⟨mp, env, g, _, sr, hw, fun x g1 hq mp1 H1 u1 e1 s1 r1 => ?_⟩
  cases x with
  | int i => exact ⟨i, r1.intI, k _ g1 hq mp1 H1 _ e1 s1 rfl⟩
  | _ => exact hq.elim
/-! ### subscripts -/
theorem RpL.atI {K : Fr6} {mp : M} {H : Hp} {xs : List W} {us : List V} {i : Int} {w : W} (r : RpL K mp H xs us) (h : atI xs i = some w) : ∃ u, L2.atI us i = some u ∧ Rp K mp H w u := by
  unfold L2.atI at h ⊢
  rw [Option.bind_eq_some_iff] at h
  obtain ⟨j, h1, h2⟩ := h
  obtain ⟨u, h3, h4⟩ := r.get h2
  rw [r.length] at h1
  exact ⟨u, by rw [h1]; exact h3, h4⟩
theorem strOk_sub {x : Str} {l : List Nat} (h : StrOk x) (hs : ∀ c ∈ l, c ∈ x.cps.toList) (hl : l.length ≤ x.cps.toList.length) : StrOk ⟨l.toArray⟩ := by
  refine ⟨?_, ?_⟩
  · have h1 := h.1
    unfold Str.length at h1
    show l.length ≤ sizeLine
    have e : x.cps.toList.length = x.cps.size := Array.length_toList
    omega
  · have h2 := h.2
    rw [Array.all_eq_true'] at h2 ⊢
    intro c hc
    exact h2 c (by simpa using hs c (by simpa using hc))
theorem ix_sound : ∃ r : R2, IxR X r ∧ ∀ (mp : M) (g : CH) (H : Hp) (x y : W) (u v : V) (z : W) (Q : VK),
    Sim X.K mp g H → Rp X.K mp H x u → Rp X.K mp H y v → ixW g x y = some z → (∀ t, Rp X.K mp H z t → Q t H) → r u v H Q := by
  refine ⟨_, ix_seq, fun mp g H x y u v z Q s rx ry e q => ?_⟩
  unfold ixW at e
  split at e
  · rename_i xs i h
    obtain ⟨a, vs, rfl, f, r⟩ := dr_tup s rx h
    obtain ⟨t, h1, h2⟩ := r.atI e
    exact .inr (.inl ⟨a, vs, i, t, rfl, ry.intI, f.sq, h1, q t h2⟩)
  · rename_i xs i h
    obtain ⟨a, vs, rfl, f, _, r⟩ := dr_lst s rx h
    obtain ⟨t, h1, h2⟩ := r.atI e
    exact .inl ⟨a, vs, i, t, rfl, ry.intI, f, h1, q t h2⟩
  · rename_i x i h
    rw [Option.map_eq_some_iff] at e
    obtain ⟨c, h1, rfl⟩ := e
    obtain ⟨rfl, ok⟩ := dr_str s rx h
    refine .inr (.inr ⟨x, i, c, rfl, ry.intI, ok.1, h1, q _ (.str ?_)⟩)
    have hm : c ∈ x.cps.toList := by
      unfold L2.atI at h1
      rw [Option.bind_eq_some_iff] at h1
      obtain ⟨j, _, h2⟩ := h1
      exact List.mem_of_getElem? h2
    refine strOk_sub (l := [c]) ok (fun d hd => by rw [List.mem_singleton.mp hd]; exact hm) ?_
    cases hx : x.cps.toList with
    | nil => rw [hx] at hm; cases hm
    | cons a l => simp
  · cases e
theorem s_ix {a i : E} {x y : Expr} {pos : Pos} (ha : PE X x (tvE X.K F a)) (hb : PE X y (tvE X.K F i)) (h : noSlice y = true) : PE X (.Subscript x y pos) (tvE X.K F (.ix a i)) := by
  obtain ⟨r, hr, hs⟩ := ix_sound (X := X)
  refine PE.weak (pe_ix hr ha hb (plainIx_of h)) fun σ H Q ⟨mp, env, g, Q0, sr, hw, k⟩ => ?_
  simp only [wpE] at hw
  refine ⟨mp, env, g, _, sr, hw, fun x g1 hq mp1 H1 u1 e1 s1 r1 => ?_⟩
  refine ⟨mp1, env, g1, _, sr.ext e1 s1, hq, fun y g2 hq2 mp2 H2 u2 e2 s2 r2 => ?_⟩
  obtain ⟨z, hz, hq3⟩ := hq2
  exact hs mp2 g2 H2 x y u1 u2 z Q s2 (r1.ext e2) r2 hz fun t r3 => k z g2 hq3 mp2 H2 t (e1.trans e2) s2 r3
theorem sixW_of {n d : Nat} {w : W} {o : Option Int} {k : Nat} (p : partO w o) (h : sixW n d w = some k) : HT.sIx n d o = k := by
  cases w <;> simp only [sixW] at h <;> first | cases h | skip
  · cases (show o = none from p); rfl
  · cases (show o = some _ from p); rfl
theorem cutW_of {α : Type} {xs ys : List α} {lo hi : W} {l h : Option Int} (pl : partO lo l) (ph : partO hi h) (e : cutW xs lo hi = some ys) :
    ys = (xs.drop (HT.sIx xs.length 0 l)).take (HT.sIx xs.length xs.length h - HT.sIx xs.length 0 l) := by
  unfold cutW at e
  split at e
  · rename_i a b h1 h2
    cases e
    rw [sixW_of pl h1, sixW_of ph h2]
  · cases e
theorem s_sl {a lo hi : E} {x : Expr} {l h : Option Expr} {p2 pos : Pos} (ha : PE X x (tvE X.K F a)) (hl : PO X l (tvP X.K F lo)) (hh : PO X h (tvP X.K F hi)) :
    PE X (.Subscript x (.Slice l h none p2) pos) (tvE X.K F (.sl a lo hi)) := by
  refine PE.weak (pe_slice (sl_tupA.or sl_str) ha hl hh) fun σ H Q ⟨mp, env, g, Q0, sr, hw, k⟩ => ?_
  simp only [wpE] at hw
  refine ⟨mp, env, g, _, sr, hw, fun x g1 hq mp1 H1 u1 e1 s1 r1 => ?_⟩
  refine ⟨mp1, env, g1, _, sr.ext e1 s1, hq, fun y g2 hq2 mp2 H2 o1 e2 s2 p1 => ?_⟩
  refine ⟨mp2, env, g2, _, (sr.ext e1 s1).ext e2 s2, hq2, fun z g3 hq3 mp3 H3 o2 e3 s3 p2 => ?_⟩
  obtain ⟨t, ht, hq3⟩ := hq3
  have r3 := (r1.ext e2).ext e3
  have e13 := (e1.trans e2).trans e3
  cases x with
  | tup xs =>
    simp only [slW, Option.map_eq_some_iff] at ht
    obtain ⟨ys, h1, rfl⟩ := ht
    have hc := cutW_of p1 p2 h1
    obtain ⟨b, vs, rfl, f, r⟩ := r3.tupI
    have hlen := r.length
    rw [hlen] at hc
    refine .inl ⟨b, vs, rfl, f.sq, fun hwh => ?_, fun _ p hp => ?_⟩
    · obtain rfl : ys = xs := by rw [hc, hwh.1, hwh.2, List.drop_zero, Nat.sub_zero, ← hlen, List.take_length]
      exact k _ g3 hq3 mp3 H3 _ e13 s3 r3
    · have r4 : RpL X.K mp3 H3 ys (cutV vs o1 o2) := by rw [hc]; exact (r.drop _).take _
      obtain ⟨e4, s4, r5⟩ := new_tup s3 r4 (Nat.le_trans (cutV_length _ _ _) f.1) hp
      exact k _ g3 hq3 mp3 _ _ (e13.trans e4) s4 r5
  | str z =>
    simp only [slW, Option.map_eq_some_iff] at ht
    obtain ⟨ys, h1, rfl⟩ := ht
    have hc := cutW_of p1 p2 h1
    obtain ⟨rfl, ok⟩ := r3.strI
    refine .inr ⟨z, rfl, ok.1, ?_⟩
    have e5 : cutS z o1 o2 = ⟨ys.toArray⟩ := by
      unfold cutS
      rw [hc]
      simp only [Array.length_toList]
      rfl
    rw [e5]
    refine k _ g3 hq3 mp3 H3 _ e13 s3 (.str (strOk_sub ok (fun c hc' => ?_) ?_))
    · rw [hc] at hc'
      exact List.mem_of_mem_drop (List.mem_of_mem_take hc')
    · rw [hc, List.length_take, List.length_drop]
      omega
  | _ => simp [slW] at ht
/-! ### calls -/
theorem s_call (g : Good G F d c X) {f : Nat} {es : E} {x : Str} {xs : List Expr} {p pos : Pos} (h : chkE G (.call f es) c (.Call (.Name x p) xs [] pos) = true) (ha : PA X xs (tvA X.K F es)) (hx : xs.all noStar = true)
    (h0 : xs = [] → es = .nil) : PE X (.Call (.Name x p) xs [] pos) (tvE X.K F (.call f es)) := by
  simp only [chkE, Bool.and_eq_true] at h
  obtain ⟨⟨⟨h1, h2⟩, h3⟩, _⟩ := h
  split at h1
  · rename_i y n e
    obtain rfl := of_decide_eq_true h1
    obtain ⟨fa, fd, ps, hm, kp, hn, hb, hf⟩ := g.facts.fns _ _ _ e
    have fin : ∀ {mp mp1 : M} {g g1 : CH} {H H1 : Hp} {Q0 : WK} {Q : VK} {ws : List W} {us : List V}, Ext mp H mp1 H1 → Sim X.K mp1 g1 H1 → RpL X.K mp1 H1 ws us → F f ws g1 Q0 →
        (∀ v g', Q0 v g' → ∀ mp' H' u, Ext mp H mp' H' → Sim X.K mp' g' H' → Rp X.K mp' H' v u → Q u H') → spOf X.K F f n (us ++ []) H1 Q E0 := fun {mp mp1 g' g1 H H1 Q0 Q ws us} e1 s1 r1 hq k => by
      rw [List.append_nil]
      refine ⟨by rw [← r1.length]; exact g.facts.ar _ _ _ e _ _ _ hq, mp1, g1, ws, Q0, s1, r1, hq, fun v g2 q2 mp2 H2 u e2 s2 r2 => k v g2 q2 mp2 H2 u (e1.trans e2) s2 r2⟩
    cases xs with
    | nil =>
      obtain rfl := h0 rfl
      refine PE.weak (pe_call0 hf g.room (g.gl h2) hm kp hb .nil pass0 (dbg_of h3).1) fun σ H Q ⟨mp, env, g, Q0, sr, hw, k⟩ => ?_
      simp only [wpE, wpA] at hw
      exact fin (us := []) (g := g) .refl sr.2 .nil hw k
    | cons e' es' =>
      rw [List.all_cons, Bool.and_eq_true] at hx
      refine PE.weak (pe_call hf g.room (g.gl h2) hm kp hb .nil pass0 ha (dbg_of h3).1 (star_cons hx.1) (plain_star hx.2)) fun σ H Q ⟨mp, env, g, Q0, sr, hw, k⟩ => ?_
      simp only [wpE] at hw
      exact ⟨mp, env, g, _, sr, hw, fun ws g1 hq mp1 H1 us e1 s1 r1 => fin (g := g) e1 s1 r1 hq k⟩
  · cases h1
/-- a built-in of one value -/
def CallS1 (X : Cx) (f : Value) (fn : CH → W → Option W) : Prop := ∃ r : List V → Hp → VK → Prop, CallR X f r ∧ ∀ (mp : M) (g : CH) (H : Hp) (x : W) (u : V) (z : W) (Q : VK),
  Sim X.K mp g H → Rp X.K mp H x u → fn g x = some z → (∀ mp' H' t, Ext mp H mp' H' → Sim X.K mp' g H' → Rp X.K mp' H' z t → Q t H') → r [u] H Q
theorem s_b1 {a : E} {x : Str} {y : Expr} {p pos : Pos} {fn : CH → W → Option W} {m : E} {id : String} (hs : CallS1 X (.builtin id) fn) (ha : PE X y (tvE X.K F a)) (hn : noStar y = true) (hg : Gl X x) (hm : X.mg x = none)
    (hv : bootBuiltins x = some (.builtin id)) (n1 : x ≠ "__name__") (n2 : (x == ("__debug__" : Str)) = false)
    (hw : ∀ env g Q, wpE F m env g Q → wpE F a env g fun x g1 => opt (fn g1 x) fun z => Q z g1) : PE X (.Call (.Name x p) [y] [] pos) (tvE X.K F m) := by
  obtain ⟨r, hr, hs⟩ := hs
  refine PE.weak (pe_callB hr hg hm hv (pa_cons ha pa_nil (star_cons hn)) n1 n2 (star_cons hn) rfl) fun σ H Q ⟨mp, env, g, Q0, sr, hw', k⟩ => ?_
  refine ⟨mp, env, g, _, sr, hw _ _ _ hw', fun x g1 hq mp1 H1 u1 e1 s1 r1 => ?_⟩
  obtain ⟨z, hz, hq⟩ := hq
  exact hs mp1 g1 H1 x u1 z Q s1 r1 hz fun mp2 H2 t e2 s2 r2 => k z g1 hq mp2 H2 t (e1.trans e2) s2 r2
theorem s_t1 {a : E} {x : Str} {y : Expr} {p pos : Pos} {fn : CH → W → Option W} {m : E} {id : String} (hs : CallS1 X (.type id) fn) (ha : PE X y (tvE X.K F a)) (hn : noStar y = true) (hg : Gl X x) (hm : X.mg x = none)
    (hv : bootBuiltins x = some (.type id)) (n1 : x ≠ "__name__") (n2 : (x == ("__debug__" : Str)) = false)
    (hw : ∀ env g Q, wpE F m env g Q → wpE F a env g fun x g1 => opt (fn g1 x) fun z => Q z g1) : PE X (.Call (.Name x p) [y] [] pos) (tvE X.K F m) := by
  obtain ⟨r, hr, hs⟩ := hs
  refine PE.weak (pe_callTy hr hg hm hv (pa_cons ha pa_nil (star_cons hn)) n1 n2 (star_cons hn) rfl) fun σ H Q ⟨mp, env, g, Q0, sr, hw', k⟩ => ?_
  refine ⟨mp, env, g, _, sr, hw _ _ _ hw', fun x g1 hq mp1 H1 u1 e1 s1 r1 => ?_⟩
  obtain ⟨z, hz, hq⟩ := hq
  exact hs mp1 g1 H1 x u1 z Q s1 r1 hz fun mp2 H2 t e2 s2 r2 => k z g1 hq mp2 H2 t (e1.trans e2) s2 r2
theorem ints_of : ∀ {xs : List W} {ns : List Int}, intsOf xs = some ns → xs = ns.map W.int
  | [], ns, h => by simp only [intsOf, Option.some.injEq] at h; subst h; rfl
  | x :: xs, ns, h => by
    cases x <;> simp only [intsOf] at h <;> first | cases h | skip
    rw [Option.map_eq_some_iff] at h
    obtain ⟨l, h1, rfl⟩ := h
    rw [ints_of h1]; rfl
theorem len_sound : CallS1 X (.builtin "len") (fun g => u1W g .len) := by
  refine ⟨_, call_len, fun mp g H x u z Q s rx e q => ?_⟩
  simp only [u1W] at e
  split at e
  · rename_i xs h
    cases e
    obtain ⟨a, vs, rfl, f, r⟩ := dr_tup s rx h
    exact ⟨.ref a, xs.length, rfl, .inr ⟨vs, f.sq, r.length⟩, q mp H _ .refl s (.int _)⟩
  · rename_i xs h
    cases e
    obtain ⟨a, vs, rfl, f, _, r⟩ := dr_lst s rx h
    exact ⟨.ref a, xs.length, rfl, .inl ⟨vs, f, r.length⟩, q mp H _ .refl s (.int _)⟩
  · rename_i x h
    cases e
    obtain ⟨rfl, ok⟩ := dr_str s rx h
    exact ⟨.str x, x.length, rfl, ⟨ok.1, rfl⟩, q mp H _ .refl s (.int _)⟩
  · cases e
theorem abs_sound : CallS1 X (.builtin "abs") (fun g => u1W g .abs) := by
  refine ⟨_, call_abs, fun mp g H x u z Q s rx e q => ?_⟩
  cases x <;> simp only [u1W] at e <;> cases e
  exact ⟨_, by rw [rx.intI], q mp H _ .refl s (.int _)⟩
theorem int_sound : CallS1 X (.type "int") (fun g => u1W g .int) := by
  refine ⟨_, call_int1, fun mp g H x u z Q s rx e q => ?_⟩
  cases x <;> simp only [u1W] at e <;> cases e
  · exact .inr ⟨_, by rw [rx.blI], q mp H _ .refl s (.int _)⟩
  · exact .inl ⟨_, by rw [rx.intI], q mp H _ .refl s (.int _)⟩
theorem bool_sound : CallS1 X (.type "bool") (fun g => u1W g .bool) := by
  refine ⟨_, call_bool1, fun mp g H x u z Q s rx e q => ?_⟩
  cases x <;> simp only [u1W] at e <;> cases e
  · exact .inr ⟨_, by rw [rx.blI], q mp H _ .refl s (.bl _)⟩
  · exact .inl ⟨_, by rw [rx.intI], q mp H _ .refl s (.bl _)⟩
theorem tuple_sound : CallS1 X (.type "tuple") (fun g => u1W g .tuple) := by
  refine ⟨_, call_tuple_of, fun mp g H x u z Q s rx e q => ?_⟩
  simp only [u1W] at e
  split at e
  · rename_i xs h
    cases e
    have hx := dr_flat s h (by intro _ z; cases z) (by intro _ _ z; cases z) (by intro _ z; cases z)
    subst hx
    obtain ⟨a, vs, rfl, f, r⟩ := rx.tupI
    exact ⟨a, vs, rfl, .inr ⟨f.sq, q mp H _ .refl s rx⟩⟩
  · rename_i xs h
    cases e
    obtain ⟨a, vs, rfl, f, hz, r⟩ := dr_lst s rx h
    refine ⟨a, vs, rfl, .inl ⟨f, fun p hp => ?_⟩⟩
    obtain ⟨e2, s2, r2⟩ := new_tup s r hz hp
    exact q _ _ _ e2 s2 r2
  · cases e
theorem foldl_max : ∀ (xs : List Int) (x m : Int), (∀ y, y ∈ x :: xs → y ≤ m) → m ∈ x :: xs → xs.foldl (fun a b => if a < b then b else a) x = m
  | [], x, m, h, hm => by
    rw [List.mem_singleton] at hm
    rw [hm]; rfl
  | y :: xs, x, m, h, hm => by
    rw [List.foldl_cons]
    have hx := h x (by simp)
    have hy := h y (by simp)
    refine foldl_max xs _ m (fun z hz => ?_) ?_
    · rcases List.mem_cons.mp hz with e | hz
      · rw [e]; split <;> assumption
      · exact h z (by simp [hz])
    · rcases List.mem_cons.mp hm with e | hm
      · subst e
        by_cases q : m < y
        · omega
        · rw [if_neg q]; exact List.mem_cons_self
      · rcases List.mem_cons.mp hm with e | hm
        · subst e
          by_cases q : x < m
          · rw [if_pos q]; exact List.mem_cons_self
          · rw [if_neg q]
            have : x = m := by omega
            rw [this]; exact List.mem_cons_self
        · exact List.mem_cons_of_mem _ hm
theorem foldl_min : ∀ (xs : List Int) (x m : Int), (∀ y, y ∈ x :: xs → m ≤ y) → m ∈ x :: xs → xs.foldl (fun a b => if b < a then b else a) x = m
  | [], x, m, h, hm => by
    rw [List.mem_singleton] at hm
    rw [hm]; rfl
  | y :: xs, x, m, h, hm => by
    rw [List.foldl_cons]
    have hx := h x (by simp)
    have hy := h y (by simp)
    refine foldl_min xs _ m (fun z hz => ?_) ?_
    · rcases List.mem_cons.mp hz with e | hz
      · rw [e]; split <;> assumption
      · exact h z (by simp [hz])
    · rcases List.mem_cons.mp hm with e | hm
      · subst e
        by_cases q : y < m
        · omega
        · rw [if_neg q]; exact List.mem_cons_self
      · rcases List.mem_cons.mp hm with e | hm
        · subst e
          by_cases q : m < x
          · rw [if_pos q]; exact List.mem_cons_self
          · rw [if_neg q]
            have : x = m := by omega
            rw [this]; exact List.mem_cons_self
        · exact List.mem_cons_of_mem _ hm
theorem lseq_ints {mp : M} {g : CH} {H : Hp} {x : W} {u : V} {xs : List W} {ns : List Int} (s : Sim X.K mp g H) (r : Rp X.K mp H x u) (e : lseqOf g x = some xs) (hn : intsOf xs = some ns) : ∃ a, u = .ref a ∧ SqL X.K H a (ns.map V.int) := by
  unfold lseqOf at e
  split at e
  · rename_i ys h
    cases e
    obtain ⟨a, vs, rfl, f, _, r⟩ := dr_lst s r h
    rw [ints_of hn] at r
    rw [RpL.ints r] at f
    exact ⟨a, rfl, f⟩
  · cases e
theorem sum_sound (hc : X.calm = true) : CallS1 X (.builtin "sum") (fun g => u1W g .sum) := by
  refine ⟨_, cr_sum hc, fun mp g H x u z Q s rx e q => ?_⟩
  simp only [u1W, Option.bind_eq_some_iff, Option.map_eq_some_iff] at e
  obtain ⟨xs, h1, ns, h2, rfl⟩ := e
  obtain ⟨a, rfl, f⟩ := lseq_ints s rx h1 h2
  exact ⟨a, ns, rfl, f, q mp H _ .refl s (.int _)⟩
theorem foldl_max2 : ∀ (ns : List Int) (n : Int), ns.foldl (fun a b => if a < b then b else a) n = ns.foldl max n
  | [], _ => rfl
  | m :: ns, n => by
    rw [List.foldl_cons, List.foldl_cons, foldl_max2 ns]
    congr 1
    split <;> omega
theorem max_sound (hc : X.calm = true) (hu : X.A.units + 10 < cLine) : CallS1 X (.builtin "max") (fun g => u1W g .max) := by
  refine ⟨fun vs H Q => rMax X.K vs H Q ∨ rMaxT X.K vs H Q, fun pins s σ H vs us Q I r h => h.elim (cr_max hc pins s σ H vs us Q I r) (cr_maxT hc hu pins s σ H vs us Q I r), fun mp g H x u z Q s rx e q => ?_⟩
  simp only [u1W, Option.bind_eq_some_iff, Option.map_eq_some_iff] at e
  obtain ⟨xs, h1, ns, h2, m, h3, rfl⟩ := e
  unfold tseqOf at h1
  split at h1
  case h_3 => cases h1
  case h_2 xs' hd =>
    cases h1
    obtain ⟨b, us, rfl, f, rb⟩ := dr_tup s rx hd
    rw [ints_of h2] at rb
    obtain rfl := RpL.ints rb
    cases ns with
    | nil => cases h3
    | cons n ns =>
      simp only [maxL, Option.some.injEq] at h3
      rw [foldl_max2] at h3
      subst h3
      exact .inr ⟨b, n, ns, rfl, f.sq, q mp H _ .refl s (.int _)⟩
  case h_1 xs' hd =>
  cases h1
  obtain ⟨a, rfl, f⟩ := lseq_ints s rx (show lseqOf g x = some _ by unfold lseqOf; rw [hd]) h2
  cases ns with
  | nil => cases h3
  | cons n ns =>
    refine .inl ⟨a, _, rfl, f, by simp, fun m' hm hm2 => ?_⟩
    simp only [maxL, Option.some.injEq] at h3
    rw [foldl_max ns n m' hm2 hm] at h3
    subst h3
    exact q mp H _ .refl s (.int _)
theorem min_sound (hc : X.calm = true) : CallS1 X (.builtin "min") (fun g => u1W g .min) := by
  refine ⟨_, cr_min hc, fun mp g H x u z Q s rx e q => ?_⟩
  simp only [u1W, Option.bind_eq_some_iff, Option.map_eq_some_iff] at e
  obtain ⟨xs, h1, ns, h2, m, h3, rfl⟩ := e
  obtain ⟨a, rfl, f⟩ := lseq_ints s rx h1 h2
  cases ns with
  | nil => cases h3
  | cons n ns =>
    refine ⟨a, _, rfl, f, by simp, fun m' hm hm2 => ?_⟩
    simp only [minL, Option.some.injEq] at h3
    rw [foldl_min ns n m' hm2 hm] at h3
    subst h3
    exact q mp H _ .refl s (.int _)
theorem s_u1 (g : Good G F d c X) {op : U1} {a : E} {x : Str} {y : Expr} {p pos : Pos} (h : chkE G (.u1 op a) c (.Call (.Name x p) [y] [] pos) = true) (ha : PE X y (tvE X.K F a)) : PE X (.Call (.Name x p) [y] [] pos) (tvE X.K F (.u1 op a)) := by
  simp only [chkE, Bool.and_eq_true] at h
  obtain ⟨⟨h1, _⟩, hn⟩ := h
  obtain ⟨rfl, hg, hf⟩ := blt_of h1
  have hg := g.gl hg
  have hm := g.facts.free _ hf
  have hw : ∀ env g Q, wpE F (.u1 op a) env g Q → wpE F a env g fun x g1 => opt (u1W g1 op x) fun z => Q z g1 := fun env g Q hw => by simpa only [wpE] using hw
  cases op with
  | len => exact s_b1 len_sound ha hn hg hm boot_len (by decide +kernel) (by decide +kernel) hw
  | abs => exact s_b1 abs_sound ha hn hg hm boot_abs (by decide +kernel) (by decide +kernel) hw
  | int => exact s_t1 int_sound ha hn hg hm (by decide +kernel) (by decide +kernel) (by decide +kernel) hw
  | tuple => exact s_t1 tuple_sound ha hn hg hm (by decide +kernel) (by decide +kernel) (by decide +kernel) hw
  | bool => exact s_t1 bool_sound ha hn hg hm (by decide +kernel) (by decide +kernel) (by decide +kernel) hw
  | sum => exact s_b1 (sum_sound g.calm) ha hn hg hm boot_sum (by decide +kernel) (by decide +kernel) hw
  | max => exact s_b1 (max_sound g.calm (by have := g.room.un; omega)) ha hn hg hm boot_max (by decide +kernel) (by decide +kernel) hw
  | min => exact s_b1 (min_sound g.calm) ha hn hg hm boot_min (by decide +kernel) (by decide +kernel) hw
end
end Z
namespace Z
open PySem PySem.Spec L2
open PyProof.Rows hiding St
section
variable {X : Cx} {G : Globs} {F : FSem} {d : Nat} {c : Ctx}
/-! ### built-ins of two values -/
theorem s_u2 (g : Good G F d c X) {op : U2} {a b : E} {x : Str} {y z : Expr} {p pos : Pos} (h : chkE G (.u2 op a b) c (.Call (.Name x p) [y, z] [] pos) = true) (ha : PE X y (tvE X.K F a)) (hb : PE X z (tvE X.K F b)) :
    PE X (.Call (.Name x p) [y, z] [] pos) (tvE X.K F (.u2 op a b)) := by
  simp only [chkE, Bool.and_eq_true] at h
  obtain ⟨⟨⟨⟨h1, _⟩, n1⟩, _⟩, n2⟩ := h
  obtain ⟨rfl, hg, hf⟩ := blt_of h1
  have hg := g.gl hg
  have hm := g.facts.free _ hf
  have pa := pa_cons ha (pa_cons hb pa_nil (star_cons n2)) (star_cons n1)
  have hp : (backTo pos (starEach [z] X.env)).any (·.1) = false := plain_star (by simp [n2])
  cases op with
  | max =>
    refine PE.weak (pe_callB (call_max2 g.calm) hg hm boot_max pa (by decide +kernel) (by decide +kernel) (star_cons n1) hp) fun σ H Q ⟨mp, env, g, Q0, sr, hw', k⟩ => ?_
    simp only [wpE] at hw'
    refine ⟨mp, env, g, _, sr, hw', fun x g1 hq mp1 H1 u1 e1 s1 r1 => ?_⟩
    refine ⟨mp1, env, g1, _, sr.ext e1 s1, hq, fun y g2 hq2 mp2 H2 u2 e2 s2 r2 => ?_⟩
    obtain ⟨z, hz, hq3⟩ := hq2
    cases x <;> cases y <;> simp only [u2W] at hz <;> cases hz
    exact ⟨_, _, by rw [(r1.ext e2).intI, r2.intI], k _ g2 hq3 mp2 H2 _ (e1.trans e2) s2 (.int _)⟩
  | min =>
    refine PE.weak (pe_callB (call_min2 g.calm) hg hm boot_min pa (by decide +kernel) (by decide +kernel) (star_cons n1) hp) fun σ H Q ⟨mp, env, g, Q0, sr, hw', k⟩ => ?_
    simp only [wpE] at hw'
    refine ⟨mp, env, g, _, sr, hw', fun x g1 hq mp1 H1 u1 e1 s1 r1 => ?_⟩
    refine ⟨mp1, env, g1, _, sr.ext e1 s1, hq, fun y g2 hq2 mp2 H2 u2 e2 s2 r2 => ?_⟩
    obtain ⟨z, hz, hq3⟩ := hq2
    cases x <;> cases y <;> simp only [u2W] at hz <;> cases hz
    exact ⟨_, _, by rw [(r1.ext e2).intI, r2.intI], k _ g2 hq3 mp2 H2 _ (e1.trans e2) s2 (.int _)⟩
/-! ### isinstance -/
def tyS : Ty → String
  | .tuple => "tuple" | .list => "list" | .int => "int" | .str => "str" | .bool => "bool"
theorem tyRel {mp : M} {g : CH} {H : Hp} {w : W} {u : V} {t : Ty} {b : Bool} (s : Sim X.K mp g H) (r : Rp X.K mp H w u) (e : isiW g w t = some b) :
    ∃ ty : String, TyX X.K H u (.type ty) ∧ kitB ty (tyS t) = some b := by
  unfold isiW at e
  have k1 : ∀ (ty : String) (t : Ty) (b : Bool), (∀ h : kitB ty (tyS t) = some b, True) := fun _ _ _ _ => trivial
  cases hd : dr g w with
  | non => 
    have := dr_non s r hd
    subst this
    rw [hd] at e
    refine ⟨"NoneType", .base .non, ?_⟩
    cases t <;> cases e <;> decide +kernel
  | bl b' =>
    have := dr_bl s r hd
    subst this
    rw [hd] at e
    refine ⟨"bool", .base (.bl _), ?_⟩
    cases t <;> cases e <;> decide +kernel
  | int i =>
    have := dr_int s r hd
    subst this
    rw [hd] at e
    refine ⟨"int", .base (.int _), ?_⟩
    cases t <;> cases e <;> decide +kernel
  | str i =>
    obtain ⟨this, _⟩ := dr_str s r hd
    subst this
    rw [hd] at e
    refine ⟨"str", .base (.str _), ?_⟩
    cases t <;> cases e <;> decide +kernel
  | tup xs =>
    obtain ⟨a, vs, rfl, f, r⟩ := dr_tup s r hd
    rw [hd] at e
    refine ⟨"tuple", ?_, ?_⟩
    · rcases f.2 with ⟨h, _⟩ | ⟨o, its, n, h1, h2, _⟩
      · rcases h with h | ⟨ob, h⟩
        · exact .base (.tup h)
        · exact .fTuple h
      · exact .kTuple h1 h2
    · cases t <;> cases e <;> decide +kernel
  | lst xs =>
    obtain ⟨a, vs, rfl, f, _⟩ := dr_lst' s r hd
    rw [hd] at e
    refine ⟨"list", .base (.lst f), ?_⟩
    cases t <;> cases e <;> decide +kernel
  | _ => rw [hd] at e; cases t <;> cases e
theorem s_isi (g : Good G F d c X) {t : Ty} {a : E} {x z : Str} {y : Expr} {p p2 pos : Pos} (h : chkE G (.isi a t) c (.Call (.Name x p) [y, .Name z p2] [] pos) = true) (ha : PE X y (tvE X.K F a)) :
    PE X (.Call (.Name x p) [y, .Name z p2] [] pos) (tvE X.K F (.isi a t)) := by
  simp only [chkE, Bool.and_eq_true] at h
  obtain ⟨⟨⟨h1, h2⟩, _⟩, n1⟩ := h
  obtain ⟨rfl, hg, hf⟩ := blt_of h1
  obtain ⟨rfl, hg2, hf2⟩ := blt_of h2
  have hv : bootBuiltins (tyName t) = some (.type (tyS t)) := by cases t <;> decide +kernel
  have hb : PE X (.Name (tyName t) p2) (tC (.ty (tyS t))) := pe_bltn (g.gl hg2) (g.facts.free _ hf2) hv rfl (by cases t <;> decide +kernel) (by cases t <;> decide +kernel)
  have pa := pa_cons ha (pa_cons hb pa_nil rfl) (star_cons n1)
  refine PE.weak (pe_callB call_isi (g.gl hg) (g.facts.free _ hf) boot_isinstance pa (by decide +kernel) (by decide +kernel) (star_cons n1) rfl) fun σ H Q ⟨mp, env, g, Q0, sr, hw', k⟩ => ?_
  simp only [wpE] at hw'
  refine ⟨mp, env, g, _, sr, hw', fun x g1 hq mp1 H1 u1 e1 s1 r1 => ?_⟩
  obtain ⟨b, hb, hq⟩ := hq
  obtain ⟨ty, h1, h2⟩ := tyRel s1 r1 hb
  exact ⟨u1, .ty (tyS t), .type ty, .type (tyS t), b, rfl, .ty _, h1, kit_ty h2, k _ g1 hq mp1 H1 _ e1 s1 (.bl _)⟩
/-! ### tracked lists changed -/
section
variable {K : Fr6} {mp : M} {H : Hp} {g : CH} {a : Addr}
/-- a tracked list is rewritten -/
theorem Ext.wr {vs : List V} (h : a ∈ mp.ob) : Ext mp H mp (upd H a (.lst vs)) :=
  ⟨List.prefix_refl _, fun _ h => .inl h, fun b o hb q => by rw [upd_ne (fun z => hb (by rw [z]; exact h))]; exact q, rfl⟩
theorem Ext.wrO {ob : HO} (h : a ∈ mp.ob) : Ext mp H mp (upd H a ob) :=
  ⟨List.prefix_refl _, fun _ h => .inl h, fun b o hb q => by rw [upd_ne (fun z => hb (by rw [z]; exact h))]; exact q, rfl⟩
theorem Sim.wrO {ob : HO} {w0 : W} {n : Nat} (s : Sim K mp g H) (hn : mp.ob[n]? = some a) (r : RO K mp (upd H a ob) a w0) : Sim K mp (g.set n w0) (upd H a ob) := by
  have hm : a ∈ mp.ob := List.mem_of_getElem? hn
  have e : Ext mp H mp (upd H a ob) := .wrO hm
  refine ⟨s.nd, by rw [List.length_set]; exact s.len, fun m w hw => ?_, fun b hb => ?_, s.ndh⟩
  · by_cases q : n = m
    · subst q
      have hl : n < g.length := by rw [← s.len]; exact (List.getElem?_eq_some_iff.mp hn).1
      rw [List.getElem?_set_self hl] at hw
      cases hw
      exact ⟨a, hn, r⟩
    · rw [List.getElem?_set_ne q] at hw
      obtain ⟨b, h1, h2⟩ := s.obj m w hw
      refine ⟨b, h1, h2.ext0 e.e0 fun o ho => ?_⟩
      have hb : b ≠ a := fun z => by
        subst z
        obtain ⟨l1, e1⟩ := List.getElem?_eq_some_iff.mp hn
        obtain ⟨l2, e2⟩ := List.getElem?_eq_some_iff.mp h1
        exact q ((List.getElem_inj s.nd).mp (e1.trans e2.symm))
      rw [upd_ne hb]
      exact ho
  · obtain ⟨⟨o, h1⟩, h2⟩ := s.hid b hb
    exact ⟨⟨o, by rw [upd_ne (fun z => h2 (by rw [z]; exact hm))]; exact h1⟩, h2⟩
theorem Sim.wr {vs : List V} {ys : List W} {n : Nat} (s : Sim K mp g H) (hn : mp.ob[n]? = some a) (hz : vs.length ≤ sizeLine) (r : RpL K mp H ys vs) : Sim K mp (g.set n (.lst ys)) (upd H a (.lst vs)) := by
  have hm : a ∈ mp.ob := List.mem_of_getElem? hn
  have e : Ext mp H mp (upd H a (.lst vs)) := .wr hm
  refine ⟨s.nd, by rw [List.length_set]; exact s.len, fun m w hw => ?_, fun b hb => ?_, s.ndh⟩
  · by_cases q : n = m
    · subst q
      have hl : n < g.length := by rw [← s.len]; exact (List.getElem?_eq_some_iff.mp hn).1
      rw [List.getElem?_set_self hl] at hw
      cases hw
      exact ⟨a, hn, vs, upd_same, hz, r.ext e⟩
    · rw [List.getElem?_set_ne q] at hw
      obtain ⟨b, h1, h2⟩ := s.obj m w hw
      refine ⟨b, h1, h2.ext0 e.e0 fun o ho => ?_⟩
      have hb : b ≠ a := fun z => by
        subst z
        obtain ⟨l1, e1⟩ := List.getElem?_eq_some_iff.mp hn
        obtain ⟨l2, e2⟩ := List.getElem?_eq_some_iff.mp h1
        exact q ((List.getElem_inj s.nd).mp (e1.trans e2.symm))
      rw [upd_ne hb]
      exact ho
  · obtain ⟨⟨o, h1⟩, h2⟩ := s.hid b hb
    exact ⟨⟨o, by rw [upd_ne (fun z => h2 (by rw [z]; exact hm))]; exact h1⟩, h2⟩
theorem ob_of {w : W} {u : V} {p : Nat × List W} (s : Sim K mp g H) (r : Rp K mp H w u) (e : obOf g w = some p) : ∃ a vs, u = .ref a ∧ mp.ob[p.1]? = some a ∧ H a = some (.lst vs) ∧ vs.length ≤ sizeLine ∧ RpL K mp H p.2 vs := by
  unfold obOf at e
  cases w <;> simp only at e <;> try (cases e)
  rename_i n
  split at e
  · rename_i xs h
    cases e
    obtain ⟨a, rfl, h1⟩ := r.obI
    obtain ⟨b, h2, vs, h3, h4, h5⟩ := s.at_ h
    rw [h1] at h2; cases h2
    exact ⟨a, vs, rfl, h1, h3, h4, h5⟩
  · cases e
end
theorem s_app (g : Good G F d c X) {o a : E} {x y : Expr} {m : Str} {ap pos : Pos} (h : chkE G (.app o a) c (.Call (.Attribute x m ap) [y] [] pos) = true) (ho : PE X x (tvE X.K F o)) (ha : PE X y (tvE X.K F a)) :
    PE X (.Call (.Attribute x m ap) [y] [] pos) (tvE X.K F (.app o a)) := by
  simp only [chkE, Bool.and_eq_true] at h
  obtain ⟨⟨⟨⟨⟨h1, h2⟩, h3⟩, _⟩, _⟩, n1⟩ := h
  obtain rfl := of_decide_eq_true h1
  refine PE.weak (pe_bm PySem.F.plainAttrs_list PySem.F.slot_list_append PySem.F.type_list_append mt_append ho (pa_cons ha pa_nil (star_cons n1)) (attr_plain h3)
    (by rw [all_star (by simp [n1])]; rfl) h2 (star_cons n1) rfl) fun σ H Q ⟨mp, env, g, Q0, sr, hw', k⟩ => ?_
  simp only [wpE] at hw'
  refine ⟨mp, env, g, _, sr, hw', fun x g1 hq mp1 H1 u1 e1 s1 r1 => ?_⟩
  obtain ⟨p0, hp0, hq⟩ := hq
  obtain ⟨a0, vs0, rfl, ha0, hh0, _, _⟩ := ob_of s1 r1 hp0
  refine ⟨.inl ⟨rfl, vs0, .of hh0⟩, ?_⟩
  refine ⟨mp1, env, g1, _, sr.ext e1 s1, hq, fun y g2 hq2 mp2 H2 u2 e2 s2 r2 => ?_⟩
  obtain ⟨p, hp, hz, hq3⟩ := hq2
  obtain ⟨a1, vs, e, h5, h6, h7, h8⟩ := ob_of s2 (r1.ext e2) hp
  cases e
  have hl := h8.length
  refine ⟨a0, vs, u2, rfl, rfl, h6, by omega, k _ _ (opt_put (opt_add hq3)) mp2 _ .non ((e1.trans e2).trans (.wr (List.mem_of_getElem? h5))) (s2.wr h5 ?_ (h8.append (.cons r2 .nil))) .non⟩
  rw [List.length_append, List.length_singleton]
  omega
def rExtU (K : Fr6) : V → List V → Hp → VK → Prop := fun x vs H Q => rExtend x vs H Q ∨ rExtT K x vs H Q
theorem mt_extU : MtM X "list.extend" (rExtU X.K) := fun pins s σ H x vs v us Q I rx rv h => h.elim (fun h => mt_extend pins s σ H x vs v us Q I rx rv h) (fun h => mt_extT pins s σ H x vs v us Q I rx rv h)
theorem s_ext (g : Good G F d c X) {o a : E} {x y : Expr} {m : Str} {ap pos : Pos} (h : chkE G (.ext o a) c (.Call (.Attribute x m ap) [y] [] pos) = true) (ho : PE X x (tvE X.K F o)) (ha : PE X y (tvE X.K F a)) :
    PE X (.Call (.Attribute x m ap) [y] [] pos) (tvE X.K F (.ext o a)) := by
  simp only [chkE, Bool.and_eq_true] at h
  obtain ⟨⟨⟨⟨⟨h1, h2⟩, h3⟩, _⟩, _⟩, n1⟩ := h
  obtain rfl := of_decide_eq_true h1
  refine PE.weak (pe_bm PySem.F.plainAttrs_list PySem.F.slot_list_extend PySem.F.type_list_extend mt_extU ho (pa_cons ha pa_nil (star_cons n1)) (attr_plain h3)
    (by rw [all_star (by simp [n1])]; rfl) h2 (star_cons n1) rfl) fun σ H Q ⟨mp, env, g, Q0, sr, hw', k⟩ => ?_
  simp only [wpE] at hw'
  refine ⟨mp, env, g, _, sr, hw', fun x g1 hq mp1 H1 u1 e1 s1 r1 => ?_⟩
  obtain ⟨p0, hp0, hq⟩ := hq
  obtain ⟨a0, vs0, rfl, ha0, hh0, _, _⟩ := ob_of s1 r1 hp0
  refine ⟨.inl ⟨rfl, vs0, .of hh0⟩, ?_⟩
  refine ⟨mp1, env, g1, _, sr.ext e1 s1, hq, fun y g2 hq2 mp2 H2 u2 e2 s2 r2 => ?_⟩
  obtain ⟨p, hp, ys, hys, hz, hq3⟩ := hq2
  obtain ⟨a1, vs, e, h5, h6, h7, h8⟩ := ob_of s2 (r1.ext e2) hp
  cases e
  have hl := h8.length
  unfold tseqOf at hys
  split at hys
  · rename_i ys' hd
    cases hys
    obtain ⟨b, us, rfl, f, _, rb⟩ := dr_lst' s2 r2 hd
    have hl2 := rb.length
    refine .inl ⟨a0, b, vs, us, rfl, rfl, h6, f, by omega, k _ _ (opt_put hq3) mp2 _ .non ((e1.trans e2).trans (.wr (List.mem_of_getElem? h5))) (s2.wr h5 ?_ (h8.append rb)) .non⟩
    rw [List.length_append]
    omega
  · rename_i ys' hd
    cases hys
    obtain ⟨b, us, rfl, f, rb⟩ := dr_tup s2 r2 hd
    have hl2 := rb.length
    refine .inr ⟨a0, b, vs, us, rfl, rfl, h6, f.sq, by omega, k _ _ (opt_put hq3) mp2 _ .non ((e1.trans e2).trans (.wr (List.mem_of_getElem? h5))) (s2.wr h5 ?_ (h8.append rb)) .non⟩
    rw [List.length_append]
    omega
  · cases hys
theorem s_pop (g : Good G F d c X) {o : E} {x : Expr} {m : Str} {ap pos : Pos} (h : chkE G (.pop o) c (.Call (.Attribute x m ap) [] [] pos) = true) (ho : PE X x (tvE X.K F o)) :
    PE X (.Call (.Attribute x m ap) [] [] pos) (tvE X.K F (.pop o)) := by
  simp only [chkE, Bool.and_eq_true] at h
  obtain ⟨⟨⟨h1, h2⟩, h3⟩, _⟩ := h
  obtain rfl := of_decide_eq_true h1
  refine PE.weak (pe_bm0 PySem.F.plainAttrs_list PySem.F.slot_list_pop PySem.F.type_list_pop mt_pop ho (attr_plain h3) h2) fun σ H Q ⟨mp, env, g, Q0, sr, hw', k⟩ => ?_
  simp only [wpE] at hw'
  refine ⟨mp, env, g, _, sr, hw', fun x g1 hq mp1 H1 u1 e1 s1 r1 => ?_⟩
  obtain ⟨p, hp, r, hr, hq⟩ := hq
  obtain ⟨a0, vs, rfl, h5, h6, h7, h8⟩ := ob_of s1 r1 hp
  have hl := h8.length
  unfold popW at hr
  split at hr
  · rename_i y hy
    cases hr
    rw [List.getLast?_eq_getElem?] at hy
    obtain ⟨u, hu, ru⟩ := h8.get hy
    have r2 : RpL X.K mp1 H1 p.2.dropLast vs.dropLast := by
      rw [List.dropLast_eq_take, List.dropLast_eq_take, hl]
      exact h8.take _
    refine ⟨.inl ⟨rfl, vs, .of h6⟩, a0, vs, u, rfl, rfl, h6, by rw [← hl]; exact hu, k _ _ (opt_put hq) mp1 _ u (e1.trans (.wr (List.mem_of_getElem? h5))) (s1.wr h5 ?_ r2) (ru.ext (.wr (List.mem_of_getElem? h5)))⟩
    rw [List.length_dropLast]
    omega
  · cases hr
theorem s_popAt (g : Good G F d c X) {o i : E} {x y : Expr} {m : Str} {ap pos : Pos} (h : chkE G (.popAt o i) c (.Call (.Attribute x m ap) [y] [] pos) = true) (ho : PE X x (tvE X.K F o)) (ha : PE X y (tvE X.K F i)) :
    PE X (.Call (.Attribute x m ap) [y] [] pos) (tvE X.K F (.popAt o i)) := by
  simp only [chkE, Bool.and_eq_true] at h
  obtain ⟨⟨⟨⟨⟨h1, h2⟩, h3⟩, _⟩, _⟩, n1⟩ := h
  obtain rfl := of_decide_eq_true h1
  refine PE.weak (pe_bm PySem.F.plainAttrs_list PySem.F.slot_list_pop PySem.F.type_list_pop mt_popAt ho (pa_cons ha pa_nil (star_cons n1)) (attr_plain h3)
    (by rw [all_star (by simp [n1])]; rfl) h2 (star_cons n1) rfl) fun σ H Q ⟨mp, env, g, Q0, sr, hw', k⟩ => ?_
  simp only [wpE] at hw'
  refine ⟨mp, env, g, _, sr, hw', fun x g1 hq mp1 H1 u1 e1 s1 r1 => ?_⟩
  obtain ⟨p0, hp0, hq⟩ := hq
  obtain ⟨a0, vs0, rfl, ha0, hh0, _, _⟩ := ob_of s1 r1 hp0
  refine ⟨.inl ⟨rfl, vs0, .of hh0⟩, ?_⟩
  refine ⟨mp1, env, g1, _, sr.ext e1 s1, hq, fun y g2 hq2 mp2 H2 u2 e2 s2 r2 => ?_⟩
  obtain ⟨p, hp, r, hr, hq3⟩ := hq2
  obtain ⟨a1, vs, e, h5, h6, h7, h8⟩ := ob_of s2 (r1.ext e2) hp
  cases e
  have hl := h8.length
  unfold popAtW at hr
  split at hr
  · rename_i i
    split at hr
    · rename_i hb
      rw [Option.bind_eq_some_iff] at hr
      obtain ⟨j, hj, hr⟩ := hr
      rw [Option.map_eq_some_iff] at hr
      obtain ⟨z, hz, rfl⟩ := hr
      obtain ⟨u, hu, ru⟩ := h8.get hz
      have hj' := (ixN_seq hj).1
      refine ⟨a0, vs, i, j, u, rfl, by rw [r2.intI], h6, hb.1, hb.2, by rw [← hl]; exact hj', hu, k _ _ (opt_put hq3) mp2 _ u ((e1.trans e2).trans (.wr (List.mem_of_getElem? h5))) (s2.wr h5 ?_ (h8.eraseIdx j)) (ru.ext (.wr (List.mem_of_getElem? h5)))⟩
      have := L2.len_erase vs j
      omega
    · cases hr
  · cases hr
/-! ### dicts -/
theorem noSl_of {b : Expr} (h : noSlice b = true) : NoSl b := by
  intro o i
  cases b <;> first | rfl | cases h
theorem hu1 (g : Good G F d c X) : X.A.units + 1 < cLine := by have := g.room.un; omega
theorem s_dnew {pos : Pos} : PE X (.Dict [] [] pos) (tvE X.K F .dnew) := by
  refine PE.weak pe_dnewK fun σ H Q ⟨mp, env, g, Q0, sr, hw, k⟩ => ?_
  simp only [wpE] at hw
  intro p hp
  have s2 := (sr.2.hide (o := .dK []) hp).trackW (w := .dct [] []) (.inl ⟨[], upd_same, rfl, .nil⟩)
  refine k _ _ (opt_add hw) (mp.track p) _ _ ((Ext.new hp).track hp) s2 ?_
  simp only [Rp]
  have hl : mp.ob.length = g.length := sr.2.len
  refine ⟨p, rfl, ?_⟩
  show (mp.ob ++ [p])[g.length]? = some p
  rw [List.getElem?_append_right (by omega), hl]
  simp
theorem s_dix (g : Good G F d c X) {o i : E} {x y : Expr} {pos : Pos} (ho : PE X x (tvE X.K F o)) (hi : PE X y (tvE X.K F i)) (h : noSlice y = true) : PE X (.Subscript x y pos) (tvE X.K F (.dix o i)) := by
  refine PE.weak (pe_dget (hu1 g) ho hi (noSl_of h)) fun σ H Q ⟨mp, env, g, Q0, sr, hw, k⟩ => ?_
  simp only [wpE] at hw
  refine ⟨mp, env, g, _, sr, hw, fun x g1 hq mp1 H1 u1 e1 s1 r1 => ?_⟩
  refine ⟨mp1, env, g1, _, sr.ext e1 s1, hq, fun y g2 hq2 mp2 H2 u2 e2 s2 r2 => ?_⟩
  obtain ⟨z, hz, hq3⟩ := hq2
  unfold dixW at hz
  rw [Option.bind_eq_some_iff] at hz
  obtain ⟨dd, h1, hz⟩ := hz
  rw [Option.bind_eq_some_iff] at hz
  obtain ⟨ky, h2, hz⟩ := hz
  obtain ⟨a, kvs, rfl, hr, hk, rl⟩ := dctOf_at s2 (r1.ext e2) h1
  rw [hk] at hz
  obtain ⟨v, hv, rv⟩ := (dfind_rp rl).1 _ hz
  exact ⟨a, v, rfl, .inl ⟨kvs, ky, hr, keyOf_rp r2 h2, hv.symm⟩, k z g2 hq3 mp2 H2 v (e1.trans e2) s2 rv⟩
theorem s_din (g : Good G F d c X) {neg : Bool} {i o : E} {op : CmpOp} {l r : Expr} {pos : Pos} (hi : PE X l (tvE X.K F i)) (ho : PE X r (tvE X.K F o)) (h : dinB neg op = true) (hs : noSet r = true) :
    PE X (.Compare l [op] [r] pos) (tvE X.K F (.din neg i o)) := by
  refine PE.weak (pe_cmpR (op_din (hu1 g) h) hi ho (noMark hs)) fun σ H Q ⟨mp, env, g, Q0, sr, hw, k⟩ => ?_
  simp only [wpE] at hw
  refine ⟨mp, env, g, _, sr, hw, fun y g1 hq mp1 H1 u1 e1 s1 r1 => ?_⟩
  refine ⟨mp1, env, g1, _, sr.ext e1 s1, hq, fun x g2 hq2 mp2 H2 u2 e2 s2 r2 => ?_⟩
  obtain ⟨b, hb, hq3⟩ := hq2
  exact dinW_sound s2 (r1.ext e2) r2 hb (k _ g2 hq3 mp2 H2 _ (e1.trans e2) s2 (.bl _))
theorem s_dinT (g : Good G F d c X) {neg : Bool} {i o : E} {op : CmpOp} {l r : Expr} {pos : Pos} (hi : PE X l (tvE X.K F i)) (ho : PE X r (tvE X.K F o)) (h : dinB neg op = true) (hs : noSet r = true) :
    PT X (.Compare l [op] [r] pos) (tvT X.K F (.din neg i o)) := by
  refine PT.weak (pt_cmpR (op_din (hu1 g) h) hi ho (noMark hs)) fun σ H Q ⟨mp, env, g, Q0, sr, hw, k⟩ => ?_
  simp only [wpT] at hw
  refine ⟨mp, env, g, _, sr, hw, fun y g1 hq mp1 H1 u1 e1 s1 r1 => ?_⟩
  refine ⟨mp1, env, g1, _, sr.ext e1 s1, hq, fun x g2 hq2 mp2 H2 u2 e2 s2 r2 => ?_⟩
  obtain ⟨b, hb, hq3⟩ := hq2
  refine dinW_sound s2 (r1.ext e2) r2 hb ?_
  exact ⟨_, rfl, k _ g2 hq3 mp2 H2 (e1.trans e2) s2⟩
theorem s_dget (g : Good G F d c X) {o i z : E} {x y t : Expr} {m : Str} {ap pos : Pos} (h : chkE G (.dget o i z) c (.Call (.Attribute x m ap) [y, t] [] pos) = true) (ho : PE X x (tvE X.K F o)) (hi : PE X y (tvE X.K F i)) (hz : PE X t (tvE X.K F z)) :
    PE X (.Call (.Attribute x m ap) [y, t] [] pos) (tvE X.K F (.dget o i z)) := by
  simp only [chkE, Bool.and_eq_true] at h
  obtain ⟨⟨⟨⟨⟨⟨⟨h1, h2⟩, h3⟩, _⟩, _⟩, n1⟩, _⟩, n2⟩ := h
  obtain rfl := of_decide_eq_true h1
  have e1 : backTo pos (starEach [y, t] X.env) = [(false, eval y X.env), (false, eval t X.env)] := by rw [star_cons n1, star_cons n2]; rfl
  refine PE.weak (pe_dget2 (hu1 g) ho hi hz ⟨attr_plain h3, by rw [all_star (by simp [n1, n2])]; rfl, h2, e1⟩) fun σ H Q ⟨mp, env, g, Q0, sr, hw, k⟩ => ?_
  simp only [wpE] at hw
  refine ⟨mp, env, g, _, sr, hw, fun x g1 hq mp1 H1 u1 e1 s1 r1 => ?_⟩
  obtain ⟨d1, hd1, hq⟩ := hq
  obtain ⟨a, kvs, rfl, hr, _, _⟩ := dctOf_at s1 r1 hd1
  refine ⟨a, rfl, .inl ⟨kvs, hr⟩, ?_⟩
  refine ⟨mp1, env, g1, _, sr.ext e1 s1, hq, fun y g2 hq2 mp2 H2 u2 e2 s2 r2 => ?_⟩
  refine ⟨mp2, env, g2, _, (sr.ext e1 s1).ext e2 s2, hq2, fun z g3 hq3 mp3 H3 u3 e3 s3 r3 => ?_⟩
  obtain ⟨v, hv, hq4⟩ := hq3
  unfold dgetW at hv
  rw [Option.bind_eq_some_iff] at hv
  obtain ⟨dd, h4, hv⟩ := hv
  rw [Option.map_eq_some_iff] at hv
  obtain ⟨ky, h5, rfl⟩ := hv
  obtain ⟨b, kvs2, eb, hr2, hk2, rl⟩ := dctOf_at s3 ((r1.ext e2).ext e3) h4
  cases eb
  obtain ⟨f1, f2⟩ := dfind_rp (k := ky) rl
  rw [hk2] at hq4
  refine ⟨valV kvs2 ky, .inl ⟨kvs2, ky, hr2, keyOf_rp (r2.ext e3) h5, rfl⟩, ?_⟩
  cases hf : dfind (kvs2.map (·.1)) dd.2 ky with
  | none =>
    rw [f2 hf]
    rw [hf] at hq4
    exact k _ g3 hq4 mp3 H3 _ ((e1.trans e2).trans e3) s3 r3
  | some w =>
    obtain ⟨v', hv', rv⟩ := f1 w hf
    rw [hv']
    rw [hf] at hq4
    exact k _ g3 hq4 mp3 H3 _ ((e1.trans e2).trans e3) s3 rv
end
end Z
namespace Z
open PySem PySem.Spec L2
open PyProof.Rows hiding St
section
variable {X : Cx} {G : Globs} {F : FSem} {d : Nat} {c : Ctx}
/-! ### lists that are made -/
theorem n_lst {a : E} {es : List Expr} {pos : Pos} (ha : PA X es (tvA X.K F a)) : PE X (.List es pos) (tvN X.K F (.lst a)) := by
  refine PE.weak (pe_lst ha) fun σ H Q ⟨mp, env, g, Q0, sr, hw, k⟩ => ?_
  simp only [wpN] at hw
  refine ⟨mp, env, g, _, sr, hw, fun xs g1 hq mp1 H1 us e1 s1 r1 => ?_⟩
  have hl := r1.length
  refine ⟨by have := hq.1; omega, fun p hp => ?_⟩
  obtain ⟨e2, s2, r2⟩ := new_lst s1 r1 hp
  exact k _ g1 hq.2 mp1 _ p us (e1.trans e2) s2 (e1.free s1 hp) upd_same (by have := hq.1; omega) r2
theorem lseq_at {mp : M} {g : CH} {H : Hp} {x : W} {u : V} {xs : List W} (s : Sim X.K mp g H) (r : Rp X.K mp H x u) (e : lseqOf g x = some xs) : ∃ a vs, u = .ref a ∧ H a = some (.lst vs) ∧ vs.length ≤ sizeLine ∧ RpL X.K mp H xs vs := by
  unfold lseqOf at e
  split at e
  · rename_i ys h
    cases e
    exact dr_lst' s r h
  · cases e
theorem n_lcat {a b : E} {l r : Expr} {pos : Pos} (ha : PE X l (tvE X.K F a)) (hb : PE X r (tvE X.K F b)) : PE X (.BinOp l .Add r pos) (tvN X.K F (.lcat a b)) := by
  refine PE.weak (pe_op op_cat ha hb) fun σ H Q ⟨mp, env, g, Q0, sr, hw, k⟩ => ?_
  simp only [wpN] at hw
  refine ⟨mp, env, g, _, sr, hw, fun x g1 hq mp1 H1 u1 e1 s1 r1 => ?_⟩
  refine ⟨mp1, env, g1, _, sr.ext e1 s1, hq, fun y g2 hq2 mp2 H2 u2 e2 s2 r2 => ?_⟩
  obtain ⟨xs, hx, ys, hy, hz, hq3⟩ := hq2
  obtain ⟨p, vs, rfl, h1, _, r3⟩ := lseq_at s2 (r1.ext e2) hx
  obtain ⟨q, us, rfl, h2, _, r4⟩ := lseq_at s2 r2 hy
  have l1 := r3.length
  have l2 := r4.length
  refine ⟨p, q, vs, us, rfl, rfl, h1, h2, by omega, fun t ht => ?_⟩
  obtain ⟨e3, s3, r5⟩ := new_lst s2 (r3.append r4) ht
  exact k _ g2 hq3 mp2 _ t _ ((e1.trans e2).trans e3) s3 ((e1.trans e2).free s2 ht) upd_same (by rw [List.length_append]; omega) r5
theorem RpL.rep {K : Fr6} {mp : M} {H : Hp} {xs : List W} {us : List V} (h : RpL K mp H xs us) : ∀ k : Nat, RpL K mp H (List.replicate k xs).flatten (List.replicate k us).flatten
  | 0 => .nil
  | k + 1 => by
    rw [List.replicate_succ, List.replicate_succ, List.flatten_cons, List.flatten_cons]
    exact h.append (RpL.rep h k)
theorem n_lrep {a b : E} {l r : Expr} {pos : Pos} (ha : PE X l (tvE X.K F a)) (hb : PE X r (tvE X.K F b)) : PE X (.BinOp l .Mult r pos) (tvN X.K F (.lrep a b)) := by
  refine PE.weak (pe_op op_rep ha hb) fun σ H Q ⟨mp, env, g, Q0, sr, hw, k⟩ => ?_
  simp only [wpN] at hw
  refine ⟨mp, env, g, _, sr, hw, fun x g1 hq mp1 H1 u1 e1 s1 r1 => ?_⟩
  refine ⟨mp1, env, g1, _, sr.ext e1 s1, hq, fun y g2 hq2 mp2 H2 u2 e2 s2 r2 => ?_⟩
  obtain ⟨xs, hx, hq2⟩ := hq2
  obtain ⟨p, vs, rfl, h1, _, r3⟩ := lseq_at s2 (r1.ext e2) hx
  have l1 := r3.length
  cases y with
  | int n =>
    obtain ⟨⟨b1, b2⟩, hz, hq3⟩ := hq2
    have r4 := r3.rep n.toNat
    refine ⟨p, n, vs, rfl, r2.intI, h1, b1, b2, by rw [← l1]; exact hz, fun t ht => ?_⟩
    obtain ⟨e3, s3, r5⟩ := new_lst s2 r4 ht
    refine k _ g2 hq3 mp2 _ t _ ((e1.trans e2).trans e3) s3 ((e1.trans e2).free s2 ht) upd_same ?_ r5
    have l2 : (List.replicate n.toNat vs).flatten.length = n.toNat * vs.length := by simp
    rw [l2, Nat.mul_comm, ← l1]; exact hz
  | _ => exact hq2.elim
theorem n_lsl {a lo hi : E} {x : Expr} {l h : Option Expr} {p2 pos : Pos} (ha : PE X x (tvE X.K F a)) (hl : PO X l (tvP X.K F lo)) (hh : PO X h (tvP X.K F hi)) :
    PE X (.Subscript x (.Slice l h none p2) pos) (tvN X.K F (.lsl a lo hi)) := by
  refine PE.weak (pe_slice sl_list ha hl hh) fun σ H Q ⟨mp, env, g, Q0, sr, hw, k⟩ => ?_
  simp only [wpN] at hw
  refine ⟨mp, env, g, _, sr, hw, fun x g1 hq mp1 H1 u1 e1 s1 r1 => ?_⟩
  refine ⟨mp1, env, g1, _, sr.ext e1 s1, hq, fun y g2 hq2 mp2 H2 o1 e2 s2 p1 => ?_⟩
  refine ⟨mp2, env, g2, _, (sr.ext e1 s1).ext e2 s2, hq2, fun z g3 hq3 mp3 H3 o2 e3 s3 p2 => ?_⟩
  obtain ⟨ys, hy, hq3⟩ := hq3
  have r3 := (r1.ext e2).ext e3
  have e13 := (e1.trans e2).trans e3
  unfold lslW at hy
  split at hy
  · rename_i xs hd
    obtain ⟨b, vs, rfl, f, hz, r⟩ := dr_lst s3 r3 hd
    have hc := cutW_of p1 p2 hy
    rw [r.length] at hc
    refine ⟨b, vs, rfl, f, fun t ht => ?_⟩
    have r4 : RpL X.K mp3 H3 ys (cutV vs o1 o2) := by rw [hc]; exact (r.drop _).take _
    obtain ⟨e4, s4, r5⟩ := new_lst s3 r4 ht
    exact k _ g3 hq3 mp3 _ t _ (e13.trans e4) s4 (e13.free s3 ht) upd_same (Nat.le_trans (cutV_length _ _ _) hz) r5
  · cases hy
theorem n_list (g : Good G F d c X) {a : E} {x : Str} {y : Expr} {p pos : Pos} (h1 : bltB G c.sc x "list" = true) (hn : noStar y = true) (ha : PE X y (tvE X.K F a)) : PE X (.Call (.Name x p) [y] [] pos) (tvN X.K F (.n1 .list a)) := by
  obtain ⟨rfl, hg, hf⟩ := blt_of h1
  refine PE.weak (pe_callTy call_list_of (g.gl hg) (g.facts.free _ hf) (by decide +kernel : bootBuiltins "list" = some (.type "list")) (pa_cons ha pa_nil (star_cons hn)) (by decide +kernel) (by decide +kernel) (star_cons hn) rfl) fun σ H Q ⟨mp, env, g, Q0, sr, hw, k⟩ => ?_
  simp only [wpN] at hw
  refine ⟨mp, env, g, _, sr, hw, fun x g1 hq mp1 H1 u1 e1 s1 r1 => ?_⟩
  obtain ⟨xs, hx, hq⟩ := hq
  have fin : ∀ {vs : List V}, vs.length ≤ sizeLine → RpL X.K mp1 H1 xs vs → ∀ l, H1 l = none → Q (.ref l) (upd H1 l (.lst vs)) := fun {vs} hz r l hl => by
    obtain ⟨e2, s2, r2⟩ := new_lst s1 r hl
    exact k _ g1 hq mp1 _ l _ (e1.trans e2) s2 (e1.free s1 hl) upd_same hz r2
  unfold seqOf at hx
  split at hx
  · rename_i xs' hd
    cases hx
    obtain ⟨b, vs, rfl, f, r⟩ := dr_tup s1 r1 hd
    exact ⟨b, vs, rfl, .inr f.sq, fin f.1 r⟩
  · rename_i xs' hd
    cases hx
    have hx := dr_flat s1 hd (by intro _ z; cases z) (by intro _ _ z; cases z) (by intro _ z; cases z)
    subst hx
    obtain ⟨b, vs, rfl, f, r⟩ := r1.lckI
    exact ⟨b, vs, rfl, .inl f.sq, fin f.1 r⟩
  · rename_i xs' hd
    cases hx
    obtain ⟨b, vs, rfl, f, hz, r⟩ := dr_lst s1 r1 hd
    exact ⟨b, vs, rfl, .inl f, fin hz r⟩
  · cases hx
theorem sortInts_of {ns ns' : List Int} (h : ns'.Perm ns) (hp : ns'.Pairwise (· ≤ ·)) : sortInts ns = ns' := by
  unfold sortInts
  have h1 : (ns.mergeSort fun a b => decide (a ≤ b)).Perm ns' := (List.mergeSort_perm ns _).trans h.symm
  refine List.Perm.eq_of_pairwise (fun a b _ _ h1 h2 => Int.le_antisymm h1 h2) ?_ hp h1
  have := List.pairwise_mergeSort (le := fun a b : Int => decide (a ≤ b)) (fun a b c h1 h2 => by simp at *; omega) (fun a b => by simp; omega) ns
  exact this.imp fun h => by simpa using h
theorem n_sorted (g : Good G F d c X) {a : E} {x : Str} {y : Expr} {p pos : Pos} (h1 : bltB G c.sc x "sorted" = true) (hn : noStar y = true) (ha : PE X y (tvE X.K F a)) : PE X (.Call (.Name x p) [y] [] pos) (tvN X.K F (.n1 .sorted a)) := by
  obtain ⟨rfl, hg, hf⟩ := blt_of h1
  refine PE.weak (pe_callB cr_sortedI (g.gl hg) (g.facts.free _ hf) boot_sorted (pa_cons ha pa_nil (star_cons hn)) (by decide +kernel) (by decide +kernel) (star_cons hn) rfl) fun σ H Q ⟨mp, env, g, Q0, sr, hw, k⟩ => ?_
  simp only [wpN] at hw
  refine ⟨mp, env, g, _, sr, hw, fun x g1 hq mp1 H1 u1 e1 s1 r1 => ?_⟩
  obtain ⟨xs, hx, ns, hns, hq⟩ := hq
  obtain ⟨b, vs, rfl, f, hz, r⟩ := lseq_at s1 r1 hx
  rw [ints_of hns] at r
  obtain rfl := RpL.ints r
  refine ⟨b, ns, rfl, .of f, fun ns' t hp hs ht => ?_⟩
  rw [sortInts_of hp hs] at hq
  have hl : (ns'.map V.int).length ≤ sizeLine := by
    rw [List.length_map, hp.length_eq]
    rwa [List.length_map] at hz
  obtain ⟨e2, s2, r2⟩ := new_lst s1 (RpL.of_ints ns') ht
  exact k _ g1 hq mp1 _ t _ (e1.trans e2) s2 (e1.free s1 ht) upd_same hl r2
theorem inls_of : ∀ {ks : List Key} {ns : List Int}, inlsOf ks = some ns → ks = ns.map Sum.inl
  | [], ns, h => by cases h; rfl
  | .inl i :: ks, ns, h => by
    simp only [inlsOf, Option.map_eq_some_iff] at h
    obtain ⟨ms, h1, rfl⟩ := h
    rw [inls_of h1]; rfl
  | .inr x :: ks, ns, h => by simp [inlsOf] at h
theorem n_dsort (g : Good G F d c X) {o : E} {x : Str} {y : Expr} {p pos : Pos} (h1 : bltB G c.sc x "sorted" = true) (hn : noStar y = true) (ha : PE X y (tvE X.K F o)) : PE X (.Call (.Name x p) [y] [] pos) (tvN X.K F (.dsort o)) := by
  obtain ⟨rfl, hg, hf⟩ := blt_of h1
  refine PE.weak (pe_callB (call_sortedDI g.calm) (g.gl hg) (g.facts.free _ hf) boot_sorted (pa_cons ha pa_nil (star_cons hn)) (by decide +kernel) (by decide +kernel) (star_cons hn) rfl) fun σ H Q ⟨mp, env, g, Q0, sr, hw, k⟩ => ?_
  simp only [wpN] at hw
  refine ⟨mp, env, g, _, sr, hw, fun x g1 hq mp1 H1 u1 e1 s1 r1 => ?_⟩
  obtain ⟨dd, hd, ns, hns, hl, hq⟩ := hq
  obtain ⟨a, kvs, rfl, hr, hk, rl⟩ := dctOf_at s1 r1 hd
  refine ⟨a, kvs, ns, rfl, hr, by rw [← hk]; exact inls_of hns, hl, fun ns' t hp hs ht => ?_⟩
  rw [sortInts_of hp hs] at hq
  have hl : (ns'.map V.int).length ≤ sizeLine := by
    rw [List.length_map, hp.length_eq, sizeLine_eq]
    omega
  obtain ⟨e2, s2, r2⟩ := new_lst s1 (RpL.of_ints ns') ht
  exact k _ g1 hq mp1 _ t _ (e1.trans e2) s2 (e1.free s1 ht) upd_same hl r2
theorem insS_mem {k j : Int} : ∀ {xs : List Int}, j ∈ insS k xs ↔ j = k ∨ j ∈ xs
  | [] => by simp [insS]
  | x :: xs => by
    unfold insS
    split
    · simp
    · split
      · rename_i h
        subst h
        simp
      · rw [List.mem_cons, insS_mem (xs := xs), List.mem_cons]
        constructor
        · rintro (h | h | h) <;> simp [h]
        · rintro (h | h | h) <;> simp [h]
theorem insS_up {k : Int} : ∀ {xs : List Int}, xs.Pairwise (· < ·) → (insS k xs).Pairwise (· < ·)
  | [], _ => by simp [insS]
  | x :: xs, h => by
    obtain ⟨h1, h2⟩ := List.pairwise_cons.mp h
    unfold insS
    split
    · rename_i q
      refine List.pairwise_cons.mpr ⟨fun y hy => ?_, h⟩
      rcases List.mem_cons.mp hy with e | hy
      · rw [e]; exact q
      · exact Int.lt_trans q (h1 y hy)
    · split
      · exact h
      · rename_i q1 q2
        refine List.pairwise_cons.mpr ⟨fun y hy => ?_, insS_up h2⟩
        rcases insS_mem.mp hy with e | hy
        · rw [e]; omega
        · exact h1 y hy
theorem setInts_up : ∀ ns : List Int, (setInts ns).Pairwise (· < ·)
  | [] => .nil
  | n :: ns => insS_up (setInts_up ns)
theorem setInts_mem {k : Int} : ∀ {ns : List Int}, k ∈ setInts ns ↔ k ∈ ns
  | [] => Iff.rfl
  | n :: ns => by
    rw [show setInts (n :: ns) = insS n (setInts ns) from rfl, insS_mem, setInts_mem, List.mem_cons]
theorem up_ext : ∀ {xs ys : List Int}, xs.Pairwise (· < ·) → ys.Pairwise (· < ·) → (∀ k, k ∈ xs ↔ k ∈ ys) → xs = ys := fun h1 h2 h => by
  refine List.Perm.eq_of_pairwise (fun a b _ _ h1 h2 => absurd (Int.lt_trans h1 h2) (Int.lt_irrefl _)) h1 h2 ?_
  refine (List.perm_ext_iff_of_nodup (h1.imp fun h e => ?_) (h2.imp fun h e => ?_)).mpr h
  · rw [e] at h; exact Int.lt_irrefl _ h
  · rw [e] at h; exact Int.lt_irrefl _ h
theorem n_sset (g : Good G F d c X) {a : E} {x r : Str} {y : Expr} {p p2 pos pos2 : Pos} (h1 : bltB G c.sc x "sorted" = true) (h2 : bltB G c.sc r "set" = true) (hn : noStar y = true) (ha : PE X y (tvE X.K F a)) :
    PE X (.Call (.Name x p) [.Call (.Name r p2) [y] [] pos2] [] pos) (tvN X.K F (.sset a)) := by
  obtain ⟨rfl, hg, hf⟩ := blt_of h1
  obtain ⟨rfl, hg2, hf2⟩ := blt_of h2
  have hs := pe_callTy (pos := pos2) (p := p2) (cr_setI g.calm) (g.gl hg2) (g.facts.free _ hf2) PyProof.Rows.boot_set (pa_cons ha pa_nil (star_cons hn)) (by decide +kernel) (by decide +kernel) (star_cons hn) rfl
  refine PE.weak (pe_callB (cr_sortedSet g.calm) (g.gl hg) (g.facts.free _ hf) boot_sorted (pa_cons hs pa_nil (star_cons rfl)) (by decide +kernel) (by decide +kernel) (star_cons rfl) rfl) fun σ H Q ⟨mp, env, g, Q0, sr, hw, k⟩ => ?_
  simp only [wpN] at hw
  refine ⟨mp, env, g, _, sr, hw, fun x g1 hq mp1 H1 u1 e1 s1 r1 => ?_⟩
  obtain ⟨xs, hx, ns, hns, ⟨hl1, hl2⟩, hq⟩ := hq
  obtain ⟨b, vs, rfl, f, hz, r⟩ := lseq_at s1 r1 hx
  rw [ints_of hns] at r
  obtain rfl := RpL.ints r
  refine ⟨b, ns, rfl, .inl (.of f), hl1, fun a0 c0 L ha0 nd hm hc => ?_⟩
  have el : c0 = (setInts ns).length := by
    rw [← hc]
    refine (List.Perm.length_eq ((List.perm_ext_iff_of_nodup nd ((setInts_up ns).imp fun h e => ?_)).mpr fun k => by rw [hm k, setInts_mem]))
    rw [e] at h; exact Int.lt_irrefl _ h
  refine ⟨a0, _, c0, rfl, upd_same, by omega, fun ns' t hu hm' _ ht => ?_⟩
  obtain rfl : ns' = setInts ns := up_ext hu (setInts_up ns) fun k => by rw [hm' k, decide_eq_true_eq, setInts_mem]
  have e2 : Ext mp1 H1 mp1 (upd H1 a0 (SetO X.w a0 (fun j => decide (j ∈ ns)) c0)) := .new ha0
  have s2 := s1.new (o := SetO X.w a0 (fun j => decide (j ∈ ns)) c0) ha0
  have hl : ((setInts ns).map V.int).length ≤ sizeLine := by
    rw [List.length_map, sizeLine_eq]; omega
  obtain ⟨e3, s3, r3⟩ := new_lst s2 (RpL.of_ints (setInts ns)) ht
  exact k _ g1 hq mp1 _ t _ ((e1.trans e2).trans e3) s3 ((e1.trans e2).free s2 ht) upd_same hl r3
/-! ### ranges -/
theorem rangeW_length : ∀ (n : Nat) (lo : Int), (rangeW lo n).length = n
  | 0, _ => rfl
  | n + 1, lo => by simp only [rangeW, List.length_cons, rangeW_length n]
theorem rangeW_get : ∀ (n : Nat) (lo : Int) (i : Nat), i < n → (rangeW lo n)[i]? = some (.int (lo + (i : Nat)))
  | 0, _, _, h => by omega
  | n + 1, lo, 0, _ => by simp [rangeW]
  | n + 1, lo, i + 1, h => by
    simp only [rangeW, List.getElem?_cons_succ]
    rw [rangeW_get n (lo + 1) i (by omega)]
    congr 2
    omega
theorem rangeW_ints : ∀ (n : Nat) (lo : Int), rangeW lo n = ((List.range n).map fun i => lo + ((i : Nat) : Int)).map W.int := by
  intro n lo
  apply List.ext_getElem?
  intro i
  by_cases h : i < n
  · rw [rangeW_get n lo i h]
    simp [h]
  · rw [List.getElem?_eq_none (by rw [rangeW_length]; omega), List.getElem?_eq_none (by simp; omega)]
theorem rgV_ints (a b : Int) : rgV a b = ((List.range (b - a).toNat).map fun i => a + ((i : Nat) : Int)).map V.int := by
  unfold rgV
  rw [List.map_map]
  rfl
theorem rng_of {x y : W} {xs : List W} (h : rngW x y = some xs) : ∃ i j, x = .int i ∧ y = .int j ∧ rngOk i j ∧ xs = rangeW i (j - i).toNat := by
  unfold rngW at h
  split at h
  · obtain ⟨h1, h2⟩ := ite_some h
    exact ⟨_, _, rfl, rfl, h1, h2.symm⟩
  · cases h
theorem n_lrng {Q : VK} {mp mp1 : M} {g1 : CH} {H H1 : Hp} {i j : Int} (e1 : Ext mp H mp1 H1) (s1 : Sim X.K mp1 g1 H1) (hr : rngOk i j)
    (k : ∀ mp' H' a vs, Ext mp H mp' H' → Sim X.K (mp'.hide a) g1 H' → H a = none → H' a = some (.lst vs) → vs.length ≤ sizeLine → RpL X.K (mp'.hide a) H' (rangeW i (j - i).toNat) vs → Q (.ref a) H') :
    RgOk i j ∧ ∀ q, H1 q = none → Q (.ref q) (upd H1 q (.lst (rgV i j))) := by
  refine ⟨hr, fun q hq => ?_⟩
  obtain ⟨e2, s2, r2⟩ := new_lst s1 (RpL.of_ints ((List.range (j - i).toNat).map fun k => i + ((k : Nat) : Int))) hq
  rw [rgV_ints]
  refine k mp1 _ q _ (e1.trans e2) s2 (e1.free s1 hq) upd_same ?_ (by rw [rangeW_ints]; exact r2)
  rw [List.length_map, List.length_map, List.length_range]
  have : (sizeLine : Nat) = 16777216 := sizeLine_eq
  have := hr.2.2.2.2
  omega
theorem n_lrng1 (g : Good G F d c X) {a : E} {x r : Str} {y : Expr} {p p2 pos pos2 : Pos} (h1 : bltB G c.sc x "list" = true) (h2 : bltB G c.sc r "range" = true) (hn : noStar y = true) (ha : PE X y (tvE X.K F a)) :
    PE X (.Call (.Name x p) [.Call (.Name r p2) [y] [] pos2] [] pos) (tvN X.K F (.lrng1 a)) := by
  obtain ⟨rfl, hg, hf⟩ := blt_of h1
  obtain ⟨rfl, hg2, hf2⟩ := blt_of h2
  refine PE.weak (pe_listRg g.calm (g.gl hg) (g.facts.free _ hf) (prg_1 (g.gl hg2) (g.facts.free _ hf2) ha (star_cons hn)) rfl) fun σ H Q ⟨mp, env, g, Q0, sr, hw, k⟩ => ?_
  simp only [wpN] at hw
  refine ⟨mp, env, g, _, sr, hw, fun x g1 hq mp1 H1 u1 e1 s1 r1 => ?_⟩
  obtain ⟨xs, hx, hq⟩ := hq
  obtain ⟨i, j, hi, rfl, hr, rfl⟩ := rng_of hx
  cases hi
  exact ⟨j, r1.intI, n_lrng e1 s1 hr fun mp' H' t vs => k _ g1 hq mp' H' t vs⟩
theorem n_lrng2 (g : Good G F d c X) {a b : E} {x r : Str} {y z : Expr} {p p2 pos pos2 : Pos} (h1 : bltB G c.sc x "list" = true) (h2 : bltB G c.sc r "range" = true) (hn : noStar y = true) (hn2 : noStar z = true) (ha : PE X y (tvE X.K F a)) (hb : PE X z (tvE X.K F b)) :
    PE X (.Call (.Name x p) [.Call (.Name r p2) [y, z] [] pos2] [] pos) (tvN X.K F (.lrng2 a b)) := by
  obtain ⟨rfl, hg, hf⟩ := blt_of h1
  obtain ⟨rfl, hg2, hf2⟩ := blt_of h2
  refine PE.weak (pe_listRg g.calm (g.gl hg) (g.facts.free _ hf) (prg_2 (g.gl hg2) (g.facts.free _ hf2) ha hb (star_cons hn) (star_cons hn2) (plain_star (by simp [hn2]))) rfl) fun σ H Q ⟨mp, env, g, Q0, sr, hw, k⟩ => ?_
  simp only [wpN] at hw
  refine ⟨mp, env, g, _, sr, hw, fun x g1 hq mp1 H1 u1 e1 s1 r1 => ?_⟩
  refine ⟨mp1, env, g1, _, sr.ext e1 s1, hq, fun y g2 hq2 mp2 H2 u2 e2 s2 r2 => ?_⟩
  obtain ⟨xs, hx, hq2⟩ := hq2
  obtain ⟨i, j, rfl, rfl, hr, rfl⟩ := rng_of hx
  exact ⟨i, j, (r1.ext e2).intI, r2.intI, n_lrng (e1.trans e2) s2 hr fun mp' H' t vs => k _ g2 hq2 mp' H' t vs⟩
/-! ### what a for walks -/
theorem gives_tup {K : Fr6} {mp : M} {H : Hp} {a : Addr} {vs : List V} {xs : List W} (f : FT K mp H a vs) (r : RpL K mp H xs vs) : Gives K (Itt K a) mp H none xs := by
  refine ⟨by rw [r.length]; exact f.1, fun mp2 g2 H2 e s _ i hi => ?_, fun mp2 g2 H2 e s _ => ?_⟩
  · have f2 := f.ext0 e
    have r2 := r.ext0 e
    have hl := r.length
    refine ⟨walk_tup.goes i H2 (by omega) f2.sq, fun x H3 y => ?_⟩
    obtain ⟨rfl, hx⟩ := walk_tup.yields i H2 x H3 (by omega) f2.sq y
    obtain ⟨w, h1, h2⟩ := r2.get' hx
    exact ⟨.refl, s, w, h1, h2⟩
  · rw [r.length]
    exact walk_tup.stops H2 (f.ext0 e).sq
theorem gives_lstF {K : Fr6} {mp : M} {H : Hp} {a : Addr} {vs : List V} {xs : List W} (hz : vs.length ≤ sizeLine) (f : ∀ mp2 H2, Ext0 mp H mp2 H2 → SqL K H2 a vs) (r : RpL K mp H xs vs) : Gives K (Itl K a) mp H none xs := by
  refine ⟨by rw [r.length]; exact hz, fun mp2 g2 H2 e s _ i hi => ?_, fun mp2 g2 H2 e s _ => ?_⟩
  · have r2 := r.ext0 e
    have hl := r.length
    refine ⟨walk_list.goes i H2 (by omega) (f _ _ e), fun x H3 y => ?_⟩
    obtain ⟨rfl, hx⟩ := walk_list.yields i H2 x H3 (by omega) (f _ _ e) y
    obtain ⟨w, h1, h2⟩ := r2.get' hx
    exact ⟨.refl, s, w, h1, h2⟩
  · rw [r.length]
    exact walk_list.stops H2 (f _ _ e)
theorem gives_ob {K : Fr6} {mp : M} {H : Hp} {a : Addr} {vs : List V} {xs : List W} {n : Nat} (hz : vs.length ≤ sizeLine) (hn : mp.ob[n]? = some a) (r : RpL K mp H xs vs) : Gives K (Itl K a) mp H (some n) xs := by
  have go : ∀ {mp2 : M} {g2 : CH} {H2 : Hp}, Ext0 mp H mp2 H2 → Sim K mp2 g2 H2 → stays g2 (some n) xs → ∃ vs2, H2 a = some (.lst vs2) ∧ RpL K mp2 H2 xs vs2 := fun {mp2 g2 H2} e s st => by
    obtain ⟨b, h1, vs2, h2, _, h3⟩ := s.at_ (show nth g2 n = some (.lst xs) from st)
    obtain ⟨l, hl⟩ := e.pre
    have h4 : mp2.ob[n]? = some a := by
      rw [← hl, List.getElem?_append_left (by exact (List.getElem?_eq_some_iff.mp hn).1)]; exact hn
    rw [h4] at h1; cases h1
    exact ⟨vs2, h2, h3⟩
  refine ⟨by rw [r.length]; exact hz, fun mp2 g2 H2 e s st i hi => ?_, fun mp2 g2 H2 e s st => ?_⟩
  · obtain ⟨vs2, h2, r2⟩ := go e s st
    have hl := r2.length
    refine ⟨(walk_list (xs := vs2)).goes i H2 (by omega) (.of h2), fun x H3 y => ?_⟩
    obtain ⟨rfl, hx⟩ := (walk_list (xs := vs2)).yields i H2 x H3 (by omega) (.of h2) y
    obtain ⟨w, h1, h2⟩ := r2.get' hx
    exact ⟨.refl, s, w, h1, h2⟩
  · obtain ⟨vs2, h2, r2⟩ := go e s st
    rw [r2.length]
    exact walk_list.stops H2 (.of h2)
theorem gives_str {K : Fr6} {mp : M} {H : Hp} {x : Str} (h : StrOk x) : Gives K (Its x) mp H none (x.cps.toList.map chr1) := by
  have hl : (x.cps.toList.map chr1).length = x.cps.size := by simp
  refine ⟨by rw [hl]; exact h.1, fun mp2 g2 H2 e s _ i hi => ?_, fun mp2 g2 H2 e s _ => ?_⟩
  · rw [hl] at hi
    refine ⟨walk_str.goes i H2 hi trivial, fun v H3 y => ?_⟩
    obtain ⟨rfl, c, hc, rfl⟩ := walk_str.yields i H2 v H3 hi trivial y
    have hc' : x.cps.toList[i]? = some c := by rw [Array.getElem?_toList]; exact hc
    refine ⟨.refl, s, chr1 c, by rw [List.getElem?_map, hc']; rfl, .str ?_⟩
    refine strOk_sub (l := [c]) h (fun d hd => by rw [List.mem_singleton.mp hd]; exact List.mem_of_getElem? hc') ?_
    have e1 : x.cps.toList.length = x.cps.size := Array.length_toList
    show 1 ≤ x.cps.toList.length
    omega
  · rw [hl]
    exact walk_str.stops H2 trivial
theorem gives_rng {K : Fr6} {mp : M} {H : Hp} {lo : Int} {n : Nat} (h : n ≤ sizeLine) : Gives K (Itr lo n) mp H none (rangeW lo n) := by
  refine ⟨by rw [rangeW_length]; exact h, fun mp2 g2 H2 e s _ i hi => ?_, fun mp2 g2 H2 e s _ => ?_⟩
  · rw [rangeW_length] at hi
    refine ⟨walk_range.goes i H2 hi trivial, fun v H3 y => ?_⟩
    obtain ⟨rfl, rfl⟩ := walk_range.yields i H2 v H3 hi trivial y
    exact ⟨.refl, s, _, rangeW_get n lo i hi, .int _⟩
  · rw [rangeW_length]
    exact walk_range.stops H2 trivial
/-- the walk of a value: by what it is -/
def iVal (K : Fr6) (te : TE) : TI := fun σ H R => te σ H fun x H1 => (∃ a, x = .ref a ∧ (∃ xs, SqL K H1 a xs) ∧ R (Itl K a) H1) ∨ (∃ a, x = .ref a ∧ (∃ xs, SqT K H1 a xs) ∧ R (Itt K a) H1) ∨ (∃ z, x = .str z ∧ R (Its z) H1)
theorem pi_val {tg e : Expr} {te : TE} (he : PE X e te) : PI X tg e (iVal X.K te) := by
  refine ⟨fun pins s σ H R I h => ?_⟩
  -- the value first; then by its kind
  have one : ∀ {x : V} {H1 : Hp} {v : Value} {s1 : Shared}, Inv X pins σ H1 s1 → RelV x v → ((∃ a, x = .ref a ∧ (∃ xs, SqL X.K H1 a xs) ∧ R (Itl X.K a) H1) ∨ (∃ a, x = .ref a ∧ (∃ xs, SqT X.K H1 a xs) ∧ R (Itt X.K a) H1) ∨ (∃ z, x = .str z ∧ R (Its z) H1)) →
      wpAny (model X.prog X.w) X.A (pyIter v) (PIE X pins σ tg R) X.xe s1 := fun {x H1 v s1} I1 r1 q => by
    rcases q with ⟨a, rfl, ⟨xs, hq⟩, q⟩ | ⟨a, rfl, ⟨xs, hq⟩, q⟩ | ⟨z, rfl, q⟩
    · cases r1
      obtain ⟨its, rv, p, hz⟩ := I1.list hq
      refine wpAny_pyIter_list p.isList ⟨_, [_], _, _, H1, rfl, I1.kept (t' := s1.toks) fun b o e => Heap.get?_push_of_some _ e, turn_list a _, ⟨_, Heap.get?_push_size _ rfl, rfl, rfl⟩, fun b hb => ?_, q⟩
      rw [List.mem_singleton.mp hb]
      exact I1.fpOk (Nat.le_refl _) (I1.hok.fresh (Nat.le_refl _))
    · cases r1
      obtain ⟨its, rv, p, hz⟩ := I1.tuple hq
      refine wpAny_pyIter_tuple (show s1.heap.IsTuple a its.toArray from p) ⟨_, [_], _, _, H1, rfl, I1.kept (t' := s1.toks) fun b o e => Heap.get?_push_of_some _ e, turn_tuple a _, ⟨_, Heap.get?_push_size _ rfl, rfl, rfl⟩, fun b hb => ?_, q⟩
      rw [List.mem_singleton.mp hb]
      exact I1.fpOk (Nat.le_refl _) (I1.hok.fresh (Nat.le_refl _))
    · obtain ⟨t, rfl⟩ := r1
      cases ha : z.cps.all (· < 128)
      · exact wpAny_pyIter_wide ha (pi_one (tk := s1.toks) I1 _ (turn_str _ z t "str_iterator" (.inr rfl)) ⟨_, Heap.get?_push_size _ rfl, rfl, rfl⟩ q)
      · exact wpAny_pyIter_ascii ha (pi_one (tk := s1.toks) I1 _ (turn_str _ z t "str_ascii_iterator" (.inl rfl)) ⟨_, Heap.get?_push_size _ rfl, rfl, rfl⟩ q)
  exact thn (he.run pins s σ H _ I h) fun v s1 ⟨x, H1, I1, r1, q1⟩ => one I1 r1 q1
theorem i_it {a : E} {tg e : Expr} (ha : PE X e (tvE X.K F a)) : PI X tg e (tvI X.K F (.it a)) := by
  refine PI.weak (pi_val ha) fun σ H R ⟨mp, env, g, Q0, sr, hw, k⟩ => ?_
  simp only [wpI] at hw
  refine ⟨mp, env, g, _, sr, hw, fun x g1 hq mp1 H1 u1 e1 s1 r1 => ?_⟩
  obtain ⟨p, hp, hq⟩ := hq
  unfold iterW at hp
  cases x <;> simp only at hp <;> try (cases hp)
  · obtain ⟨rfl, ok⟩ := r1.strI
    exact .inr (.inr ⟨_, rfl, k _ _ g1 hq mp1 H1 _ e1 s1 (gives_str ok)⟩)
  · obtain ⟨b, vs, rfl, f, r⟩ := r1.tupI
    exact .inr (.inl ⟨b, rfl, ⟨vs, f.sq⟩, k _ _ g1 hq mp1 H1 _ e1 s1 (gives_tup f r)⟩)
  · obtain ⟨b, vs, rfl, f, r⟩ := r1.lstI
    exact .inl ⟨b, rfl, ⟨vs, f.sq⟩, k _ _ g1 hq mp1 H1 _ e1 s1 (gives_lstF f.1 (fun _ _ e => (f.ext0 e).sq) r)⟩
  · obtain ⟨b, vs, rfl, f, r⟩ := r1.lckI
    exact .inl ⟨b, rfl, ⟨vs, f.sq⟩, k _ _ g1 hq mp1 H1 _ e1 s1 (gives_lstF f.1 (fun _ _ e => (f.ext0 e).sq) r)⟩
  · rename_i n
    split at hp
    · rename_i xs h
      cases hp
      obtain ⟨b, rfl, h1⟩ := r1.obI
      obtain ⟨b', h2, vs, h3, h4, h5⟩ := s1.at_ h
      rw [h1] at h2; cases h2
      exact .inl ⟨b, rfl, ⟨vs, .of h3⟩, k _ _ g1 hq mp1 H1 _ e1 s1 (gives_ob h4 h1 h5)⟩
    · cases hp
theorem enumW_len : ∀ (n : Nat) (xs : List W), (enumW n xs).length = xs.length
  | _, [] => rfl
  | n, x :: xs => by rw [enumW, List.length_cons, enumW_len, List.length_cons]
theorem enumW_at : ∀ {n : Nat} {xs : List W} {i : Nat} {w : W}, xs[i]? = some w → (enumW n xs)[i]? = some (.tup [.int ((n + i : Nat) : Int), w])
  | n, [], _, _, h => by simp at h
  | n, x :: xs, 0, w, h => by simp at h; subst h; rfl
  | n, x :: xs, i + 1, w, h => by
    rw [enumW, List.getElem?_cons_succ, enumW_at (by simpa using h), show n + 1 + i = n + (i + 1) by omega]
theorem enum_go {K : Fr6} {mp2 : M} {g2 : CH} {H2 : Hp} {i : Nat} {xs : List W} {vs : List V} {T : Addr} {y : V} (s : Sim K mp2 g2 H2) (r : RpL K mp2 H2 xs vs) (hT : H2 T = none) (hy : vs[i]? = some y) :
    Ext mp2 H2 mp2 (upd H2 T (.tup [.int (i : Nat), y])) ∧ Sim K mp2 g2 (upd H2 T (.tup [.int (i : Nat), y])) ∧ ∃ w, (enumW 0 xs)[i]? = some w ∧ Rp K mp2 (upd H2 T (.tup [.int (i : Nat), y])) w (.ref T) := by
  obtain ⟨w, h1, h2⟩ := r.get' hy
  obtain ⟨e2, s2, r2⟩ := new_tup (xs := [.int (i : Nat), w]) (vs := [.int (i : Nat), y]) s (.cons (.int _) (.cons h2 .nil)) (by show 2 ≤ sizeLine; decide) hT
  exact ⟨e2, s2, _, by rw [enumW_at h1, Nat.zero_add], r2⟩
theorem gives_enumT {K : Fr6} {mp : M} {H : Hp} {a : Addr} {vs : List V} {xs : List W} (f : FT K mp H a vs) (r : RpL K mp H xs vs) : Gives K (IteT K a) mp H none (enumW 0 xs) := by
  refine ⟨by rw [enumW_len, r.length]; exact f.1, fun mp2 g2 H2 e s _ i hi => ?_, fun mp2 g2 H2 e s _ => ?_⟩
  · have f2 := f.ext0 e
    have r2 := r.ext0 e
    rw [enumW_len, r.length] at hi
    refine ⟨⟨vs, _, f2.sq, List.getElem?_eq_getElem hi⟩, ?_⟩
    rintro x H3 ⟨T, y, rfl, hT, rfl, hall⟩
    exact enum_go s r2 hT (hall vs f2.sq)
  · exact ⟨vs, (f.ext0 e).sq, by rw [enumW_len, r.length]⟩
theorem gives_enumL {K : Fr6} {mp : M} {H : Hp} {a : Addr} {vs : List V} {xs : List W} (hz : vs.length ≤ sizeLine) (f : ∀ mp2 H2, Ext0 mp H mp2 H2 → SqL K H2 a vs) (r : RpL K mp H xs vs) : Gives K (Ite K a) mp H none (enumW 0 xs) := by
  refine ⟨by rw [enumW_len, r.length]; exact hz, fun mp2 g2 H2 e s _ i hi => ?_, fun mp2 g2 H2 e s _ => ?_⟩
  · have r2 := r.ext0 e
    rw [enumW_len, r.length] at hi
    refine ⟨⟨vs, _, f _ _ e, List.getElem?_eq_getElem hi⟩, ?_⟩
    rintro x H3 ⟨T, y, rfl, hT, rfl, hall⟩
    exact enum_go s r2 hT (hall vs (f _ _ e))
  · exact ⟨vs, f _ _ e, by rw [enumW_len, r.length]; exact Nat.le_refl _⟩
theorem i_enum (g : Good G F d c X) {a : E} {elts : List Expr} {kk : Nat} {tp : Pos} {r : Str} {y : Expr} {p pos : Pos} (h2 : bltB G c.sc r "enumerate" = true) (hn : noStar y = true) (ha : PE X y (tvE X.K F a)) : PI X (.Tuple elts kk tp) (.Call (.Name r p) [y] [] pos) (tvI X.K F (.enum a)) := by
  obtain ⟨rfl, hg2, hf2⟩ := blt_of h2
  refine PI.weak (pi_enumT (g.gl hg2) (g.facts.free _ hf2) (pa_cons ha pa_nil (star_cons hn)) (by rw [star_cons hn]; rfl)) fun σ H R ⟨mp, env, g, Q0, sr, hw, k⟩ => ?_
  simp only [wpI] at hw
  refine ⟨mp, env, g, _, sr, hw, fun x g1 hq mp1 H1 u1 e1 s1 r1 => ?_⟩
  obtain ⟨xs, hx, hq⟩ := hq
  unfold fseqOf at hx
  cases x <;> simp only at hx <;> try (cases hx)
  · obtain ⟨b, vs, rfl, f, r⟩ := r1.tupI
    exact ⟨b, vs, rfl, .inr ⟨f.sq, k _ _ g1 hq mp1 H1 _ e1 s1 (gives_enumT f r)⟩⟩
  · obtain ⟨b, vs, rfl, f, r⟩ := r1.lstI
    exact ⟨b, vs, rfl, .inl ⟨f.sq, k _ _ g1 hq mp1 H1 _ e1 s1 (gives_enumL f.1 (fun _ _ e => (f.ext0 e).sq) r)⟩⟩
  · obtain ⟨b, vs, rfl, f, r⟩ := r1.lckI
    exact ⟨b, vs, rfl, .inl ⟨f.sq, k _ _ g1 hq mp1 H1 _ e1 s1 (gives_enumL f.1 (fun _ _ e => (f.ext0 e).sq) r)⟩⟩
theorem rng_small {i j : Int} (h : rngOk i j) : (j - i).toNat ≤ sizeLine := by
  have : (sizeLine : Nat) = 16777216 := sizeLine_eq
  have := h.2.2.2.2
  omega
theorem i_rng1 (g : Good G F d c X) {a : E} {tg : Expr} {r : Str} {y : Expr} {p pos : Pos} (h2 : bltB G c.sc r "range" = true) (hn : noStar y = true) (ha : PE X y (tvE X.K F a)) : PI X tg (.Call (.Name r p) [y] [] pos) (tvI X.K F (.rng1 a)) := by
  obtain ⟨rfl, hg2, hf2⟩ := blt_of h2
  refine PI.weak (pi_range1 (g.gl hg2) (g.facts.free _ hf2) (pa_cons ha pa_nil (star_cons hn)) (by rw [star_cons hn]; rfl)) fun σ H R ⟨mp, env, g, Q0, sr, hw, k⟩ => ?_
  simp only [wpI] at hw
  refine ⟨mp, env, g, _, sr, hw, fun x g1 hq mp1 H1 u1 e1 s1 r1 => ?_⟩
  obtain ⟨xs, hx, hq⟩ := hq
  obtain ⟨i, j, hi, rfl, hr, rfl⟩ := rng_of hx
  cases hi
  rw [Int.sub_zero] at hq
  have hs := rng_small hr
  rw [Int.sub_zero] at hs
  exact ⟨j, by rw [r1.intI], hr.2.2.1, hr.2.2.2.1, k _ _ g1 hq mp1 H1 _ e1 s1 (gives_rng hs)⟩
theorem i_rng2 (g : Good G F d c X) {a b : E} {tg : Expr} {r : Str} {y z : Expr} {p pos : Pos} (h2 : bltB G c.sc r "range" = true) (hn : noStar y = true) (hn2 : noStar z = true) (ha : PE X y (tvE X.K F a)) (hb : PE X z (tvE X.K F b)) :
    PI X tg (.Call (.Name r p) [y, z] [] pos) (tvI X.K F (.rng2 a b)) := by
  obtain ⟨rfl, hg2, hf2⟩ := blt_of h2
  refine PI.weak (pi_range2 (g.gl hg2) (g.facts.free _ hf2) (pa_cons ha (pa_cons hb pa_nil (star_cons hn2)) (star_cons hn)) (by rw [star_cons hn, star_cons hn2]; rfl) (by rw [star_cons hn2]; rfl)) fun σ H R ⟨mp, env, g, Q0, sr, hw, k⟩ => ?_
  simp only [wpI] at hw
  refine ⟨mp, env, g, _, sr, hw, fun x g1 hq mp1 H1 u1 e1 s1 r1 => ?_⟩
  refine ⟨mp1, env, g1, _, sr.ext e1 s1, hq, fun y g2 hq2 mp2 H2 u2 e2 s2 r2 => ?_⟩
  obtain ⟨xs, hx, hq2⟩ := hq2
  obtain ⟨i, j, rfl, rfl, hr, rfl⟩ := rng_of hx
  exact ⟨i, j, by rw [(r1.ext e2).intI, r2.intI], ⟨hr.1, hr.2.1, hr.2.2.1, hr.2.2.2.1⟩, k _ _ g2 hq2 mp2 H2 _ (e1.trans e2) s2 (gives_rng (rng_small hr))⟩
/-! ### targets -/
def tvG (K : Fr6) (t : T) : TG := fun v σ H Q => ∃ mp env g w env1, SR K mp env g σ H ∧ Rp K mp H w v ∧ asg t w env = some env1 ∧
  ∀ σ', EnvR K mp H env1 σ' → (∀ own, tgIn own t = true → wipe σ' own = wipe σ own) → Q σ' H
def tvGs (K : Fr6) (t : T) : TGs := fun vs σ H Q => ∃ mp env g ws env1, SR K mp env g σ H ∧ RpL K mp H ws vs ∧ asgs t ws env = some env1 ∧
  ∀ σ', EnvR K mp H env1 σ' → (∀ own, tgsIn own t = true → wipe σ' own = wipe σ own) → Q σ' H
theorem PG.weak {X : Cx} {e : Expr} {t t' : TG} (h : PG X e t) (w : ∀ v σ H Q, t' v σ H Q → t v σ H Q) : PG X e t' := ⟨fun pins s σ H v u Q I r q => h.run pins s σ H v u Q I r (w v σ H Q q)⟩
theorem PGs.weak {X : Cx} {e : List Expr} {t t' : TGs} (h : PGs X e t) (w : ∀ v σ H Q, t' v σ H Q → t v σ H Q) : PGs X e t' := ⟨fun pins s σ H v u Q I r q => h.run pins s σ H v u Q I r (w v σ H Q q)⟩
theorem wipe_in {σ : St} {i : Nat} : ∀ {vs : List Nat}, i ∈ vs → i < σ.length → (wipe σ vs)[i]? = some none
  | v :: vs, h, hl => by
    unfold wipe
    by_cases q : v = i
    · subst q
      rw [List.getElem?_set_self (by rw [wipe_length]; exact hl)]
    · rw [List.getElem?_set_ne q]
      rcases List.mem_cons.mp h with e | h
      · exact absurd e.symm q
      · exact wipe_in h hl
theorem wipe_set {σ : St} {i : Nat} {x : Option V} {own : List Nat} (h : i ∈ own) : wipe (σ.set i x) own = wipe σ own := by
  apply List.ext_getElem?
  intro j
  by_cases hj : j < σ.length
  · by_cases hm : j ∈ own
    · rw [wipe_in hm (by rw [List.length_set]; exact hj), wipe_in hm hj]
    · rw [wipe_out hm, wipe_out hm, List.getElem?_set_ne (fun z => hm (by rw [← z]; exact h))]
  · rw [List.getElem?_eq_none (by rw [wipe_length, List.length_set]; omega), List.getElem?_eq_none (by rw [wipe_length]; omega)]
theorem g_n (g : Good G F d c X) {i : Nat} {x : Str} {pos : Pos} (h : chkTg c (.n i) (.Name x pos) = true) : PG X (.Name x pos) (tvG X.K (.n i)) := by
  simp only [chkTg, Bool.and_eq_true, decide_eq_true_eq] at h
  refine PG.weak (pg_name g.ndX (g.xN h.1) (g.locX h.2) (g.locF h.2)) fun v σ H Q ⟨mp, env, g, w, env1, sr, r, ha, k⟩ => ?_
  simp only [asg, Option.some.injEq] at ha
  subst ha
  exact k _ (sr.1.set r i) fun own ho => wipe_set (by simpa only [tgIn, decide_eq_true_eq] using ho)
theorem assign_starEach {e : Expr} {es : List Expr} {env : PySem.Env} (h : noStar e = true) : assignEach (e :: es) env = (false, assign e env) :: assignEach es env := by
  cases e <;> first | rfl | cases h
def tLen : T → Nat
  | .cons _ ts => tLen ts + 1
  | _ => 0
theorem asgs_len : ∀ {ts : T} {ws : List W} {env env1 : Env}, asgs ts ws env = some env1 → ws.length = tLen ts
  | .nil, [], _, _, _ => rfl
  | .nil, _ :: _, _, _, h => by simp [asgs] at h
  | .cons t ts, [], _, _, h => by simp [asgs] at h
  | .cons t ts, w :: ws, env, env1, h => by
    simp only [asgs, Option.bind_eq_some_iff] at h
    obtain ⟨e, _, h2⟩ := h
    simp only [List.length_cons, tLen, asgs_len h2]
  | .n _, _, _, _, h => by simp [asgs] at h
  | .tup _, _, _, _, h => by simp [asgs] at h
theorem chkTgs_len {c : Ctx} {env : PySem.Env} : ∀ {ts : T} {es : List Expr}, chkTgs c ts es = true → (assignEach es env).length = tLen ts ∧ (assignEach es env).findIdx? (·.1) = none
  | .nil, [], _ => ⟨rfl, rfl⟩
  | .cons t ts, e :: es, h => by
    simp only [chkTgs, Bool.and_eq_true] at h
    obtain ⟨h1, h2⟩ := chkTgs_len h.2 (env := env)
    rw [assign_starEach h.1.2]
    refine ⟨by rw [List.length_cons, h1]; rfl, ?_⟩
    rw [List.findIdx?_cons]
    simp [h2]
  | .nil, _ :: _, h => by simp [chkTgs] at h
  | .cons _ _, [], h => by simp [chkTgs] at h
  | .n _, _, h => by simp [chkTgs] at h
  | .tup _, _, h => by simp [chkTgs] at h
theorem pg_or {e : Expr} {t1 t2 : TG} (h1 : PG X e t1) (h2 : PG X e t2) : PG X e (fun v σ H Q => t1 v σ H Q ∨ t2 v σ H Q) := by
  refine ⟨fun pins s σ H v u Q I r hw => ?_⟩
  rcases hw with hw | hw
  · exact h1.run pins s σ H v u Q I r hw
  · exact h2.run pins s σ H v u Q I r hw
mutual
theorem g_ok (g : Good G F d c X) : ∀ (t : T) (e : Expr), chkTg c t e = true → PG X e (tvG X.K t)
  | .n i, e, h => by
    cases e with
    | Name x pos => exact g_n g h
    | _ => simp [chkTg] at h
  | .tup ts, e, h => by
    cases e with
    | Tuple es k pos =>
      simp only [chkTg] at h
      obtain ⟨l1, l2⟩ := chkTgs_len h (env := X.env)
      refine PG.weak (pg_or (pg_tup g.calm (gs_ok g ts es h) l1 l2) (pg_unl g.calm (gs_ok g ts es h) l1 l2)) fun v σ H Q ⟨mp, env, g, w, env1, sr, r, ha, k⟩ => ?_
      simp only [asg] at ha
      split at ha
      · rename_i xs
        obtain ⟨a, vs, rfl, f, r⟩ := r.tupI
        exact .inl ⟨a, vs, rfl, f.sq, by rw [← r.length, asgs_len ha], mp, env, g, xs, env1, sr, r, ha, fun σ' h1 h2 => k σ' h1 fun own ho => h2 own (by simpa only [tgIn] using ho)⟩
      · rename_i xs
        obtain ⟨a, vs, rfl, f, r⟩ := r.lstI
        exact .inr ⟨a, vs, rfl, f.sq, by rw [← r.length, asgs_len ha], mp, env, g, xs, env1, sr, r, ha, fun σ' h1 h2 => k σ' h1 fun own ho => h2 own (by simpa only [tgIn] using ho)⟩
      · cases ha
    | _ => simp [chkTg] at h
  | .nil, e, h => by simp [chkTg] at h
  | .cons _ _, e, h => by simp [chkTg] at h
theorem gs_ok (g : Good G F d c X) : ∀ (t : T) (es : List Expr), chkTgs c t es = true → PGs X es (tvGs X.K t)
  | .nil, es, h => by
    cases es with
    | nil =>
      refine PGs.weak pgs_nil fun v σ H Q ⟨mp, env, g, ws, env1, sr, r, ha, k⟩ => ?_
      cases ws with
      | nil =>
        simp only [asgs, Option.some.injEq] at ha
        subst ha
        simp only [RpL] at r
        exact ⟨r, k σ sr.1 fun _ _ => rfl⟩
      | cons _ _ => simp [asgs] at ha
    | cons _ _ => simp [chkTgs] at h
  | .cons t ts, es, h => by
    cases es with
    | nil => simp [chkTgs] at h
    | cons e es =>
      simp only [chkTgs, Bool.and_eq_true] at h
      refine PGs.weak (pgs_cons (g_ok g t e h.1.1) (gs_ok g ts es h.2) (by rw [assign_starEach h.1.2]; rfl)) fun v σ H Q ⟨mp, env, g, ws, env1, sr, r, ha, k⟩ => ?_
      cases ws with
      | nil => simp [asgs] at ha
      | cons w ws =>
        simp only [asgs, Option.bind_eq_some_iff] at ha
        obtain ⟨env2, h1, h2⟩ := ha
        simp only [RpL] at r
        obtain ⟨u, us, rfl, r1, r2⟩ := r
        refine ⟨u, us, rfl, mp, env, g, w, env2, sr, r1, h1, fun σ' e1 w1 => ?_⟩
        refine ⟨mp, env2, g, ws, env1, ⟨e1, sr.2⟩, r2, h2, fun σ2 e2 w2 => k σ2 e2 fun own ho => ?_⟩
        simp only [tgsIn, Bool.and_eq_true] at ho
        rw [w2 own ho.2, w1 own ho.1]
  | .n _, es, h => by simp [chkTgs] at h
  | .tup _, es, h => by simp [chkTgs] at h
end
end
end Z
namespace Z
open PySem PySem.Spec L2
open PyProof.Rows hiding St
section
variable {X : Cx} {G : Globs} {F : FSem} {d : Nat} {c : Ctx}
/-! ### comprehensions -/
theorem wipe_wipe (σ : St) : ∀ {own : List Nat}, wipe (wipe σ own) own = wipe σ own := fun {own} => by
  apply List.ext_getElem?
  intro j
  by_cases hm : j ∈ own
  · by_cases hj : j < σ.length
    · rw [wipe_in hm (by rw [wipe_length]; exact hj), wipe_in hm hj]
    · rw [List.getElem?_eq_none (by rw [wipe_length, wipe_length]; omega), List.getElem?_eq_none (by rw [wipe_length]; omega)]
  · rw [wipe_out hm]
theorem wipeE_length (env : Env) : ∀ own, (wipeE env own).length = env.length
  | [] => rfl
  | v :: vs => by unfold wipeE; rw [List.length_set, wipeE_length env vs]
theorem wipeE_some {env : Env} {i : Nat} {w : W} : ∀ {own : List Nat}, (wipeE env own)[i]? = some (some w) → env[i]? = some (some w) ∧ i ∉ own
  | [], h => ⟨h, by simp⟩
  | v :: vs, h => by
    unfold wipeE at h
    by_cases q : v = i
    · subst q
      by_cases hl : v < (wipeE env vs).length
      · rw [List.getElem?_set_self hl] at h; cases h
      · rw [List.getElem?_eq_none (by rw [List.length_set]; omega)] at h; cases h
    · rw [List.getElem?_set_ne q] at h
      obtain ⟨h1, h2⟩ := wipeE_some h
      exact ⟨h1, fun z => (List.mem_cons.mp z).elim (fun e => q e.symm) h2⟩
theorem EnvR.wipe {K : Fr6} {mp : M} {H : Hp} {env : Env} {σ : St} (h : EnvR K mp H env σ) (own : List Nat) : EnvR K mp H (wipeE env own) (L2.wipe σ own) := by
  refine ⟨by rw [wipeE_length, wipe_length, h.1], fun i w hw => ?_⟩
  obtain ⟨h1, h2⟩ := wipeE_some hw
  obtain ⟨u, h3, h4⟩ := h.2 i w h1
  exact ⟨u, by rw [wipe_out h2]; exact h3, h4⟩
/-- a step within, while D is hidden -/
theorem Ext.within {mp1 mp2 mp4 : M} {H1 H2 H5 : Hp} {D : Addr} (e : Ext mp1 H1 mp2 H2) (f : Ext (mp2.hide D) H2 mp4 H5) : Ext mp1 H1 ⟨mp4.ob, mp1.hd⟩ H5 ∧ mp4 = M.hide ⟨mp4.ob, mp1.hd⟩ D := by
  refine ⟨⟨e.pre.trans f.pre, fun a h => ?_, fun a o hn h => f.keep a o (e.nob h hn) (e.keep a o hn h), rfl⟩, ?_⟩
  · rcases f.freO a h with h1 | h1
    · exact e.freO a h1
    · by_cases hm : a ∈ mp1.ob
      · exact .inl hm
      · exact .inr (e.back hm h1)
  · have h1 : mp4.hd = D :: mp1.hd := by rw [f.hd, ← e.hd]; rfl
    obtain ⟨ob, hd⟩ := mp4
    simp only at h1
    subst h1
    rfl
theorem Ext.updN {mp1 mp2 : M} {H1 H2 : Hp} {D : Addr} {o : HO} (e : Ext mp1 H1 mp2 H2) (h : H1 D = none) : Ext mp1 H1 mp2 (upd H2 D o) :=
  ⟨e.pre, e.freO, fun a x hn q => by rw [upd_ne (ne_of_none q h)]; exact e.keep a x hn q, e.hd⟩
theorem Ext.e0hide {mp1 mp2 : M} {H1 H2 : Hp} {D : Addr} (e : Ext mp1 H1 mp2 H2) (h : H1 D = none) : Ext0 mp1 H1 (mp2.hide D) H2 :=
  ⟨e.pre, fun a q => by
    rcases q with q | q
    · exact e.e0.fre a (.inl q)
    · rcases List.mem_cons.mp q with q | q
      · right; rw [q]; exact h
      · exact e.e0.fre a (.inr q), e.e0.keep⟩
theorem drop_cons {α : Type} {xs : List α} {i : Nat} {w : α} (h : xs[i]? = some w) : xs.drop i = w :: xs.drop (i + 1) := by
  obtain ⟨hi, e⟩ := List.getElem?_eq_some_iff.mp h
  rw [List.drop_eq_getElem_cons hi, e]
theorem lc_read {own : List Nat} {t : T} {src ifs elt : E} (ht : tgIn own t = true) {σ : St} {H : Hp} {Q : VK} (h : tvN X.K F (.lc own t src ifs elt) σ H Q) :
    tLc (tvI X.K F src) (tvG X.K t) (tvT X.K F ifs) (tvE X.K F elt) own σ H Q := by
  obtain ⟨mp, env, g0, Q0, sr, hw, k⟩ := h
  simp only [wpN] at hw
  refine ⟨mp, env, g0, _, sr, hw, fun o xs g1 hq mp1 H1 J e1 s1 gv D hD => ?_⟩
  refine ⟨fun i m H2 => m = xs.length - i ∧ i ≤ xs.length ∧ ∃ mp2 g2 acc vs, Ext mp1 H1 mp2 H2 ∧ Sim X.K (mp2.hide D) g2 H2 ∧ H2 D = some (.lst vs) ∧ RpL X.K (mp2.hide D) H2 acc vs ∧ vs.length ≤ i ∧
      lcL t (wpT F ifs) (wpE F elt) (wipeE env own) o xs (xs.drop i) acc g2 Q0, ⟨xs.length, rfl, Nat.zero_le _, mp1, g1, [], [], .new hD, s1.hide hD, upd_same, .nil, Nat.le_refl _, hq⟩, ?_⟩
  rintro i m H2 ⟨rfl, hi, mp2, g2, acc, vs, e2, s2, hDv, ra, hvl, hl⟩
  have e0 := e2.e0hide hD
  by_cases hlt : i < xs.length
  · have hx : xs[i]? = some xs[i] := List.getElem?_eq_getElem hlt
    rw [drop_cons hx] at hl
    simp only [lcL] at hl
    obtain ⟨st, env1, hasg, hl⟩ := hl
    obtain ⟨go, yl⟩ := gv.go _ g2 H2 e0 s2 st i hlt
    refine .inr ⟨go, fun H' => ∃ mp2 g2 acc vs, Ext mp1 H1 mp2 H' ∧ Sim X.K (mp2.hide D) g2 H' ∧ H' D = some (.lst vs) ∧ RpL X.K (mp2.hide D) H' acc vs ∧ vs.length ≤ i + 1 ∧
      lcL t (wpT F ifs) (wpE F elt) (wipeE env own) o xs (xs.drop (i + 1)) acc g2 Q0, fun H' hN => ⟨xs.length - (i + 1), by omega, rfl, hlt, hN⟩, fun x H3 hy => ?_⟩
    obtain ⟨e3, s3, w, hw3, r3⟩ := yl x H3 hy
    rw [hx] at hw3
    cases hw3
    have erw : EnvR X.K (mp2.hide D) H3 (wipeE env own) (L2.wipe σ own) := by
      refine EnvR.wipe ?_ own
      refine ⟨sr.1.1, fun j w hj => ?_⟩
      obtain ⟨u, hu, ru⟩ := (sr.1.ext e1).2 j w hj
      exact ⟨u, hu, (ru.ext0 e0).ext e3⟩
    refine ⟨mp2.hide D, wipeE env own, g2, xs[i], env1, ⟨erw, s3⟩, r3, hasg, fun σ2 er2 wz => ⟨by rw [wz own ht, wipe_wipe], ?_⟩⟩
    refine ⟨mp2.hide D, env1, g2, _, ⟨er2, s3⟩, hl, fun b g3 hq3 mp3 H4 e4 s4 => ?_⟩
    have keepD : ∀ {mpa mpb : M} {Ha Hb : Hp} {ga : CH} {o : HO}, Ext mpa Ha mpb Hb → Sim X.K mpa ga Ha → D ∈ mpa.hd → Ha D = some o → Hb D = some o := fun e s hd h => e.keep D _ (s.hid D hd).2 h
    have hd2 : D ∈ (mp2.hide D).hd := List.mem_cons_self
    have hd3 : D ∈ mp3.hd := by rw [e4.hd]; exact hd2
    cases b with
    | true =>
      simp only [if_true] at hq3 ⊢
      refine ⟨mp3, env1, g3, _, ⟨er2.ext e4, s4⟩, hq3, fun wv g4 hq4 mp4 H5 u e5 s5 r5 => ?_⟩
      have eA := (e3.trans e4).trans e5
      obtain ⟨eB, eq4⟩ := e2.within eA
      have hD5 := keepD e5 s4 hd3 (keepD e4 s3 hd2 (keepD e3 s2 hd2 hDv))
      have hsz := gv.small
      refine ⟨vs, hD5, by omega, ⟨mp4.ob, mp1.hd⟩, g4, acc ++ [wv], vs ++ [u], eB.updN hD, ?_, upd_same, ?_, by rw [List.length_append, List.length_singleton]; omega, hq4⟩
      · rw [eq4] at s5
        exact s5.updHid
      · have r6 := (ra.ext eA).append (.cons r5 .nil)
        rw [eq4] at r6
        exact r6.ext0 .updHid
    | false =>
      simp only [Bool.false_eq_true, if_false] at hq3 ⊢
      have eA := e3.trans e4
      obtain ⟨eB, eq4⟩ := e2.within eA
      have hD4 := keepD e4 s3 hd2 (keepD e3 s2 hd2 hDv)
      refine ⟨⟨mp3.ob, mp1.hd⟩, g3, acc, vs, eB, by rw [← eq4]; exact s4, hD4, by rw [← eq4]; exact ra.ext eA, by omega, hq3⟩
  · have hi' : i = xs.length := by omega
    subst hi'
    rw [List.drop_length] at hl
    simp only [lcL] at hl
    have hsz := gv.small
    exact .inl ⟨gv.stop _ g2 H2 e0 s2 hl.1, k acc g2 hl.2 mp2 H2 D vs (e1.trans e2) s2 (e1.free s1 hD) hDv (by omega) ra⟩
theorem Good.blk (g : Good G F d c X) (s : Shared) (H : Hp) (scope : Scope) (cl : List (Str × Addr)) (C : Addr) (fp : List Addr) : Good G F d (blkCtx c scope) (X.blk s H scope (compEnvC scope cl C X.env) fp) :=
  ⟨g.facts, g.N, g.nd, by show relS scope X.env.scope = relS scope c.sc; rw [g.sc], g.calm, rfl, fun x h => h, g.room⟩
theorem ownOf_snd (N : List Str) (own : List Nat) : (ownOf N own).map (·.2) = own := by
  unfold ownOf
  rw [List.map_map]
  conv => rhs; rw [← List.map_id own]
  rfl
theorem n_lc (g : Good G F d c X) {own : List Nat} {t : T} {src ifs elt : E} {e tg it : Expr} {is : List Expr} {scope : Scope} {pos : Pos}
    (hb : blkC c.N c.sc scope (ownOf c.N own) = true) (hs : noSet it = true) (ht : tgIn own t = true) (hg : chkTg (blkCtx c scope) t tg = true)
    (hi : PI X tg it (tvI X.K F src)) (hts : ∀ X', Good G F d (blkCtx c scope) X' → X'.K = X.K → PTs X' is (tvT X.K F ifs)) (he : ∀ X', Good G F d (blkCtx c scope) X' → X'.K = X.K → PE X' e (tvE X.K F elt)) :
    PE X (.ListComp e [⟨tg, it, is, 0⟩] scope pos) (tvN X.K F (.lc own t src ifs elt)) := by
  have ok : BlkOk X.N X.env.scope scope (ownOf c.N own) := by rw [g.N, g.sc]; exact blkOk_by hb
  refine PE.weak (pe_lc (own := ownOf c.N own) (tt := tvT X.K F ifs) (te := tvE X.K F elt) (g := tvG X.K t) g.calm g.ndX hi ok (fun s H C cl fp => g_ok (g.blk s H scope cl C fp) t tg hg) (fun s H C cl fp => hts _ (g.blk s H scope cl C fp) rfl) (fun s H C cl fp => he _ (g.blk s H scope cl C fp) rfl) (noFold hs)) fun σ H Q q => ?_
  rw [ownOf_snd]
  exact lc_read ht q
theorem ps_lc (g : Good G F d c X) {own : List Nat} {t : T} {src ifs elt : E} {e tg it : Expr} {is : List Expr} {scope : Scope} {pos spos py : Pos} {i : Nat} {y : Str}
    (hy : c.N[i]? = some y) (hyl : c.sc.names.lookup y = some .local) (hk : c.sc.kind = .function) (hl : (py.line == pos.line) = true) (ha : (scope.names.any fun (n, k) => n == y && (k == .local || k == .cell)) = false)
    (hb : blkC c.N c.sc scope (ownOf c.N own) = true) (hs : noSet it = true) (ht : tgIn own t = true) (hg : chkTg (blkCtx c scope) t tg = true)
    (hi : PI X tg it (tvI X.K F src)) (hts : ∀ X', Good G F d (blkCtx c scope) X' → X'.K = X.K → PTs X' is (tvT X.K F ifs)) (he : ∀ X', Good G F d (blkCtx c scope) X' → X'.K = X.K → PE X' e (tvE X.K F elt)) :
    PS X (.Assign [.Name y py] (.ListComp e [⟨tg, it, is, 0⟩] scope pos) spos) (tAsg (tvN X.K F (.lc own t src ifs elt)) (gName i)) := by
  have ok : BlkOk X.N X.env.scope scope (ownOf c.N own) := by rw [g.N, g.sc]; exact blkOk_by hb
  refine PS.weak (ps_setLc (own := ownOf c.N own) (tt := tvT X.K F ifs) (te := tvE X.K F elt) (g := tvG X.K t) g.calm g.ndX (g.xN hy) (by rw [g.sc]; exact hyl)
    (sw_true (by rw [g.sc]; exact hk) (by rw [g.sc]; exact hyl) hl ha) hi ok (fun s H C cl fp => g_ok (g.blk s H scope cl C fp) t tg hg) (fun s H C cl fp => hts _ (g.blk s H scope cl C fp) rfl) (fun s H C cl fp => he _ (g.blk s H scope cl C fp) rfl) (noFold hs)) fun D σ H q => ?_
  show tLc _ _ _ _ _ σ H _
  rw [ownOf_snd]
  exact lc_read ht q
/-! ### every term -/
structure Snd (G : Globs) (F : FSem) (d : Nat) (m : E) : Prop where
  e : ∀ (c : Ctx) (X : Cx) (e : Expr), Good G F d c X → chkE G m c e = true → PE X e (tvE X.K F m)
  a : ∀ (c : Ctx) (X : Cx) (es : List Expr), Good G F d c X → chkA G m c es = true → PA X es (tvA X.K F m) ∧ es.all noStar = true ∧ (es = [] → m = .nil)
  t : ∀ (c : Ctx) (X : Cx) (e : Expr), Good G F d c X → chkT G m c e = true → PT X e (tvT X.K F m)
  w : ∀ (c : Ctx) (X : Cx) (op : PySem.BoolOp) (es : List Expr) (pos : Pos), Good G F d c X → chkT G m c (.BoolOp op es pos) = true → PW X (.BoolOp op es pos) (tvT X.K F m)
  ts : ∀ (c : Ctx) (X : Cx) (es : List Expr), Good G F d c X → chkTs G m c es = true → PTs X es (tvT X.K F m)
  p : ∀ (c : Ctx) (X : Cx) (e : Option Expr), Good G F d c X → chkP G m c e = true → PO X e (tvP X.K F m)
  n : ∀ (c : Ctx) (X : Cx) (e : Expr), Good G F d c X → chkN G m c e = true → PE X e (tvN X.K F m)
  i : ∀ (c : Ctx) (X : Cx) (tg e : Expr), Good G F d c X → chkI G m c tg e = true → PI X tg e (tvI X.K F m)
theorem no_ {b : Bool} {P : Prop} (h : b = true) (e : b = false := by rfl) : P := by rw [e] at h; cases h
theorem Snd.mk1 {m : E} (e : ∀ (c : Ctx) (X : Cx) (e : Expr), Good G F d c X → chkE G m c e = true → PE X e (tvE X.K F m))
    (a : ∀ c es, chkA G m c es = false := by intros; rfl) (t : ∀ c e, chkT G m c e = false := by intros; rfl) (ts : ∀ c es, chkTs G m c es = false := by intros; rfl) (p : ∀ c e, chkP G m c e = false := by intros; rfl)
    (n : ∀ c e, chkN G m c e = false := by intros; rfl) (i : ∀ c t e, chkI G m c t e = false := by intros; rfl) : Snd G F d m :=
  ⟨e, fun c _ es _ h => no_ h (a c es), fun c _ e _ h => no_ h (t c e), fun c _ op es pos _ h => no_ h (t c _), fun c _ es _ h => no_ h (ts c es), fun c _ e _ h => no_ h (p c e), fun c _ e _ h => no_ h (n c e), fun c _ tg e _ h => no_ h (i c tg e)⟩
theorem Snd.mkN {m : E} (n : ∀ (c : Ctx) (X : Cx) (e : Expr), Good G F d c X → chkN G m c e = true → PE X e (tvN X.K F m))
    (e : ∀ c e, chkE G m c e = false := by intros; rfl) (a : ∀ c es, chkA G m c es = false := by intros; rfl) (t : ∀ c e, chkT G m c e = false := by intros; rfl) (ts : ∀ c es, chkTs G m c es = false := by intros; rfl) (p : ∀ c e, chkP G m c e = false := by intros; rfl)
    (i : ∀ c t e, chkI G m c t e = false := by intros; rfl) : Snd G F d m :=
  ⟨fun c _ x _ h => no_ h (e c x), fun c _ es _ h => no_ h (a c es), fun c _ e _ h => no_ h (t c e), fun c _ op es pos _ h => no_ h (t c _), fun c _ es _ h => no_ h (ts c es), fun c _ e _ h => no_ h (p c e), n, fun c _ tg e _ h => no_ h (i c tg e)⟩
theorem Snd.mkI {m : E} (i : ∀ (c : Ctx) (X : Cx) (tg e : Expr), Good G F d c X → chkI G m c tg e = true → PI X tg e (tvI X.K F m))
    (e : ∀ c e, chkE G m c e = false := by intros; rfl) (a : ∀ c es, chkA G m c es = false := by intros; rfl) (t : ∀ c e, chkT G m c e = false := by intros; rfl) (ts : ∀ c es, chkTs G m c es = false := by intros; rfl) (p : ∀ c e, chkP G m c e = false := by intros; rfl)
    (n : ∀ c e, chkN G m c e = false := by intros; rfl) : Snd G F d m :=
  ⟨fun c _ x _ h => no_ h (e c x), fun c _ es _ h => no_ h (a c es), fun c _ e _ h => no_ h (t c e), fun c _ op es pos _ h => no_ h (t c _), fun c _ es _ h => no_ h (ts c es), fun c _ e _ h => no_ h (p c e), fun c _ e _ h => no_ h (n c e), i⟩
theorem and2 {a b : Bool} (h : (a && b) = true) : a = true ∧ b = true := Bool.and_eq_true_iff.mp h
theorem and3 {a b c : Bool} (h : (a && b && c) = true) : a = true ∧ b = true ∧ c = true := let ⟨h1, h2⟩ := and2 h; let ⟨h3, h4⟩ := and2 h1; ⟨h3, h4, h2⟩
theorem and4 {a b c d : Bool} (h : (a && b && c && d) = true) : a = true ∧ b = true ∧ c = true ∧ d = true := let ⟨h1, h2⟩ := and2 h; let ⟨h3, h4, h5⟩ := and3 h1; ⟨h3, h4, h5, h2⟩
theorem hu65 (g : Good G F d c X) : X.A.units + 65 < cLine := by have := g.room.un; omega
theorem snd : ∀ m : E, Snd G F d m
  | .v i => .mk1 fun c X e g h => by
    cases e <;> try exact no_ h
    exact s_v g h
  | .k w => .mk1 fun c X e g h => by
    cases e <;> try (cases w <;> exact no_ h)
    exact s_k h
  | .gl w n => .mk1 fun c X e g h => by
    cases e <;> try exact no_ h
    exact s_gl g h
  | .bin op a b => .mk1 fun c X e g h => by
    cases e <;> try exact no_ h
    simp only [chkE] at h
    obtain ⟨h1, h2, h3⟩ := and3 h
    exact s_bin ((snd a).e c X _ g h2) ((snd b).e c X _ g h3) h1
  | .neg a => .mk1 fun c X e g h => by
    cases e <;> try exact no_ h
    rename_i op x pos
    cases op <;> try exact no_ h
    simp only [chkE] at h
    exact s_neg ((snd a).e c X _ g h)
  | .nt a => ⟨fun c X e g h => by
      cases e <;> try exact no_ h
      rename_i op x pos
      cases op <;> try exact no_ h
      simp only [chkE] at h
      exact s_nt ((snd a).e c X _ g h), fun c _ es _ h => no_ h, fun c X e g h => by
      cases e <;> try exact no_ h
      rename_i op x pos
      cases op <;> try exact no_ h
      simp only [chkT] at h
      exact t_nt ((snd a).t c X _ g h), fun c _ op es pos _ h => no_ h, fun c _ es _ h => no_ h, fun c _ e _ h => no_ h, fun c _ e _ h => no_ h, fun c _ tg e _ h => no_ h⟩
  | .cmp op a b => ⟨fun c X e g h => by
      cases e <;> try exact no_ h
      rename_i l ops rs pos
      cases ops with
      | nil => exact no_ h
      | cons o os =>
        cases os with
        | cons _ _ => exact no_ h
        | nil =>
          cases rs with
          | nil => exact no_ h
          | cons r rs =>
            cases rs with
            | cons _ _ => exact no_ h
            | nil =>
              simp only [chkE] at h
              obtain ⟨h1, h2, h3, h4⟩ := and4 h
              exact s_cmp (hu65 g) ((snd a).e c X _ g h3) ((snd b).e c X _ g h4) h1 h2, fun c _ es _ h => no_ h, fun c X e g h => by
      cases e <;> try exact no_ h
      rename_i l ops rs pos
      cases ops with
      | nil => exact no_ h
      | cons o os =>
        cases os with
        | cons _ _ => exact no_ h
        | nil =>
          cases rs with
          | nil => exact no_ h
          | cons r rs =>
            cases rs with
            | cons _ _ => exact no_ h
            | nil =>
              simp only [chkT] at h
              obtain ⟨h1, h2, h3, h4⟩ := and4 h
              exact s_cmpT (hu65 g) ((snd a).e c X _ g h3) ((snd b).e c X _ g h4) h1 h2, fun c _ op es pos _ h => no_ h, fun c _ es _ h => no_ h, fun c _ e _ h => no_ h, fun c _ e _ h => no_ h, fun c _ tg e _ h => no_ h⟩
  | .and a b => by
      have W : ∀ (c : Ctx) (X : Cx) (op : PySem.BoolOp) (es : List Expr) (pos : Pos), Good G F d c X → chkT G (.and a b) c (.BoolOp op es pos) = true → PW X (.BoolOp op es pos) (tvT X.K F (.and a b)) := fun c X op es pos g h => by
        cases op <;> try exact no_ h
        cases es with
        | nil => exact no_ h
        | cons x es =>
          cases es with
          | nil => exact no_ h
          | cons y rest =>
            simp only [chkT] at h
            obtain ⟨h1, h2⟩ := and2 h
            refine t_and ((snd a).t c X _ g h1) ?_
            cases rest with
            | nil => exact pw_and1 ((snd b).t c X _ g h2)
            | cons z zs => exact (snd b).w c X _ _ _ g h2
      exact ⟨fun c X e g h => by
        cases e <;> try exact no_ h
        rename_i op es pos
        cases op <;> try exact no_ h
        cases es with
        | nil => exact no_ h
        | cons x es =>
          cases es with
          | nil => exact no_ h
          | cons y rest =>
            simp only [chkE] at h
            obtain ⟨h1, h2⟩ := and2 h
            refine s_and ((snd a).e c X _ g h1) ?_
            cases rest with
            | nil => exact pe_one ((snd b).e c X _ g h2)
            | cons z zs => exact (snd b).e c X _ g h2, fun c _ es _ h => no_ h, fun c X e g h => by
        cases e <;> try exact no_ h
        exact (W c X _ _ _ g h).pt, W, fun c _ es _ h => no_ h, fun c _ e _ h => no_ h, fun c _ e _ h => no_ h, fun c _ tg e _ h => no_ h⟩
  | .or a b => by
      have W : ∀ (c : Ctx) (X : Cx) (op : PySem.BoolOp) (es : List Expr) (pos : Pos), Good G F d c X → chkT G (.or a b) c (.BoolOp op es pos) = true → PW X (.BoolOp op es pos) (tvT X.K F (.or a b)) := fun c X op es pos g h => by
        cases op <;> try exact no_ h
        cases es with
        | nil => exact no_ h
        | cons x es =>
          cases es with
          | nil => exact no_ h
          | cons y rest =>
            simp only [chkT] at h
            obtain ⟨h1, h2⟩ := and2 h
            refine t_or ((snd a).t c X _ g h1) ?_
            cases rest with
            | nil => exact pw_or1 ((snd b).t c X _ g h2)
            | cons z zs => exact (snd b).w c X _ _ _ g h2
      exact ⟨fun c X e g h => by
        cases e <;> try exact no_ h
        rename_i op es pos
        cases op <;> try exact no_ h
        cases es with
        | nil => exact no_ h
        | cons x es =>
          cases es with
          | nil => exact no_ h
          | cons y rest =>
            simp only [chkE] at h
            obtain ⟨h1, h2⟩ := and2 h
            refine s_or ((snd a).e c X _ g h1) ?_
            cases rest with
            | nil => exact pe_one ((snd b).e c X _ g h2)
            | cons z zs => exact (snd b).e c X _ g h2, fun c _ es _ h => no_ h, fun c X e g h => by
        cases e <;> try exact no_ h
        exact (W c X _ _ _ g h).pt, W, fun c _ es _ h => no_ h, fun c _ e _ h => no_ h, fun c _ e _ h => no_ h, fun c _ tg e _ h => no_ h⟩
  | .ite t a b => .mk1 fun c X e g h => by
    cases e <;> try exact no_ h
    simp only [chkE] at h
    obtain ⟨h1, h2, h3⟩ := and3 h
    exact s_ite ((snd t).t c X _ g h1) ((snd a).e c X _ g h2) ((snd b).e c X _ g h3)
  | .tv a => ⟨fun c _ e _ h => no_ h, fun c _ es _ h => no_ h, fun c X e g h => by
      simp only [chkT] at h
      obtain ⟨h1, h2⟩ := and2 h
      exact t_tv ((snd a).e c X _ g h2) h1, fun c X op es pos g h => by
      simp only [chkT] at h
      exact no_ (and2 h).1, fun c _ es _ h => no_ h, fun c _ e _ h => no_ h, fun c _ e _ h => no_ h, fun c _ tg e _ h => no_ h⟩
  | .tup es => .mk1 fun c X e g h => by
    cases e <;> try exact no_ h
    simp only [chkE] at h
    exact s_tup ((snd es).a c X _ g h).1
  | .nil => ⟨fun c _ e _ h => no_ h, fun c X es g h => by
      cases es with
      | nil => exact ⟨a_nil, rfl, fun _ => rfl⟩
      | cons _ _ => exact no_ h, fun c _ e _ h => no_ h, fun c _ op es pos _ h => no_ h, fun c X es g h => by
      cases es with
      | nil => exact ts_nil
      | cons _ _ => exact no_ h, fun c _ e _ h => no_ h, fun c _ e _ h => no_ h, fun c _ tg e _ h => no_ h⟩
  | .cons a r => ⟨fun c _ e _ h => no_ h, fun c X es g h => by
      cases es with
      | nil => exact no_ h
      | cons x xs =>
        simp only [chkA] at h
        obtain ⟨h1, h2, h3⟩ := and3 h
        obtain ⟨p1, p2, _⟩ := (snd r).a c X _ g h3
        exact ⟨a_cons ((snd a).e c X _ g h1) p1 h2, by rw [List.all_cons, h2, p2]; rfl, fun z => nomatch z⟩, fun c _ e _ h => no_ h, fun c _ op es pos _ h => no_ h, fun c X es g h => by
      cases es with
      | nil => exact no_ h
      | cons x xs =>
        cases xs with
        | nil =>
          simp only [chkTs] at h
          exact ts_one ((snd a).t c X _ g h)
        | cons _ _ => exact no_ h, fun c X e g h => by
      cases e with
      | none => exact no_ h
      | some x =>
        simp only [chkP] at h
        exact p_some ((snd a).e c X _ g h), fun c _ e _ h => no_ h, fun c _ tg e _ h => no_ h⟩
  | .lst es => .mkN fun c X e g h => by
    cases e <;> try exact no_ h
    simp only [chkN] at h
    exact n_lst ((snd es).a c X _ g h).1
  | .mk a => .mk1 fun c X e g h => by
    simp only [chkE] at h
    exact s_mk ((snd a).n c X _ g h)
  | .fz a => .mk1 fun c X e g h => by
    simp only [chkE] at h
    exact s_fz ((snd a).n c X _ g h)
  | .lcat a b => .mkN fun c X e g h => by
    cases e <;> try exact no_ h
    rename_i l op r pos
    cases op <;> try exact no_ h
    simp only [chkN] at h
    obtain ⟨h1, h2⟩ := and2 h
    exact n_lcat ((snd a).e c X _ g h1) ((snd b).e c X _ g h2)
  | .lrep a b => .mkN fun c X e g h => by
    cases e <;> try exact no_ h
    rename_i l op r pos
    cases op <;> try exact no_ h
    simp only [chkN] at h
    obtain ⟨h1, h2⟩ := and2 h
    exact n_lrep ((snd a).e c X _ g h1) ((snd b).e c X _ g h2)
  | .ix a i => .mk1 fun c X e g h => by
    cases e <;> try exact no_ h
    simp only [chkE] at h
    obtain ⟨h1, h2, h3⟩ := and3 h
    exact s_ix ((snd a).e c X _ g h1) ((snd i).e c X _ g h2) h3
  | .sl a lo hi => .mk1 fun c X e g h => by
    cases e <;> try exact no_ h
    rename_i x s pos
    cases s <;> try exact no_ h
    rename_i l u st p2
    cases st <;> try exact no_ h
    simp only [chkE] at h
    obtain ⟨h1, h2, h3⟩ := and3 h
    exact s_sl ((snd a).e c X _ g h1) ((snd lo).p c X _ g h2) ((snd hi).p c X _ g h3)
  | .lsl a lo hi => .mkN fun c X e g h => by
    cases e <;> try exact no_ h
    rename_i x s pos
    cases s <;> try exact no_ h
    rename_i l u st p2
    cases st <;> try exact no_ h
    simp only [chkN] at h
    obtain ⟨h1, h2, h3⟩ := and3 h
    exact n_lsl ((snd a).e c X _ g h1) ((snd lo).p c X _ g h2) ((snd hi).p c X _ g h3)
  | .nopart => ⟨fun c _ e _ h => no_ h, fun c _ es _ h => no_ h, fun c _ e _ h => no_ h, fun c _ op es pos _ h => no_ h, fun c _ es _ h => no_ h, fun c X e g h => by
      cases e with
      | none => exact p_none
      | some _ => exact no_ h, fun c _ e _ h => no_ h, fun c _ tg e _ h => no_ h⟩
  | .call f es => .mk1 fun c X e g h => by
    cases e <;> try exact no_ h
    rename_i fn xs kw pos
    cases fn <;> try exact no_ h
    cases kw <;> try exact no_ h
    have h' := h
    simp only [chkE] at h'
    obtain ⟨p1, p2, p3⟩ := (snd es).a c X _ g (and2 h').2
    exact s_call g h p1 p2 p3
  | .u1 op a => .mk1 fun c X e g h => by
    cases e <;> try exact no_ h
    rename_i fn xs kw pos
    cases fn <;> try exact no_ h
    cases xs with
    | nil => exact no_ h
    | cons y ys =>
      cases ys with
      | cons _ _ => exact no_ h
      | nil =>
        cases kw <;> try exact no_ h
        have h' := h
        simp only [chkE] at h'
        exact s_u1 g h ((snd a).e c X _ g (and3 h').2.1)
  | .u2 op a b => .mk1 fun c X e g h => by
    cases e <;> try exact no_ h
    rename_i fn xs kw pos
    cases fn <;> try exact no_ h
    cases xs with
    | nil => exact no_ h
    | cons y ys =>
      cases ys with
      | nil => exact no_ h
      | cons z zs =>
        cases zs with
        | cons _ _ => exact no_ h
        | nil =>
          cases kw <;> try exact no_ h
          have h' := h
          simp only [chkE] at h'
          obtain ⟨h1, h2⟩ := and2 h'
          obtain ⟨h3, h4⟩ := and2 h1
          exact s_u2 g h ((snd a).e c X _ g (and3 h3).2.1) ((snd b).e c X _ g h4)
  | .n1 op a => .mkN fun c X e g h => by
    cases e <;> try (cases op <;> exact no_ h)
    rename_i fn xs kw pos
    cases fn <;> try (cases op <;> exact no_ h)
    cases xs with
    | nil => cases op <;> exact no_ h
    | cons y ys =>
      cases ys with
      | cons _ _ => cases op <;> exact no_ h
      | nil =>
        cases kw <;> try (cases op <;> exact no_ h)
        simp only [chkN] at h
        obtain ⟨h1, h2, h3⟩ := and3 h
        cases op with
        | list => exact n_list g h1 h3 ((snd a).e c X _ g h2)
        | sorted => exact n_sorted g h1 h3 ((snd a).e c X _ g h2)
  | .isi a t => .mk1 fun c X e g h => by
    cases e <;> try exact no_ h
    rename_i fn xs kw pos
    cases fn <;> try exact no_ h
    cases xs with
    | nil => exact no_ h
    | cons y ys =>
      cases ys with
      | nil => exact no_ h
      | cons z zs =>
        cases zs with
        | cons _ _ => cases z <;> exact no_ h
        | nil =>
          cases z <;> try exact no_ h
          cases kw <;> try exact no_ h
          have h' := h
          simp only [chkE] at h'
          exact s_isi g h ((snd a).e c X _ g (and4 h').2.2.1)
  | .m1 op o a => .mk1 fun c X e g h => no_ h
  | .app o a => .mk1 fun c X e g h => by
    cases e <;> try exact no_ h
    rename_i fn xs kw pos
    cases fn <;> try exact no_ h
    cases xs with
    | nil => exact no_ h
    | cons y ys =>
      cases ys with
      | cons _ _ => exact no_ h
      | nil =>
        cases kw <;> try exact no_ h
        have h' := h
        simp only [chkE] at h'
        obtain ⟨h1, h2, h3⟩ := and3 h'
        exact s_app g h ((snd o).e c X _ g (and2 h1).2) ((snd a).e c X _ g h2)
  | .ext o a => .mk1 fun c X e g h => by
    cases e <;> try exact no_ h
    rename_i fn xs kw pos
    cases fn <;> try exact no_ h
    cases xs with
    | nil => exact no_ h
    | cons y ys =>
      cases ys with
      | cons _ _ => exact no_ h
      | nil =>
        cases kw <;> try exact no_ h
        have h' := h
        simp only [chkE] at h'
        obtain ⟨h1, h2, h3⟩ := and3 h'
        exact s_ext g h ((snd o).e c X _ g (and2 h1).2) ((snd a).e c X _ g h2)
  | .pop o => .mk1 fun c X e g h => by
    cases e <;> try exact no_ h
    rename_i fn xs kw pos
    cases fn <;> try exact no_ h
    cases xs with
    | cons _ _ => exact no_ h
    | nil =>
      cases kw <;> try exact no_ h
      have h' := h
      simp only [chkE] at h'
      exact s_pop g h ((snd o).e c X _ g (and4 h').2.2.2)
  | .popAt o a => .mk1 fun c X e g h => by
    cases e <;> try exact no_ h
    rename_i fn xs kw pos
    cases fn <;> try exact no_ h
    cases xs with
    | nil => exact no_ h
    | cons y ys =>
      cases ys with
      | cons _ _ => exact no_ h
      | nil =>
        cases kw <;> try exact no_ h
        have h' := h
        simp only [chkE] at h'
        obtain ⟨h1, h2, h3⟩ := and3 h'
        exact s_popAt g h ((snd o).e c X _ g (and2 h1).2) ((snd a).e c X _ g h2)
  | .lc own t src ifs elt => .mkN fun c X e g h => by
    cases e <;> try exact no_ h
    rename_i el gs scope pos
    cases gs with
    | nil => exact no_ h
    | cons g0 gs =>
      obtain ⟨tg, it, is, as⟩ := g0
      cases gs with
      | cons _ _ => exact no_ h (by cases as with | ofNat n => cases n <;> rfl | negSucc n => rfl)
      | nil =>
        cases as with
        | negSucc n => exact no_ h
        | ofNat n =>
          cases n with
          | succ n => exact no_ h
          | zero =>
            have h' : (blkC c.N c.sc scope (ownOf c.N own) && noSet it && chkI G src c tg it && tgIn own t && chkTg (blkCtx c scope) t tg && chkTs G ifs (blkCtx c scope) is && chkE G elt (blkCtx c scope) el) = true := h
            obtain ⟨h1, h7⟩ := and2 h'
            obtain ⟨h1, h6⟩ := and2 h1
            obtain ⟨h1, h5⟩ := and2 h1
            obtain ⟨h1, h2, h3, h4⟩ := and4 h1
            exact n_lc g h1 h2 h4 h5 ((snd src).i c X tg it g h3) (fun X' g' e => by rw [← e]; exact (snd ifs).ts _ X' _ g' h6) (fun X' g' e => by rw [← e]; exact (snd elt).e _ X' _ g' h7)
  | .sset a => .mkN fun c X e g h => by
    cases e <;> try exact no_ h
    rename_i fn xs kw pos
    cases fn <;> try exact no_ h
    cases xs with
    | nil => exact no_ h
    | cons z zs =>
      cases z <;> try (cases zs <;> exact no_ h)
      rename_i fn2 ys kw2 pos2
      cases fn2 <;> try (cases zs <;> exact no_ h)
      cases ys with
      | nil => cases zs <;> exact no_ h
      | cons y ys =>
        cases ys with
        | cons _ _ => cases zs <;> exact no_ h
        | nil =>
          cases kw2 <;> try (cases zs <;> exact no_ h)
          cases zs with
          | cons _ _ => exact no_ h
          | nil =>
            cases kw <;> try exact no_ h
            simp only [chkN] at h
            obtain ⟨h1, h2, h3, h4⟩ := and4 h
            exact n_sset g h1 h2 h4 ((snd a).e c X _ g h3)
  | .lrng1 a => .mkN fun c X e g h => by
    cases e <;> try exact no_ h
    rename_i fn xs kw pos
    cases fn <;> try exact no_ h
    cases xs with
    | nil => exact no_ h
    | cons z zs =>
      cases z <;> try (cases zs <;> exact no_ h)
      rename_i fn2 ys kw2 pos2
      cases fn2 <;> try (cases zs <;> exact no_ h)
      cases ys with
      | nil => cases zs <;> exact no_ h
      | cons y ys =>
        cases ys with
        | cons _ _ => cases zs <;> exact no_ h
        | nil =>
          cases kw2 <;> try (cases zs <;> exact no_ h)
          cases zs with
          | cons _ _ => exact no_ h
          | nil =>
            cases kw <;> try exact no_ h
            simp only [chkN] at h
            obtain ⟨h1, h2, h3, h4⟩ := and4 h
            exact n_lrng1 g h1 h2 h4 ((snd a).e c X _ g h3)
  | .lrng2 a b => .mkN fun c X e g h => by
    cases e <;> try exact no_ h
    rename_i fn xs kw pos
    cases fn <;> try exact no_ h
    cases xs with
    | nil => exact no_ h
    | cons z zs =>
      cases z <;> try (cases zs <;> exact no_ h)
      rename_i fn2 ys kw2 pos2
      cases fn2 <;> try (cases zs <;> exact no_ h)
      cases ys with
      | nil => cases zs <;> exact no_ h
      | cons y ys =>
        cases ys with
        | nil => cases zs <;> exact no_ h
        | cons y2 ys =>
          cases ys with
          | cons _ _ => cases zs <;> exact no_ h
          | nil =>
            cases kw2 <;> try (cases zs <;> exact no_ h)
            cases zs with
            | cons _ _ => exact no_ h
            | nil =>
              cases kw <;> try exact no_ h
              simp only [chkN] at h
              obtain ⟨h1, h6⟩ := and2 h
              obtain ⟨h1, h5⟩ := and2 h1
              obtain ⟨h1, h2, h3, h4⟩ := and4 h1
              exact n_lrng2 g h1 h2 h4 h6 ((snd a).e c X _ g h3) ((snd b).e c X _ g h5)
  | .dnew => .mk1 fun c X e g h => by
    cases e <;> try exact no_ h
    rename_i ks vs pos
    cases ks with
    | cons _ _ => exact no_ h
    | nil =>
      cases vs with
      | cons _ _ => exact no_ h
      | nil => exact s_dnew
  | .dix o i => .mk1 fun c X e g h => by
    cases e <;> try exact no_ h
    simp only [chkE] at h
    obtain ⟨h1, h2, h3⟩ := and3 h
    exact s_dix g ((snd o).e c X _ g h1) ((snd i).e c X _ g h2) h3
  | .din neg a b => ⟨fun c X e g h => by
      cases e <;> try exact no_ h
      rename_i l ops rs pos
      cases ops with
      | nil => exact no_ h
      | cons o os =>
        cases os with
        | cons _ _ => exact no_ h
        | nil =>
          cases rs with
          | nil => exact no_ h
          | cons r rs =>
            cases rs with
            | cons _ _ => exact no_ h
            | nil =>
              simp only [chkE] at h
              obtain ⟨h1, h2, h3, h4⟩ := and4 h
              exact s_din g ((snd a).e c X _ g h3) ((snd b).e c X _ g h4) h1 h2, fun c _ es _ h => no_ h, fun c X e g h => by
      cases e <;> try exact no_ h
      rename_i l ops rs pos
      cases ops with
      | nil => exact no_ h
      | cons o os =>
        cases os with
        | cons _ _ => exact no_ h
        | nil =>
          cases rs with
          | nil => exact no_ h
          | cons r rs =>
            cases rs with
            | cons _ _ => exact no_ h
            | nil =>
              simp only [chkT] at h
              obtain ⟨h1, h2, h3, h4⟩ := and4 h
              exact s_dinT g ((snd a).e c X _ g h3) ((snd b).e c X _ g h4) h1 h2, fun c _ op es pos _ h => no_ h, fun c _ es _ h => no_ h, fun c _ e _ h => no_ h, fun c _ e _ h => no_ h, fun c _ tg e _ h => no_ h⟩
  | .dget o a b => .mk1 fun c X e g h => by
    cases e <;> try exact no_ h
    rename_i fn xs kw pos
    cases fn <;> try exact no_ h
    cases xs with
    | nil => exact no_ h
    | cons y ys =>
      cases ys with
      | nil => exact no_ h
      | cons z zs =>
        cases zs with
        | cons _ _ => exact no_ h
        | nil =>
          cases kw <;> try exact no_ h
          have h' := h
          simp only [chkE] at h'
          obtain ⟨h1, h2, h3⟩ := and3 h'
          obtain ⟨h4, h5, h6⟩ := and3 h1
          exact s_dget g h ((snd o).e c X _ g (and2 h4).2) ((snd a).e c X _ g h5) ((snd b).e c X _ g h2)
  | .dsort o => .mkN fun c X e g h => by
    cases e <;> try exact no_ h
    rename_i fn xs kw pos
    cases fn <;> try exact no_ h
    cases xs with
    | nil => exact no_ h
    | cons y ys =>
      cases ys with
      | cons _ _ => exact no_ h
      | nil =>
        cases kw <;> try exact no_ h
        simp only [chkN] at h
        obtain ⟨h1, h2, h3⟩ := and3 h
        exact n_dsort g h1 h3 ((snd o).e c X _ g h2)
  | .it a => .mkI fun c X tg e g h => by
    simp only [chkI] at h
    exact i_it ((snd a).e c X _ g h)
  | .enum a => .mkI fun c X tg e g h => by
    cases tg <;> try exact no_ h
    cases e <;> try exact no_ h
    rename_i fn xs kw pos
    cases fn <;> try exact no_ h
    cases xs with
    | nil => exact no_ h
    | cons y ys =>
      cases ys with
      | cons _ _ => exact no_ h
      | nil =>
        cases kw <;> try exact no_ h
        simp only [chkI] at h
        obtain ⟨h1, h2, h3⟩ := and3 h
        exact i_enum g h1 h3 ((snd a).e c X _ g h2)
  | .rng1 a => .mkI fun c X tg e g h => by
    cases e <;> try exact no_ h
    rename_i fn xs kw pos
    cases fn <;> try exact no_ h
    cases xs with
    | nil => exact no_ h
    | cons y ys =>
      cases ys with
      | cons _ _ => exact no_ h
      | nil =>
        cases kw <;> try exact no_ h
        simp only [chkI] at h
        obtain ⟨h1, h2, h3⟩ := and3 h
        exact i_rng1 g h1 h3 ((snd a).e c X _ g h2)
  | .rng2 a b => .mkI fun c X tg e g h => by
    cases e <;> try exact no_ h
    rename_i fn xs kw pos
    cases fn <;> try exact no_ h
    cases xs with
    | nil => exact no_ h
    | cons y ys =>
      cases ys with
      | nil => exact no_ h
      | cons z zs =>
        cases zs with
        | cons _ _ => exact no_ h
        | nil =>
          cases kw <;> try exact no_ h
          simp only [chkI] at h
          obtain ⟨h1, h5⟩ := and2 h
          obtain ⟨h1, h2, h3, h4⟩ := and4 h1
          exact i_rng2 g h1 h3 h5 ((snd a).e c X _ g h2) ((snd b).e c X _ g h4)
end
end Z
namespace Z
open PySem PySem.Spec L2
open PyProof.Rows hiding St
/-! ### letting go: sound -/
theorem wfs_keys {n : Nat} : ∀ kvs : List (Key × V), wfs n (kvs.map fun p => keyW p.1) = true
  | [] => rfl
  | (k, _) :: r => by
    simp only [List.map_cons, wfs, Bool.and_eq_true]
    exact ⟨by cases k <;> rfl, wfs_keys r⟩
theorem wfs_keyL {n : Nat} : ∀ ks : List Key, wfs n (ks.map keyW) = true
  | [] => rfl
  | k :: r => by
    simp only [List.map_cons, wfs, Bool.and_eq_true]
    exact ⟨by cases k <;> rfl, wfs_keyL r⟩
theorem wfs_keysT {n : Nat} : ∀ kvs : List (List Key × V), wfs n (kvs.map fun p => W.tup (p.1.map keyW)) = true
  | [] => rfl
  | (k, _) :: r => by
    simp only [List.map_cons, wfs, wf, Bool.and_eq_true]
    exact ⟨wfs_keyL k, wfs_keysT r⟩
section
variable {K : Fr6} {mp mp' : M} {H H' : Hp} {n : Nat} {g g' : CH}
mutual
theorem wf_of : ∀ {w : W} {u : V}, Rp K mp H w u → wf mp.ob.length w = true
  | .non, _, _ => rfl
  | .bl _, _, _ => rfl
  | .int _, _, _ => rfl
  | .str _, _, _ => rfl
  | .tup xs, _, r => by
    obtain ⟨a, vs, rfl, f, r⟩ := r.tupI
    simp only [wf]; exact wfs_of r
  | .lst xs, _, r => by
    obtain ⟨a, vs, rfl, f, r⟩ := r.lstI
    simp only [wf]; exact wfs_of r
  | .lck xs, _, r => by
    obtain ⟨a, vs, rfl, f, r⟩ := r.lckI
    simp only [wf]; exact wfs_of r
  | .dct ks xs, _, r => by
    simp only [Rp] at r
    obtain ⟨a, rfl, _, r⟩ := r
    simp only [wf, Bool.and_eq_true]
    rcases r with ⟨kvs, _, rfl, r⟩ | ⟨kvs, _, rfl, r⟩
    · exact ⟨wfs_keys kvs, wfs_of r⟩
    · exact ⟨wfs_keysT kvs, wfs_of r⟩
  | .ob k, _, r => by
    obtain ⟨a, rfl, h⟩ := r.obI
    simp only [wf, decide_eq_true_eq]
    exact (List.getElem?_eq_some_iff.mp h).1
theorem wfs_of : ∀ {xs : List W} {us : List V}, RpL K mp H xs us → wfs mp.ob.length xs = true
  | [], _, _ => rfl
  | x :: xs, _, r => by
    simp only [RpL] at r
    obtain ⟨u, us, rfl, r1, r2⟩ := r
    simp only [wfs, Bool.and_eq_true]
    exact ⟨wf_of r1, wfs_of r2⟩
end
/-- fewer objects are tracked -/
structure Less (n : Nat) (mp mp' : M) : Prop where
  ob : mp.ob = mp'.ob.take n
  hd : mp.hd = mp'.hd
theorem Less.has (l : Less n mp mp') {a : Addr} (h : mp.has a) : mp'.has a := by
  rcases h with h | h
  · rw [l.ob] at h; exact .inl (List.mem_of_mem_take h)
  · rw [l.hd] at h; exact .inr h
theorem FT.less (l : Less n mp mp') {a : Addr} {vs : List V} (f : FT K mp' H a vs) : FT K mp H a vs := by
  refine ⟨f.1, ?_⟩
  rcases f.2 with ⟨h1, h2⟩ | h
  · exact .inl ⟨h1, fun z => h2 (l.has z)⟩
  · exact .inr h
theorem FK.less (l : Less n mp mp') {a : Addr} {vs : List V} (f : FK K mp' H a vs) : FK K mp H a vs := by
  refine ⟨f.1, ?_⟩
  rcases f.2 with ⟨h1, h2⟩ | h
  · exact .inl ⟨h1, fun z => h2 (l.has z)⟩
  · exact .inr h
theorem FL.less (l : Less n mp mp') {a : Addr} {vs : List V} (f : FL mp' H a vs) : FL mp H a vs := ⟨f.1, f.2.1, fun z => f.2.2 (l.has z)⟩
mutual
theorem Rp.less (l : Less n mp mp') : ∀ {w : W} {u : V}, wf n w = true → Rp K mp' H w u → Rp K mp H w u
  | .non, _, _, r => by simp only [Rp] at r ⊢; exact r
  | .bl _, _, _, r => by simp only [Rp] at r ⊢; exact r
  | .int _, _, _, r => by simp only [Rp] at r ⊢; exact r
  | .str _, _, _, r => by simp only [Rp] at r ⊢; exact r
  | .tup xs, _, h, r => by
    simp only [wf] at h
    simp only [Rp] at r ⊢
    obtain ⟨a, vs, h1, f, r⟩ := r
    exact ⟨a, vs, h1, f.less l, RpL.less l h r⟩
  | .lst xs, _, h, r => by
    simp only [wf] at h
    simp only [Rp] at r ⊢
    obtain ⟨a, vs, h1, f, r⟩ := r
    exact ⟨a, vs, h1, f.less l, RpL.less l h r⟩
  | .lck xs, _, h, r => by
    simp only [wf] at h
    simp only [Rp] at r ⊢
    obtain ⟨a, vs, h1, f, r⟩ := r
    exact ⟨a, vs, h1, f.less l, RpL.less l h r⟩
  | .dct ks xs, _, h, r => by
    simp only [wf, Bool.and_eq_true] at h
    simp only [Rp] at r ⊢
    obtain ⟨a, h1, h2, r⟩ := r
    refine ⟨a, h1, fun z => h2 (l.has z), ?_⟩
    rcases r with ⟨kvs, k1, k2, r⟩ | ⟨kvs, k1, k2, r⟩
    · exact .inl ⟨kvs, k1, k2, RpL.less l h.2 r⟩
    · exact .inr ⟨kvs, k1, k2, RpL.less l h.2 r⟩
  | .ob k, _, h, r => by
    simp only [wf, decide_eq_true_eq] at h
    simp only [Rp] at r ⊢
    obtain ⟨a, h1, r⟩ := r
    exact ⟨a, h1, by rw [l.ob, List.getElem?_take_of_lt h]; exact r⟩
theorem RpL.less (l : Less n mp mp') : ∀ {xs : List W} {us : List V}, wfs n xs = true → RpL K mp' H xs us → RpL K mp H xs us
  | [], _, _, r => by simp only [RpL] at r ⊢; exact r
  | x :: xs, _, h, r => by
    simp only [wfs, Bool.and_eq_true] at h
    simp only [RpL] at r ⊢
    obtain ⟨u, us, h1, r1, r2⟩ := r
    exact ⟨u, us, h1, Rp.less l h.1 r1, RpL.less l h.2 r2⟩
end
mutual
theorem Fz.rp (l : Less n mp mp') (s : Sim K mp' g H) : ∀ {w w' : W} {u : V}, Fz n g w w' → Rp K mp' H w u → Rp K mp H w' u
  | _, _, _, .same h, r => r.less l h
  | _, _, _, .tup h, r => by
    simp only [Rp] at r ⊢
    obtain ⟨a, vs, h1, f, r⟩ := r
    exact ⟨a, vs, h1, f.less l, Fzs.rp l s h r⟩
  | _, _, _, .lst h, r => by
    simp only [Rp] at r ⊢
    obtain ⟨a, vs, h1, f, r⟩ := r
    exact ⟨a, vs, h1, f.less l, Fzs.rp l s h r⟩
  | _, _, _, .ob (k := k) h1 h2 h3, r => by
    obtain ⟨a, rfl, h4⟩ := r.obI
    obtain ⟨b, h5, vs, h6, h7, h8⟩ := s.at_ h2
    rw [h4] at h5; cases h5
    simp only [Rp]
    refine ⟨a, vs, rfl, ⟨h7, h6, fun z => ?_⟩, Fzs.rp l s h3 h8⟩
    rcases z with z | z
    · rw [l.ob] at z
      obtain ⟨j, hj, e⟩ := List.mem_take_iff_getElem.mp z
      obtain ⟨hk, e2⟩ := List.getElem?_eq_some_iff.mp h4
      have := (List.getElem_inj s.nd).mp (e.trans e2.symm)
      omega
    · rw [l.hd] at z
      exact (s.hid a z).2 (List.mem_of_getElem? h4)
  | _, _, _, .obd (k := k) h1 h2 h3, r => by
    obtain ⟨a, rfl, h4⟩ := r.obI
    obtain ⟨b, h5, ro⟩ := s.at_ h2
    rw [h4] at h5; cases h5
    simp only [Rp]
    refine ⟨a, rfl, fun z => ?_, ?_⟩
    · rcases z with z | z
      · rw [l.ob] at z
        obtain ⟨j, hj, e⟩ := List.mem_take_iff_getElem.mp z
        obtain ⟨hk, e2⟩ := List.getElem?_eq_some_iff.mp h4
        have := (List.getElem_inj s.nd).mp (e.trans e2.symm)
        omega
      · rw [l.hd] at z
        exact (s.hid a z).2 (List.mem_of_getElem? h4)
    · rcases ro with ⟨kvs, k1, k2, k3⟩ | ⟨kvs, ⟨k1, k0⟩, k2, k3⟩
      · exact .inl ⟨kvs, .inl k1, k2, Fzs.rp l s h3 k3⟩
      · exact .inr ⟨kvs, ⟨.inl k1, k0⟩, k2, Fzs.rp l s h3 k3⟩
theorem Fzs.rp (l : Less n mp mp') (s : Sim K mp' g H) : ∀ {xs ys : List W} {us : List V}, Fzs n g xs ys → RpL K mp' H xs us → RpL K mp H ys us
  | _, _, _, .nil, r => by simp only [RpL] at r ⊢; exact r
  | _, _, _, .cons h1 h2, r => by
    simp only [RpL] at r ⊢
    obtain ⟨u, us, h, r1, r2⟩ := r
    exact ⟨u, us, h, Fz.rp l s h1 r1, Fzs.rp l s h2 r2⟩
end
theorem FzO.ro (l : Less n mp mp') (s : Sim K mp' g H) {w w' : W} {a : Addr} (f : FzO n g w w') (r : RO K mp' H a w) : RO K mp H a w' := by
  cases f with
  | lst h =>
    obtain ⟨vs, h1, h2, r⟩ := r
    exact ⟨vs, h1, h2, Fzs.rp l s h r⟩
  | dct h =>
    rcases r with ⟨kvs, h1, h2, r⟩ | ⟨kvs, h1, h2, r⟩
    · exact .inl ⟨kvs, h1, h2, Fzs.rp l s h r⟩
    · exact .inr ⟨kvs, h1, h2, Fzs.rp l s h r⟩
theorem RO.less (l : Less n mp mp') {w : W} {a : Addr} (h : wf n w = true) (r : RO K mp' H a w) : RO K mp H a w := by
  cases w with
  | lst xs =>
    obtain ⟨vs, h1, h2, r⟩ := r
    exact ⟨vs, h1, h2, r.less l h⟩
  | dct ks xs =>
    simp only [wf, Bool.and_eq_true] at h
    rcases r with ⟨kvs, h1, h2, r⟩ | ⟨kvs, h1, h2, r⟩
    · exact .inl ⟨kvs, h1, h2, r.less l h.2⟩
    · exact .inr ⟨kvs, h1, h2, r.less l h.2⟩
  | _ => exact False.elim r
theorem RO.wf {w : W} {a : Addr} (r : RO K mp H a w) : Z.wf mp.ob.length w = true := by
  cases w with
  | lst xs =>
    obtain ⟨vs, h1, h2, r⟩ := r
    exact wfs_of r
  | dct ks xs =>
    simp only [Z.wf, Bool.and_eq_true]
    rcases r with ⟨kvs, h1, rfl, r⟩ | ⟨kvs, h1, rfl, r⟩
    · exact ⟨wfs_keys kvs, wfs_of r⟩
    · exact ⟨wfs_keysT kvs, wfs_of r⟩
  | _ => exact False.elim r
/-- the tracked objects from n on are let go -/
theorem FzG.sim {mp0 : M} {H0 : Hp} {g0 g2 g3 : CH} (s0 : Sim K mp0 g0 H0) (e : Ext mp0 H0 mp' H) (s : Sim K mp' g2 H) (f : FzG g0.length g0 g2 g3) : Less g0.length mp0 mp' ∧ Sim K mp0 g3 H ∧ Ext mp0 H0 mp0 H := by
  have l : Less g0.length mp0 mp' := by
    refine ⟨?_, e.hd.symm⟩
    obtain ⟨t, ht⟩ := e.pre
    rw [← ht, ← s0.len]
    simp
  have e' : Ext mp0 H0 mp0 H := ⟨List.prefix_refl _, fun _ h => .inl h, e.keep, rfl⟩
  refine ⟨l, ⟨s0.nd, by rw [s0.len, f.1], fun i w hw => ?_, fun b hb => ?_, s0.ndh⟩, e'⟩
  · have hi : i < g0.length := by
      have := (List.getElem?_eq_some_iff.mp hw).1
      rw [f.1] at this; exact this
    have up : ∀ {w : W} {a : Addr}, mp'.ob[i]? = some a → mp0.ob[i]? = some a := fun {w a} h => by rw [l.ob, List.getElem?_take_of_lt hi]; exact h
    rw [← nth_eq] at hw
    rcases f.2.2 i hi with ⟨h1, h2⟩ | ⟨w1, w2, h1, h2, h3⟩
    · rw [hw] at h1 h2
      obtain ⟨a, h3, h4⟩ := s.at_ h1
      obtain ⟨b, h5, h6⟩ := s0.at_ h2
      refine ⟨a, up (w := w) h3, h4.less l ?_⟩
      have := h6.wf
      rw [s0.len] at this
      exact this
    · rw [hw] at h2
      cases h2
      obtain ⟨a, h4, h5⟩ := s.at_ h1
      exact ⟨a, up (w := w) h4, h3.ro l s h5⟩
  · rw [← e.hd] at hb
    obtain ⟨h1, h2⟩ := s.hid b hb
    exact ⟨h1, fun z => h2 (e.sub z)⟩
theorem let_go {mp0 : M} {H0 : Hp} {g0 g2 g3 : CH} {e0 e2 e3 : Env} {σ0 σ : St} (s0 : SR K mp0 e0 g0 σ0 H0) (e : Ext mp0 H0 mp' H) (s : SR K mp' e2 g2 σ H) (fe : FzE g0.length g2 e0 e2 e3) (f : FzG g0.length g0 g2 g3) :
    SR K mp0 e3 g3 σ H ∧ Ext mp0 H0 mp0 H := by
  obtain ⟨l, s3, e'⟩ := f.sim s0.2 e s.2
  refine ⟨⟨⟨by rw [fe.1]; exact s.1.1, fun i w hw => ?_⟩, s3⟩, e'⟩
  rcases fe.2 i w (slot_of hw) with ⟨h1, h2⟩ | ⟨w2, h1, h2⟩
  · obtain ⟨u, h3, h4⟩ := s.1.slot h1
    obtain ⟨u0, _, h6⟩ := s0.1.slot h2
    have h7 := wf_of h6
    rw [s0.2.len] at h7
    exact ⟨u, h3, h4.less l h7⟩
  · obtain ⟨u, h3, h4⟩ := s.1.slot h1
    exact ⟨u, h3, h2.rp l s.2 h4⟩
theorem ret_go {mp0 : M} {H0 : Hp} {g0 g2 g3 : CH} {w w' : W} {u : V} (s0 : Sim K mp0 g0 H0) (e : Ext mp0 H0 mp' H) (s : Sim K mp' g2 H) (r : Rp K mp' H w u) (fe : Fz g0.length g2 w w') (f : FzG g0.length g0 g2 g3) :
    Rp K mp0 H w' u ∧ Sim K mp0 g3 H ∧ Ext mp0 H0 mp0 H := by
  obtain ⟨l, s3, e'⟩ := f.sim s0 e s
  exact ⟨fe.rp l s r, s3, e'⟩
end
end Z
namespace Z
open PySem PySem.Spec L2
open PyProof.Rows hiding St
/-! ### statements: the check -/
/-- what stands behind = for a comprehension: is its store exchanged with the letting go of its names -/
def notComp : Expr → Bool
  | .ListComp .. => false | .SetComp .. => false | .DictComp .. => false
  | _ => true
def notTup : Expr → Bool
  | .Tuple .. => false | .List .. => false
  | _ => true
def isNm : Expr → Bool
  | .Name .. => true
  | _ => false
/-- two written tuples whose stores go from the left (no two or three of one length) -/
def far : Expr → Expr → Bool
  | .Tuple ts _ _, .Tuple vs _ _ => !(ts.length == 2 || ts.length == 3) || vs.length != ts.length
  | _, _ => false
/-- a comprehension whose store is not exchanged -/
def swapF (c : Ctx) : Expr → Expr → Bool
  | .Name y py, .ListComp _ _ scope pos => !(c.sc.names.lookup y == some .local) || !(py.line == pos.line) || (scope.names.any fun (n, k) => n == y && (k == .local || k == .cell))
  | .Tuple .., .ListComp .. => true
  | .Subscript .., .ListComp .. => true
  | _, _ => false
def swOk (c : Ctx) (t v : Expr) : Bool := notComp v || swapF c t v
def asgOk (c : Ctx) (t v : Expr) : Bool := swOk c t v && (notTup t || notTup v || far t v)
def isLoc (c : Ctx) (x : Str) : Bool := match c.sc.names.lookup x with
  | some .local => true
  | _ => false
def isFun (c : Ctx) : Bool := match c.sc.kind with
  | .function => true
  | _ => false
theorem isLoc_of {c : Ctx} {x : Str} (h : isLoc c x = true) : c.sc.names.lookup x = some .local := by
  unfold isLoc at h
  split at h
  · assumption
  · cases h
theorem isFun_of {c : Ctx} (h : isFun c = true) : c.sc.kind = .function := by
  unfold isFun at h
  split at h
  · assumption
  · cases h
/-- .. of a comprehension at a local name -/
def compOk (c : Ctx) (t v : Expr) : Option Str := match t, v with
  | .Name y py, .ListComp _ _ scope pos => if isLoc c y && isFun c && (py.line == pos.line) && !(scope.names.any fun (n, k) => n == y && (k == .local || k == .cell)) then some y else none
  | _, _ => none
def isLc : E → Bool
  | .mk (.lc ..) => true
  | .fz (.lc ..) => true
  | _ => false
def parOk (c : Ctx) : Expr → Expr → Nat → Nat → Bool
  | .Tuple [.Name x px, .Name y py] _ _, .Tuple [a, b] _ _, i, j => decide (c.N[i]? = some x) && decide (c.N[j]? = some y) && decide (i ≠ j) && isLoc c x && isLoc c y && isFun c && noStar a && noStar b && (py.line == px.line) && !(x == y) && !([a, b].all (foldedForSure 8)) && !([a, b].all (constantsAlone 8))
  | _, _, _, _ => false
def augB : Bop → Operator → Bool
  | .add, .Add => true | .sub, .Sub => true | .band, .BitAnd => true | .bor, .BitOr => true | .bxor, .BitXor => true
  | _, _ => false
mutual
def chkS (G : Globs) (c : Ctx) : S → Stmt → Bool
  | .nop, .Pass _ => true
  | .nop, .Expr (.Constant (.str _) _ _) _ => true
  | .set t e, .Assign [tg] v _ => chkTg c t tg && chkE G e c v && (asgOk c tg v || (isLc e && (compOk c tg v).isSome))
  | .par i j a b, .Assign [tg] v _ => parOk c tg v i j && (match v with
    | .Tuple [x, y] _ _ => chkE G a c x && chkE G b c y
    | _ => false)
  | .setix o i e, .Assign [.Subscript x s p] v _ => chkE G o c x && chkE G i c s && chkE G e c v && noSlice s && swOk c (.Subscript x s p) v
  | .setd o i e, .Assign [.Subscript x s p] v _ => chkE G o c x && chkE G i c s && chkE G e c v && noSlice s && swOk c (.Subscript x s p) v
  | .aug i op e, .AugAssign (.Name x _) o v _ => decide (c.N[i]? = some x) && locB c x && augB op o && chkE G e c v
  | .ite t a b, .If x y z _ => chkT G t c x && chkB G c a y && chkB G c b z
  | .loop _ t src body, .For tg it bd [] _ => chkTg c t tg && chkI G src c tg it && noSet it && chkB G c body bd
  | .whil _ t body, .While x bd [] _ => chkT G t c x && chkB G c body bd
  | .ret e, .Return (some v) _ => chkE G e c v
  | .retN, .Return none _ => true
  | .ex e, .Expr v _ => chkE G e c v && notComp v
  | .brk, .Break _ => true
  | .cont, .Continue _ => true
  | _, _ => false
def chkB (G : Globs) (c : Ctx) : S → List Stmt → Bool
  | .nop, [] => true
  | .seq a b, st :: rest => chkS G c a st && chkB G c b rest
  | _, _ => false
end
/-! ### statements: sound -/
structure PostR (K : Fr6) (mp : M) (H : Hp) (P : Post) (D : Ends) : Prop where
  nx : ∀ e g, P.nx e g → ∀ mp' H' σ', Ext mp H mp' H' → SR K mp' e g σ' H' → D.nx σ' H'
  bk : ∀ e g, P.bk e g → ∀ mp' H' σ', Ext mp H mp' H' → SR K mp' e g σ' H' → D.bk σ' H'
  ct : ∀ e g, P.ct e g → ∀ mp' H' σ', Ext mp H mp' H' → SR K mp' e g σ' H' → D.ct σ' H'
  rt : ∀ v g, P.rt v g → ∀ mp' H' u, Ext mp H mp' H' → Sim K mp' g H' → Rp K mp' H' v u → D.rt u H'
def tvS (K : Fr6) (F : FSem) (m : S) : TS := fun D σ H => ∃ mp env g P, SR K mp env g σ H ∧ wpS F m env g P ∧ PostR K mp H P D
section
variable {K : Fr6} {mp mp' : M} {H H' : Hp} {P : Post} {D : Ends}
theorem PostR.ext (p : PostR K mp H P D) (e : Ext mp H mp' H') : PostR K mp' H' P D :=
  ⟨fun a b q m h σ f => p.nx a b q m h σ (e.trans f), fun a b q m h σ f => p.bk a b q m h σ (e.trans f), fun a b q m h σ f => p.ct a b q m h σ (e.trans f), fun a b q m h σ f => p.rt a b q m h σ (e.trans f)⟩
end
section
variable {X : Cx} {G : Globs} {F : FSem} {d : Nat} {c : Ctx}
theorem swaps_plain {v : Expr} {t : Option Expr} {l : Nat} {env : PySem.Env} (h : notComp v = true) : swapsWith v t l env = pure false := by
  cases v <;> first | rfl | cases h
theorem sole_plain {v t : Expr} {l : Nat} {env : PySem.Env} (h : notComp v = true) : swapsWithSole [t] v l env = pure false := swaps_plain h
theorem sole_ok {c : Ctx} {v t : Expr} {l : Nat} {env : PySem.Env} (hs : env.scope = c.sc) (h : swOk c t v = true) : swapsWithSole [t] v l env = pure false := by
  unfold swOk at h
  rcases Bool.or_eq_true_iff.mp h with h | h
  · exact sole_plain h
  · cases t <;> cases v <;> first | (exact no_ h) | rfl | skip
    rename_i y py el gs scope pos _
    have hk : ∀ x, env.kindOf x = c.sc.names.lookup x := fun x => by rw [← hs]; rfl
    simp only [swapF] at h
    have e0 : swapsWithSole [Expr.Name y py] (.ListComp el gs scope pos) l env = swapsWith (.ListComp el gs scope pos) (some (.Name y py)) l env := rfl
    rw [e0]
    unfold swapsWith
    simp only [hk, Expr.pos]
    have e : (env.blockKind == .function && c.sc.names.lookup y == some .local && py.line == pos.line && !(scope.names.any fun (n, k) => n == y && (k == .local || k == .cell))) = false := by
      rcases Bool.or_eq_true_iff.mp h with h | h
      · rcases Bool.or_eq_true_iff.mp h with h | h
        · rw [Bool.not_eq_true'] at h
          rw [h]; simp
        · rw [Bool.not_eq_true'] at h
          rw [h]; simp
      · rw [h]; simp
    exact congrArg pure e
theorem stores_plain {t v : Expr} {env : PySem.Env} (h : (notTup t || notTup v || far t v) = true) : swappedStores [t] v env = pure none := by
  have n2 : ∀ (ts vs : List Expr), (!(ts.length == 2 || ts.length == 3) || vs.length != ts.length) = true → (!(ts.length == 2 || ts.length == 3) || vs.length != ts.length || env.blockKind != .function) = true := fun ts vs h => by rw [h]; rfl
  cases t <;> cases v <;> first
    | rfl
    | (exfalso; simp [notTup, far] at h; done)
    | (simp only [notTup, far, Bool.false_or] at h
       unfold swappedStores
       simp only [n2 _ _ h, if_true]
       try rfl)
theorem asg_one {t : Expr} {env : PySem.Env} (h : noStar t = true) : (assignEach [t] env).map (·.2) = [assign t env] := by rw [assign_starEach h]; rfl
theorem tg_noStar {c : Ctx} {t : T} {e : Expr} (h : chkTg c t e = true) : noStar e = true := by
  cases e <;> first | rfl | (cases t <;> simp [chkTg] at h)
theorem set_read {t : T} {m : E} {D : Ends} {σ : St} {H : Hp} (h : tvS X.K F (.set t m) D σ H) : tAsg (tvE X.K F m) (tvG X.K t) D σ H := by
  obtain ⟨mp, env, g, P, sr, hw, k⟩ := h
  simp only [wpS] at hw
  refine ⟨mp, env, g, _, sr, hw, fun w g1 hq mp1 H1 u e1 s1 r1 => ?_⟩
  obtain ⟨env1, ha, hq⟩ := hq
  exact ⟨mp1, env, g1, w, env1, sr.ext e1 s1, r1, ha, fun σ' er _ => k.nx _ _ hq mp1 H1 σ' e1 ⟨er, s1⟩⟩
theorem S_set (g : Good G F d c X) {t : T} {m : E} {tg v : Expr} {pos : Pos} (ht : chkTg c t tg = true) (hv : chkE G m c v = true) (h : asgOk c tg v = true) : PS X (.Assign [tg] v pos) (tvS X.K F (.set t m)) := by
  unfold asgOk at h
  obtain ⟨h1, h2⟩ := and2 h
  exact PS.weak (ps_asg ((snd m).e c X v g hv) (g_ok g t tg ht) (sole_ok g.sc h1) (stores_plain h2) (asg_one (tg_noStar ht))) fun D σ H q => set_read q
theorem S_setLc (g : Good G F d c X) {t : T} {m : E} {tg v : Expr} {pos : Pos} (ht : chkTg c t tg = true) (hv : chkE G m c v = true) (hm : isLc m = true) (h : (compOk c tg v).isSome = true) : PS X (.Assign [tg] v pos) (tvS X.K F (.set t m)) := by
  cases tg <;> try (exfalso; simp [compOk] at h; done)
  rename_i y py
  cases v <;> try (exfalso; simp [compOk] at h; done)
  rename_i el gs scope vpos
  simp only [compOk] at h
  split at h
  · rename_i hc
    obtain ⟨hc, c4⟩ := and2 hc
    obtain ⟨c1, c2, c3⟩ := and3 hc
    rw [Bool.not_eq_true'] at c4
    have hyl := isLoc_of c1
    have hk := isFun_of c2
    cases t <;> try (exfalso; simp [chkTg] at ht; done)
    rename_i i
    simp only [chkTg, Bool.and_eq_true, decide_eq_true_eq] at ht
    -- the comprehension
    have main : ∀ {own : List Nat} {t2 : T} {src ifs elt : E}, chkN G (.lc own t2 src ifs elt) c (.ListComp el gs scope vpos) = true → PS X (.Assign [.Name y py] (.ListComp el gs scope vpos) pos) (tAsg (tvN X.K F (.lc own t2 src ifs elt)) (gName i)) := fun {own t2 src ifs elt} hn => by
      cases gs with
      | nil => exact no_ hn
      | cons g0 gs =>
        obtain ⟨tg, it, is, as⟩ := g0
        cases gs with
        | cons _ _ => exact no_ hn (by cases as with | ofNat n => cases n <;> rfl | negSucc n => rfl)
        | nil =>
          cases as with
          | negSucc n => exact no_ hn
          | ofNat n =>
            cases n with
            | succ n => exact no_ hn
            | zero =>
              have h' : (blkC c.N c.sc scope (ownOf c.N own) && noSet it && chkI G src c tg it && tgIn own t2 && chkTg (blkCtx c scope) t2 tg && chkTs G ifs (blkCtx c scope) is && chkE G elt (blkCtx c scope) el) = true := hn
              obtain ⟨h1, h7⟩ := and2 h'
              obtain ⟨h1, h6⟩ := and2 h1
              obtain ⟨h1, h5⟩ := and2 h1
              obtain ⟨h1, h2, h3, h4⟩ := and4 h1
              exact ps_lc g ht.1 hyl hk c3 c4 h1 h2 h4 h5 ((snd src).i c X tg it g h3) (fun X' g' e => by rw [← e]; exact (snd ifs).ts _ X' _ g' h6) (fun X' g' e => by rw [← e]; exact (snd elt).e _ X' _ g' h7)
    cases m <;> try (exfalso; simp [isLc] at hm; done)
    · rename_i a
      cases a <;> try (exfalso; simp [isLc] at hm; done)
      simp only [chkE] at hv
      refine PS.weak (main hv) fun D σ H ⟨mp, env, g, P, sr, hw, k⟩ => ?_
      simp only [wpS, wpE] at hw
      refine ⟨mp, env, g, _, sr, hw, fun xs g1 hq mp1 H1 a vs e1 s1 hn h hz r => ?_⟩
      obtain ⟨env1, ha, hq⟩ := opt_add hq
      simp only [asg, Option.some.injEq] at ha
      subst ha
      have e2 := e1.track hn
      have hl : mp1.ob.length = g1.length := s1.len
      have ro : Rp X.K (mp1.track a) H1 (.ob g1.length) (.ref a) := by
        simp only [Rp]
        refine ⟨a, rfl, ?_⟩
        show (mp1.ob ++ [a])[g1.length]? = some a
        rw [List.getElem?_append_right (by omega), hl]
        simp
      exact k.nx _ _ hq (mp1.track a) H1 _ e2 ⟨(sr.1.ext e2).set ro i, s1.track h hz r⟩
    · rename_i a
      cases a <;> try (exfalso; simp [isLc] at hm; done)
      simp only [chkE] at hv
      refine PS.weak (main hv) fun D σ H ⟨mp, env, g, P, sr, hw, k⟩ => ?_
      simp only [wpS, wpE] at hw
      refine ⟨mp, env, g, _, sr, hw, fun xs g1 hq mp1 H1 a vs e1 s1 hn h hz r => ?_⟩
      obtain ⟨env1, ha, hq⟩ := hq
      simp only [asg, Option.some.injEq] at ha
      subst ha
      have ro : Rp X.K mp1 H1 (.lst xs) (.ref a) := by
        simp only [Rp]
        exact ⟨a, vs, rfl, ⟨hz, h, s1.hidden⟩, r.unhide⟩
      exact k.nx _ _ hq mp1 H1 _ e1 ⟨(sr.1.ext e1).set ro i, s1.unhide⟩
  · cases h
theorem S_setix (g : Good G F d c X) {o i e : E} {x s v : Expr} {p pos : Pos} (ho : PE X x (tvE X.K F o)) (hi : PE X s (tvE X.K F i)) (he : PE X v (tvE X.K F e)) (hs : noSlice s = true) (hv : swOk c (.Subscript x s p) v = true) :
    PS X (.Assign [.Subscript x s p] v pos) (tvS X.K F (.setix o i e)) := by
  refine PS.weak (ps_asg he (pg_sub ho hi set_list (by intro v; cases s <;> first | rfl | cases hs)) (sole_ok g.sc hv) (stores_plain rfl) (asg_one rfl)) fun D σ H ⟨mp, env, g, P, sr, hw, k⟩ => ?_
  simp only [wpS] at hw
  refine ⟨mp, env, g, _, sr, hw, fun w g1 hq mp1 H1 u1 e1 s1 r1 => ?_⟩
  refine ⟨mp1, env, g1, _, sr.ext e1 s1, hq, fun x g2 hq2 mp2 H2 u2 e2 s2 r2 => ?_⟩
  refine ⟨mp2, env, g2, _, (sr.ext e1 s1).ext e2 s2, hq2, fun y g3 hq3 mp3 H3 u3 e3 s3 r3 => ?_⟩
  obtain ⟨q, hq, hq3⟩ := hq3
  obtain ⟨a, vs, rfl, h5, h6, h7, h8⟩ := ob_of s3 (r2.ext e3) hq
  cases y with
  | int n =>
    obtain ⟨j, hj, hq3⟩ := hq3
    have hq3 := opt_put (opt_put hq3)
    have hl := h8.length
    have ew : Ext mp3 H3 mp3 (upd H3 a (.lst (vs.set j u1))) := .wr (List.mem_of_getElem? h5)
    have e13 := ((e1.trans e2).trans e3).trans ew
    refine ⟨a, vs, n, j, rfl, r3.intI, h6, by rw [← hl]; exact hj, k.nx _ _ hq3 mp3 _ σ e13 ⟨sr.1.ext e13, s3.wr h5 (by rw [List.length_set]; exact h7) (h8.set j ((r1.ext e2).ext e3))⟩⟩
  | _ => exact False.elim hq3
theorem S_setd (g : Good G F d c X) {o i e : E} {x s v : Expr} {p pos : Pos} (ho : PE X x (tvE X.K F o)) (hi : PE X s (tvE X.K F i)) (he : PE X v (tvE X.K F e)) (hs : noSlice s = true) (hv : swOk c (.Subscript x s p) v = true) :
    PS X (.Assign [.Subscript x s p] v pos) (tvS X.K F (.setd o i e)) := by
  refine PS.weak (ps_asg he (pg_sub ho hi (set_dict (hu1 g)) (by intro v; cases s <;> first | rfl | cases hs)) (sole_ok g.sc hv) (stores_plain rfl) (asg_one rfl)) fun D σ H ⟨mp, env, g, P, sr, hw, k⟩ => ?_
  simp only [wpS] at hw
  refine ⟨mp, env, g, _, sr, hw, fun w g1 hq mp1 H1 u1 e1 s1 r1 => ?_⟩
  refine ⟨mp1, env, g1, _, sr.ext e1 s1, hq, fun x g2 hq2 mp2 H2 u2 e2 s2 r2 => ?_⟩
  refine ⟨mp2, env, g2, _, (sr.ext e1 s1).ext e2 s2, hq2, fun y g3 hq3 mp3 H3 u3 e3 s3 r3 => ?_⟩
  obtain ⟨q, hq, ky, hk, hl, hq3⟩ := hq3
  obtain ⟨a, kvs, rfl, h5, h6, h7, h8⟩ := dob_at s3 (r2.ext e3) hq
  have hq3 := opt_put (opt_putD hq3)
  rw [h7] at hl hq3
  have ew : Ext mp3 H3 mp3 (upd H3 a (.dK (putK kvs ky u1))) := .wrO (List.mem_of_getElem? h5)
  have e13 := ((e1.trans e2).trans e3).trans ew
  refine ⟨a, _, rfl, .inl ⟨kvs, ky, h6, keyOf_rp r3 hk, by rw [List.length_map] at hl; exact hl, rfl⟩, k.nx _ _ hq3 mp3 _ σ e13 ⟨sr.1.ext e13, s3.wrO h5 (.inl ⟨_, upd_same, ?_, ?_⟩)⟩⟩
  · rw [← dput_keys (v := u1), List.map_map]; rfl
  · exact RpL.ext ew (dput_rp ((r1.ext e2).ext e3) h8)
theorem S_ret {e : E} {v : Expr} {pos : Pos} (he : PE X v (tvE X.K F e)) : PS X (.Return (some v) pos) (tvS X.K F (.ret e)) :=
  PS.weak (ps_ret he) fun D σ H ⟨mp, env, g, P, sr, hw, k⟩ => ⟨mp, env, g, P.rt, sr, by simpa only [wpS] using hw, fun w g1 hq mp1 H1 u1 e1 s1 r1 => k.rt w g1 hq mp1 H1 u1 e1 s1 r1⟩
theorem S_ite {t : E} {a b : S} {x : Expr} {y z : List Stmt} {pos : Pos} (ht : PT X x (tvT X.K F t)) (ha : PSs X y (tvS X.K F a)) (hb : PSs X z (tvS X.K F b)) : PS X (.If x y z pos) (tvS X.K F (.ite t a b)) := by
  refine PS.weak (ps_if ht ha hb) fun D σ H ⟨mp, env, g, P, sr, hw, k⟩ => ?_
  simp only [wpS] at hw
  refine ⟨mp, env, g, _, sr, hw, fun b g1 hq mp1 H1 e1 s1 => ?_⟩
  cases b with
  | true => exact ⟨mp1, env, g1, P, sr.ext e1 s1, hq, k.ext e1⟩
  | false => exact ⟨mp1, env, g1, P, sr.ext e1 s1, hq, k.ext e1⟩
theorem turn_go {K : Fr6} {gc : Bool} {mp0 mp' : M} {H0 H : Hp} {g0 g2 : CH} {e0 e2 : Env} {σ0 σ : St} {k : Env → CH → Prop} (s0 : SR K mp0 e0 g0 σ0 H0) (e : Ext mp0 H0 mp' H) (s : SR K mp' e2 g2 σ H) (h : turnEnd gc e0 g0 k e2 g2) :
    ∃ mp2 e3 g3, Ext mp0 H0 mp2 H ∧ SR K mp2 e3 g3 σ H ∧ k e3 g3 := by
  unfold turnEnd at h
  split at h
  · obtain ⟨e3, g3, fe, fg, h⟩ := h
    obtain ⟨h1, h2⟩ := let_go s0 e s fe fg
    exact ⟨mp0, e3, g3, h2, h1, h⟩
  · exact ⟨mp', e2, g2, e, s, h⟩
theorem S_loop (g : Good G F d c X) {gc : Bool} {t : T} {src : E} {body : S} {tg it : Expr} {bd : List Stmt} {pos : Pos} (ht : chkTg c t tg = true) (hs : noSet it = true) (hi : PI X tg it (tvI X.K F src)) (hb : PSs X bd (tvS X.K F body)) :
    PS X (.For tg it bd [] pos) (tvS X.K F (.loop gc t src body)) := by
  refine PS.weak (ps_for (by rw [g.xe]; exact PassesOwn.never) g.calm hi (g_ok g t tg ht) hb (noFold hs)) fun D σ H ⟨mp, env, g, P, sr, hw, k⟩ => ?_
  simp only [wpS] at hw
  refine ⟨mp, env, g, _, sr, hw, fun o xs g1 hq mp1 H1 J e1 s1 gv => ?_⟩
  have sr1 := sr.ext e1 s1
  refine ⟨fun i m σ2 H2 => m = xs.length - i ∧ i ≤ xs.length ∧ ∃ mp2 e2 g2, Ext mp1 H1 mp2 H2 ∧ SR X.K mp2 e2 g2 σ2 H2 ∧ forL gc env g1 t (wpS F body) o xs (xs.drop i) e2 g2 P, ⟨xs.length, rfl, Nat.zero_le _, mp1, env, g1, .refl, sr1, hq⟩, ?_⟩
  rintro i m σ2 H2 ⟨rfl, hi, mp2, e2, g2, x2, sr2, hl⟩
  by_cases hlt : i < xs.length
  · have hx : xs[i]? = some xs[i] := List.getElem?_eq_getElem hlt
    rw [drop_cons hx] at hl
    simp only [forL] at hl
    obtain ⟨st, env1, hasg, hl⟩ := hl
    obtain ⟨go, yl⟩ := gv.go mp2 g2 H2 x2.e0 sr2.2 st i hlt
    refine .inr ⟨go, fun σ' H' => ∃ mp2 e2 g2, Ext mp1 H1 mp2 H' ∧ SR X.K mp2 e2 g2 σ' H' ∧ forL gc env g1 t (wpS F body) o xs (xs.drop (i + 1)) e2 g2 P, fun σ' H' hN => ⟨xs.length - (i + 1), by omega, rfl, hlt, hN⟩, fun x H3 hy => ?_⟩
    obtain ⟨e3, s3, w, hw3, r3⟩ := yl x H3 hy
    rw [hx] at hw3
    cases hw3
    refine ⟨mp2, e2, g2, xs[i], env1, ⟨sr2.1.ext e3, s3⟩, r3, hasg, fun σ3 er3 _ => ?_⟩
    have e13 := x2.trans e3
    have k3 := k.ext (e1.trans e13)
    exact ⟨mp2, env1, g2, _, ⟨er3, s3⟩, hl, ⟨fun e' g' q mp' H' σ' x' s' => turn_go sr1 (e13.trans x') s' q, fun e' g' q mp' H' σ' x' s' => k3.nx e' g' q mp' H' σ' x' s', fun e' g' q mp' H' σ' x' s' => turn_go sr1 (e13.trans x') s' q, k3.rt⟩⟩
  · have hi' : i = xs.length := by omega
    subst hi'
    rw [List.drop_length] at hl
    simp only [forL] at hl
    exact .inl ⟨gv.stop mp2 g2 H2 x2.e0 sr2.2 hl.1, k.nx _ _ hl.2 mp2 H2 σ2 (e1.trans x2) sr2⟩
theorem S_whil (g : Good G F d c X) {gc : Bool} {t : E} {body : S} {x : Expr} {bd : List Stmt} {pos : Pos} (ht : PT X x (tvT X.K F t)) (hb : PSs X bd (tvS X.K F body)) :
    PS X (.While x bd [] pos) (tvS X.K F (.whil gc t body)) := by
  refine PS.weak (ps_while (by rw [g.xe]; exact PassesOwn.never) ht hb) fun D σ H ⟨mp, env, g, P, sr, hw, k⟩ => ?_
  simp only [wpS] at hw
  obtain ⟨n, hw⟩ := hw
  refine ⟨fun m σ2 H2 => ∃ mp2 e2 g2, Ext mp H mp2 H2 ∧ SR X.K mp2 e2 g2 σ2 H2 ∧ whileL gc env g (wpT F t) (wpS F body) m e2 g2 P, ⟨n, mp, env, g, .refl, sr, hw⟩, ?_⟩
  rintro m σ2 H2 ⟨mp2, e2, g2, x2, sr2, hl⟩
  cases m with
  | zero => exact hl.elim
  | succ m =>
    simp only [whileL] at hl
    refine ⟨mp2, e2, g2, _, sr2, hl, fun b g3 hq mp3 H3 e3 s3 => ?_⟩
    have e13 := x2.trans e3
    have k3 := k.ext e13
    cases b with
    | true =>
      exact ⟨fun σ' H' => ∃ mp2 e2 g2, Ext mp H mp2 H' ∧ SR X.K mp2 e2 g2 σ' H' ∧ whileL gc env g (wpT F t) (wpS F body) m e2 g2 P, fun σ' H' hN => ⟨m, Nat.lt_succ_self m, hN⟩,
        mp3, e2, g3, _, sr2.ext e3 s3, hq, ⟨fun e' g' q mp' H' σ' x' s' => turn_go sr (e13.trans x') s' q, fun e' g' q mp' H' σ' x' s' => k3.nx e' g' q mp' H' σ' x' s', fun e' g' q mp' H' σ' x' s' => turn_go sr (e13.trans x') s' q, k3.rt⟩⟩
    | false => exact k3.nx _ _ hq mp3 H3 σ2 .refl (sr2.ext e3 s3)
theorem stores_par {x y : Str} {px py pt pt2 : Pos} {kt k2 : Nat} {a b : Expr} {env : PySem.Env} (hx : env.scope.names.lookup x = some .local) (hy : env.scope.names.lookup y = some .local) (hk : env.scope.kind = .function)
    (na : noStar a = true) (nb : noStar b = true) (hl : (py.line == px.line) = true) (hxy : (x == y) = false) (h1 : ([a, b].all (foldedForSure 8)) = false) (h2 : ([a, b].all (constantsAlone 8)) = false) :
    swappedStores [.Tuple [.Name x px, .Name y py] kt pt] (.Tuple [a, b] k2 pt2) env = pure (some [x, y]) := by
  have kx : env.kindOf x = some .local := hx
  have ky : env.kindOf y = some .local := hy
  have hb : env.blockKind = .function := by unfold Env.blockKind; rw [hk]; rfl
  have hs : ([a, b].any fun | .Starred .. => true | _ => false) = false := by
    cases a <;> first | (exact no_ na) | (cases b <;> first | (exact no_ nb) | rfl)
  have he : [x, y].eraseDups.length = 2 := by
    rw [List.eraseDups_cons]
    have : (y == x) = false := by rw [beq_eq_false_iff_ne] at hxy ⊢; exact fun z => hxy z.symm
    simp [this, List.eraseDups_cons]
  unfold swappedStores
  have hl' : py.line = px.line := by simpa using hl
  simp [hb, kx, ky, hl, he, h1, h2, Expr.pos, List.filterMap_cons, hl']
  intro hh
  exfalso
  rcases hh with hh | hh
  · cases a <;> first | (exact no_ na) | (exact Bool.noConfusion hh)
  · cases b <;> first | (exact no_ nb) | (exact Bool.noConfusion hh)
theorem S_par (g : Good G F d c X) {i j : Nat} {a b : E} {x y : Str} {px py pt pt2 pos : Pos} {kt k2 : Nat} {ea eb : Expr} (h : parOk c (.Tuple [.Name x px, .Name y py] kt pt) (.Tuple [ea, eb] k2 pt2) i j = true)
    (ha : PE X ea (tvE X.K F a)) (hb : PE X eb (tvE X.K F b)) : PS X (.Assign [.Tuple [.Name x px, .Name y py] kt pt] (.Tuple [ea, eb] k2 pt2) pos) (tvS X.K F (.par i j a b)) := by
  simp only [parOk] at h
  obtain ⟨h, c11⟩ := and2 h
  obtain ⟨h, c10⟩ := and2 h
  obtain ⟨h, c9⟩ := and2 h
  obtain ⟨h, c8⟩ := and2 h
  obtain ⟨h, c7⟩ := and2 h
  obtain ⟨h, c6⟩ := and2 h
  obtain ⟨h, c5⟩ := and2 h
  obtain ⟨h, c4⟩ := and2 h
  obtain ⟨h, c3⟩ := and2 h
  obtain ⟨c0, c1, c2⟩ := and3 h
  rw [Bool.not_eq_true'] at c9 c10 c11
  have hlx := isLoc_of c3
  have hly := isLoc_of c4
  refine PS.weak (ps_par g.calm g.ndX (g.xN (of_decide_eq_true c0)) (g.xN (of_decide_eq_true c1)) (of_decide_eq_true c2) (by rw [g.sc]; exact hlx) (by rw [g.sc]; exact hly) (a_cons ha (a_cons hb a_nil c7) c6)
    (stores_par (by rw [g.sc]; exact hlx) (by rw [g.sc]; exact hly) (by rw [g.sc]; exact isFun_of c5) c6 c7 c8 c9 c10 c11)) fun D σ H ⟨mp, env, g, P, sr, hw, k⟩ => ?_
  simp only [wpS] at hw
  refine ⟨mp, env, g, fun ws g2 => match ws with
    | [x, y] => P.nx ((env.set i (some x)).set j (some y)) g2
    | _ => False, sr, by simp only [wpA]; exact hw, fun ws g1 hq mp1 H1 us e1 s1 r1 => ?_⟩
  cases ws with
  | nil => exact False.elim hq
  | cons w1 ws =>
    cases ws with
    | nil => exact False.elim hq
    | cons w2 ws =>
      cases ws with
      | cons _ _ => exact False.elim hq
      | nil =>
        simp only [RpL] at r1
        obtain ⟨u1, us1, rfl, r1, u2, us2, rfl, r2, rfl⟩ := r1
        exact ⟨u1, u2, rfl, k.nx _ _ hq mp1 H1 _ e1 ⟨((sr.1.ext e1).set r1 i).set r2 j, s1⟩⟩
theorem iopI0 {f : Value → Value → Sem Value} {k : Int → Int → Int} {op : Bop} (h0 : OpR X f (rI0 fun i j => .int (k i j)))
    (h : ∀ x y z, iop op x y = some z → ∃ i j, x = .int i ∧ y = .int j ∧ z = .int (k i j)) : OpS X f (fun _ => iop op) := by
  refine ⟨_, h0, fun mp g H x y u v z Q s rx ry e k => ?_⟩
  obtain ⟨i, j, rfl, rfl, rfl⟩ := h x y z e
  exact ⟨i, j, rx.intI, ry.intI, k mp H _ .refl s (by simp only [Rp])⟩
theorem iop_sound {op : Bop} {o : Operator} (h : augB op o = true) : OpS X (inplaceOp o) (fun _ => iop op) := by
  cases op <;> cases o <;> first | (exact no_ h) | skip
  · refine .or iop_add iop_add_str fun mp g H x y u v z Q s rx ry e k => ?_
    cases x <;> cases y <;> simp only [iop] at e <;> (try cases e)
    · exact .inl ⟨_, _, rx.intI, ry.intI, k mp H _ .refl s (.int _)⟩
    · obtain ⟨hz, e⟩ := ite_some e
      subst e
      obtain ⟨rx, okx⟩ := rx.strI
      obtain ⟨ry, oky⟩ := ry.strI
      exact .inr ⟨_, _, rx, ry, by rw [← str_append_length]; exact hz, k mp H _ .refl s (.str (okx.append oky hz))⟩
  · exact iopI0 iop_sub fun x y z e => by cases x <;> cases y <;> simp only [iop] at e <;> first | (cases e; done) | (cases e; exact ⟨_, _, rfl, rfl, rfl⟩)
  · exact iopI0 iop_and fun x y z e => by cases x <;> cases y <;> simp only [iop] at e <;> first | (cases e; done) | (cases e; exact ⟨_, _, rfl, rfl, rfl⟩)
  · exact iopI0 iop_or fun x y z e => by cases x <;> cases y <;> simp only [iop] at e <;> first | (cases e; done) | (cases e; exact ⟨_, _, rfl, rfl, rfl⟩)
  · exact iopI0 iop_xor fun x y z e => by cases x <;> cases y <;> simp only [iop] at e <;> first | (cases e; done) | (cases e; exact ⟨_, _, rfl, rfl, rfl⟩)
theorem S_aug (g : Good G F d c X) {i : Nat} {op : Bop} {o : Operator} {e : E} {x : Str} {v : Expr} {p pos : Pos} (hx : c.N[i]? = some x) (hl : locB c x = true) (ho : augB op o = true) (he : PE X v (tvE X.K F e)) :
    PS X (.AugAssign (.Name x p) o v pos) (tvS X.K F (.aug i op e)) := by
  obtain ⟨r, hr, hk⟩ := iop_sound (X := X) ho
  refine PS.weak (ps_aug g.ndX (g.xN hx) (g.locX hl) he hr (g.locF hl)) fun D σ H ⟨mp, env, g, P, sr, hw, k⟩ => ?_
  simp only [wpS] at hw
  obtain ⟨w, hw1, hw⟩ := hw
  obtain ⟨u, h1, r1⟩ := sr.1.slot hw1
  refine ⟨u, h1, mp, env, g, _, sr, hw, fun y g1 hq mp1 H1 u1 e1 s1 r2 => ?_⟩
  obtain ⟨z, hz, hq⟩ := hq
  exact hk mp1 g1 H1 w y u u1 z _ s1 (r1.ext e1) r2 hz fun mp2 H2 t e2 s2 r3 => k.nx _ _ hq mp2 H2 _ (e1.trans e2) ⟨(sr.1.ext (e1.trans e2)).set r3 i, s2⟩
theorem S_next {st : Stmt} (h : PS X st tNext) : PS X st (tvS X.K F .nop) := PS.weak h fun D σ H ⟨mp, env, g, P, sr, hw, k⟩ => k.nx env g (by simpa only [wpS] using hw) mp H σ .refl sr
theorem S_brk {pos : Pos} : PS X (.Break pos) (tvS X.K F .brk) := PS.weak ps_break fun D σ H ⟨mp, env, g, P, sr, hw, k⟩ => k.bk env g (by simpa only [wpS] using hw) mp H σ .refl sr
theorem S_cont {pos : Pos} : PS X (.Continue pos) (tvS X.K F .cont) := PS.weak ps_continue fun D σ H ⟨mp, env, g, P, sr, hw, k⟩ => k.ct env g (by simpa only [wpS] using hw) mp H σ .refl sr
theorem S_retN {pos : Pos} : PS X (.Return none pos) (tvS X.K F .retN) := PS.weak ps_retN fun D σ H ⟨mp, env, g, P, sr, hw, k⟩ => k.rt .non g (by simpa only [wpS] using hw) mp H .non .refl sr.2 (by simp only [Rp])
theorem S_ex {e : E} {v : Expr} {pos : Pos} (he : PE X v (tvE X.K F e)) (h : notComp v = true) : PS X (.Expr v pos) (tvS X.K F (.ex e)) :=
  PS.weak (ps_expr he (swaps_plain h)) fun D σ H ⟨mp, env, g, P, sr, hw, k⟩ => ⟨mp, env, g, fun _ g1 => P.nx env g1, sr, by simpa only [wpS] using hw, fun w g1 hq mp1 H1 u1 e1 s1 r1 => k.nx _ _ hq mp1 H1 _ e1 (sr.ext e1 s1)⟩
theorem B_nil : PSs X [] (tvS X.K F .nop) := PSs.weak pss_nil fun D σ H ⟨mp, env, g, P, sr, hw, k⟩ => k.nx env g (by simpa only [wpS] using hw) mp H σ .refl sr
theorem B_cons {a b : S} {st : Stmt} {rest : List Stmt} (ha : PS X st (tvS X.K F a)) (hb : PSs X rest (tvS X.K F b)) : PSs X (st :: rest) (tvS X.K F (.seq a b)) :=
  PSs.weak (pss_cons ha hb) fun D σ H ⟨mp, env, g, P, sr, hw, k⟩ => by
    simp only [wpS] at hw
    exact ⟨mp, env, g, _, sr, hw, ⟨fun e g1 q mp1 H1 σ1 e1 s1 => ⟨mp1, e, g1, P, s1, q, k.ext e1⟩, k.bk, k.ct, k.rt⟩⟩
/-- the text of a term runs as the term means -/
theorem stm : ∀ m : S, (∀ (c : Ctx) (X : Cx) (st : Stmt), Good G F d c X → chkS G c m st = true → PS X st (tvS X.K F m)) ∧ (∀ (c : Ctx) (X : Cx) (st : List Stmt), Good G F d c X → chkB G c m st = true → PSs X st (tvS X.K F m)) := by
  intro m
  induction m with
  | nop =>
    refine ⟨fun c X st g h => ?_, fun c X st g h => ?_⟩
    · cases st <;> try (exact no_ h)
      · rename_i v pos
        cases v <;> try (exact no_ h)
        rename_i k _ _
        cases k <;> try (exact no_ h)
        exact S_next ps_doc
      · exact S_next ps_pass
    · cases st with
      | nil => exact B_nil
      | cons _ _ => exact no_ h
  | seq a b iha ihb =>
    refine ⟨fun c X st g h => by cases st <;> exact no_ h, fun c X st g h => ?_⟩
    cases st with
    | nil => exact no_ h
    | cons st rest =>
      simp only [chkB] at h
      obtain ⟨h1, h2⟩ := and2 h
      exact B_cons (iha.1 c X st g h1) (ihb.2 c X rest g h2)
  | set t e =>
    refine ⟨fun c X st g h => ?_, fun c X st g h => by cases st <;> exact no_ h⟩
    cases st <;> try (exact no_ h)
    rename_i ts v pos
    cases ts with
    | nil => exact no_ h
    | cons tg ts =>
      cases ts with
      | cons _ _ => exact no_ h
      | nil =>
        simp only [chkS] at h
        obtain ⟨h1, h2, h3⟩ := and3 h
        rcases Bool.or_eq_true_iff.mp h3 with h3 | h3
        · exact S_set g h1 h2 h3
        · obtain ⟨h3, h4⟩ := and2 h3
          exact S_setLc g h1 h2 h3 h4
  | par i j a b =>
    refine ⟨fun c X st g h => ?_, fun c X st g h => by cases st <;> exact no_ h⟩
    cases st <;> try (exact no_ h)
    rename_i ts v pos
    cases ts with
    | nil => exact no_ h
    | cons tg ts =>
      cases ts with
      | cons _ _ => exact no_ h
      | nil =>
        simp only [chkS] at h
        obtain ⟨h1, h2⟩ := and2 h
        have h0 := h1
        unfold parOk at h1
        split at h1
        · simp only at h2
          obtain ⟨h2, h3⟩ := and2 h2
          exact S_par g h0 ((snd a).e c X _ g h2) ((snd b).e c X _ g h3)
        · cases h1
  | setix o i e =>
    refine ⟨fun c X st g h => ?_, fun c X st g h => by cases st <;> exact no_ h⟩
    cases st <;> try (exact no_ h)
    rename_i ts v pos
    cases ts with
    | nil => exact no_ h
    | cons tg ts =>
      cases ts with
      | cons _ _ => cases tg <;> exact no_ h
      | nil =>
        cases tg <;> try (exact no_ h)
        simp only [chkS] at h
        obtain ⟨h, h5⟩ := and2 h
        obtain ⟨h1, h2, h3, h4⟩ := and4 h
        exact S_setix g ((snd o).e c X _ g h1) ((snd i).e c X _ g h2) ((snd e).e c X _ g h3) h4 h5
  | setd o i e =>
    refine ⟨fun c X st g h => ?_, fun c X st g h => by cases st <;> exact no_ h⟩
    cases st <;> try (exact no_ h)
    rename_i ts v pos
    cases ts with
    | nil => exact no_ h
    | cons tg ts =>
      cases ts with
      | cons _ _ => cases tg <;> exact no_ h
      | nil =>
        cases tg <;> try (exact no_ h)
        simp only [chkS] at h
        obtain ⟨h, h5⟩ := and2 h
        obtain ⟨h1, h2, h3, h4⟩ := and4 h
        exact S_setd g ((snd o).e c X _ g h1) ((snd i).e c X _ g h2) ((snd e).e c X _ g h3) h4 h5
  | aug i op e =>
    refine ⟨fun c X st g h => ?_, fun c X st g h => by cases st <;> exact no_ h⟩
    cases st <;> try (exact no_ h)
    rename_i tg o v pos
    cases tg <;> try (exact no_ h)
    simp only [chkS] at h
    obtain ⟨h1, h2, h3, h4⟩ := and4 h
    exact S_aug g (of_decide_eq_true h1) h2 h3 ((snd e).e c X _ g h4)
  | ite t a b iha ihb =>
    refine ⟨fun c X st g h => ?_, fun c X st g h => by cases st <;> exact no_ h⟩
    cases st <;> try (exact no_ h)
    simp only [chkS] at h
    obtain ⟨h1, h2, h3⟩ := and3 h
    exact S_ite ((snd t).t c X _ g h1) (iha.2 c X _ g h2) (ihb.2 c X _ g h3)
  | loop gc t src body ih =>
    refine ⟨fun c X st g h => ?_, fun c X st g h => by cases st <;> exact no_ h⟩
    cases st <;> try (exact no_ h)
    rename_i tg it bd els pos
    cases els with
    | cons _ _ => exact no_ h
    | nil =>
      simp only [chkS] at h
      obtain ⟨h1, h2, h3, h4⟩ := and4 h
      exact S_loop g h1 h3 ((snd src).i c X tg it g h2) (ih.2 c X _ g h4)
  | whil gc t body ih =>
    refine ⟨fun c X st g h => ?_, fun c X st g h => by cases st <;> exact no_ h⟩
    cases st <;> try (exact no_ h)
    rename_i x bd els pos
    cases els with
    | cons _ _ => exact no_ h
    | nil =>
      simp only [chkS] at h
      obtain ⟨h1, h2⟩ := and2 h
      exact S_whil g ((snd t).t c X _ g h1) (ih.2 c X _ g h2)
  | ret e =>
    refine ⟨fun c X st g h => ?_, fun c X st g h => by cases st <;> exact no_ h⟩
    cases st <;> try (exact no_ h)
    rename_i v pos
    cases v with
    | none => exact no_ h
    | some v =>
      simp only [chkS] at h
      exact S_ret ((snd e).e c X _ g h)
  | retN =>
    refine ⟨fun c X st g h => ?_, fun c X st g h => by cases st <;> exact no_ h⟩
    cases st <;> try (exact no_ h)
    rename_i v pos
    cases v with
    | none => exact S_retN
    | some v => exact no_ h
  | ex e =>
    refine ⟨fun c X st g h => ?_, fun c X st g h => by cases st <;> exact no_ h⟩
    cases st <;> try (exact no_ h)
    simp only [chkS] at h
    obtain ⟨h1, h2⟩ := and2 h
    exact S_ex ((snd e).e c X _ g h1) h2
  | brk =>
    refine ⟨fun c X st g h => ?_, fun c X st g h => by cases st <;> exact no_ h⟩
    cases st <;> try (exact no_ h)
    exact S_brk
  | cont =>
    refine ⟨fun c X st g h => ?_, fun c X st g h => by cases st <;> exact no_ h⟩
    cases st <;> try (exact no_ h)
    exact S_cont
end
end Z
namespace Z
open PySem PySem.Spec L2
open PyProof.Rows hiding St
/-! ### binding -/
theorem lookup_zip_mem {x : Str} {u : Value} : ∀ {ps : List Str} {us : List Value} {i : Nat}, ps.Nodup → ps[i]? = some x → us[i]? = some u → (ps.zip us).lookup x = some u
  | [], _, _, _, h, _ => by simp at h
  | p :: ps, us, 0, nd, h, h2 => by
    cases us with
    | nil => simp at h2
    | cons v us =>
      simp at h h2
      subst h h2
      simp [List.lookup]
  | p :: ps, us, i + 1, nd, h, h2 => by
    cases us with
    | nil => simp at h2
    | cons v us =>
      have nd' := List.nodup_cons.mp nd
      have h' : ps[i]? = some x := by simpa using h
      have hx : x ∈ ps := List.mem_of_getElem? h'
      have hne : (x == p) = false := by
        rw [beq_eq_false_iff_ne]
        rintro rfl
        exact nd'.1 hx
      rw [List.zip_cons_cons, List.lookup_cons, hne]
      exact lookup_zip_mem nd'.2 h' (by simpa using h2)
theorem filterMap_zip {f : Str → Option Value} : ∀ {ps : List Str} {us : List Value}, us.length = ps.length → (∀ (i : Nat) (x : Str) (u : Value), ps[i]? = some x → us[i]? = some u → f x = some u) → ps.filterMap (fun n => (f n).map (n, ·)) = ps.zip us
  | [], us, hl, _ => by simp
  | p :: ps, [], hl, _ => by simp at hl
  | p :: ps, u :: us, hl, h => by
    rw [List.filterMap_cons, h 0 p u rfl rfl]
    simp only [Option.map_some, List.zip_cons_cons]
    rw [filterMap_zip (by simpa using hl) fun i x v h1 h2 => h (i + 1) x v (by simpa using h1) (by simpa using h2)]
theorem bind_plain {x qual : Str} {as : List Arg} {body : List Stmt} {scope : Scope} {kV doc pm : Value} {an : Option Addr} {cdv ct : Value} {us : List Value} (nd : (as.map (·.arg)).Nodup) (hl : us.length = (as.map (·.arg)).length) :
    bindArgs (PySem.W.fnOf x qual ⟨[], as, none, [], [], none, []⟩ body scope .none kV doc pm an cdv ct) ⟨us, []⟩ = pure ((as.map (·.arg)).zip us) := by
  have hlk : ∀ (i : Nat) (x : Str) (u : Value), (as.map (·.arg))[i]? = some x → us[i]? = some u → ((as.map (·.arg)).zip us).lookup x = some u := fun i x u h1 h2 => lookup_zip_mem nd h1 h2
  have hm : ((as.map (·.arg)).filter fun n => (((as.map (·.arg)).zip us).lookup n).isNone) = [] := by
    rw [List.filter_eq_nil_iff]
    intro n hn
    obtain ⟨i, hi, e⟩ := List.mem_iff_getElem.mp hn
    have h2 : us[i]? = some us[i] := List.getElem?_eq_getElem (by omega)
    rw [hlk i n _ (by rw [List.getElem?_eq_getElem hi, e]) h2]
    simp
  have hg : ¬ (us.length > (as.map (·.arg)).length) := by omega
  unfold bindArgs
  simp only [PySem.W.fnOf]
  simp [seqItems?, List.map_nil, hl, hm]
  rw [show notAStandIn Value.none = pure () from rfl, pure_bind, if_neg (by
    intro h
    rw [show (List.take ((List.map (fun x => x.arg) ([] : List Arg) ++ List.map (fun x => x.arg) as).length - (List.drop ((#[] : Array Value).size - (List.map (fun x => x.arg) ([] : List Arg) ++ List.map (fun x => x.arg) as).length) ([] : List Value)).length) (List.map (fun x => x.arg) ([] : List Arg) ++ List.map (fun x => x.arg) as)) = as.map (·.arg) from List.take_of_length_le (by simp), hm] at h
    simp at h)]
  rw [← List.filterMap_map, filterMap_zip hl hlk]
/-! ### defs -/
/-- the names of a def's scope -/
def scB (N P : List Str) (sc : Scope) : Bool :=
  decide (sc.kind = .function) && !sc.isCoroutine && !sc.isGenerator && decide N.Nodup && decide (N.take P.length = P) && P.all (fun x => decide (sc.names.lookup x = some .local) || decide (sc.names.lookup x = some .cell)) && sc.names.all (fun y => !decide (y.2 = .free))
theorem scB_ok {N P : List Str} {sc : Scope} (h : scB N P sc = true) : FnScope N P sc := by
  unfold scB at h
  simp only [Bool.and_eq_true, Bool.not_eq_true', decide_eq_true_eq, List.all_eq_true, Bool.or_eq_true, decide_eq_false_iff_not] at h
  obtain ⟨⟨⟨⟨⟨⟨h1, h2⟩, h3⟩, h4⟩, h5⟩, h6⟩, h7⟩ := h
  exact ⟨h1, h2, h3, h4, h5, h6, h7⟩
structure DefZ where
  name : Str
  args : Arguments
  body : List Stmt
  sc : Scope
  N : List Str
  m : Fn
def DefZ.ps (d : DefZ) : List Str := d.args.args.map (·.arg)
def DefZ.toD (d : DefZ) : He.DefD := ⟨(d.name, none), d.name, d.name, d.args, d.body, d.sc, [], []⟩
def plainArgs : Arguments → Bool
  | ⟨[], as, none, [], [], none, []⟩ => decide ((as.map (·.arg)).Nodup)
  | _ => false
def globs (Ds : List DefZ) (consts : List (Str × W)) (free : List Str) : Globs := ⟨Ds.map fun d => (d.name, d.m.np), consts, free⟩
def codeT (Ds : List DefZ) : List Fn := Ds.map (·.m)
def DefZ.ok (G : Globs) (d : DefZ) : Bool :=
  plainArgs d.args && scB d.N d.ps d.sc && chkB G ⟨d.N, d.sc, fun _ => true⟩ d.m.body d.body && decide (d.N.length = d.m.nv) && decide (d.ps.length = d.m.np)
theorem plainArgs_of {a : Arguments} (h : plainArgs a = true) : ∃ as : List Arg, a = ⟨[], as, none, [], [], none, []⟩ ∧ (as.map (·.arg)).Nodup := by
  unfold plainArgs at h
  split at h
  · exact ⟨_, rfl, of_decide_eq_true h⟩
  · cases h
theorem binds_of {K : Fr6} {d : DefZ} {f : Addr} {fd : FuncData} (ha : plainArgs d.args = true) (F : FunD K d.name d.name d.args d.body d.sc [] [] f fd) : ∀ (s : Shared) (us : List Value), us.length = d.ps.length → BindsTo s fd ⟨us, []⟩ (d.ps.zip us) := by
  intro s us hl
  refine FunD.bindsA (ps := d.ps) F (fun kV doc pm an cdv ct us hl => ?_) s us hl
  obtain ⟨as, e, nd⟩ := plainArgs_of ha
  unfold DefZ.ps at hl ⊢
  rw [e] at hl ⊢
  exact bind_plain nd hl
theorem start_env {K : Fr6} {mp : M} {H : Hp} {ws : List W} {vs : List V} {N : List Str} {nv : Nat} (hN : N.length = nv) (r : RpL K mp H ws vs) : EnvR K mp H (ws.map some ++ List.replicate (nv - ws.length) none) (L2.start N vs) := by
  have hl := r.length
  unfold L2.start
  rw [hN]
  refine ⟨by simp [hl], fun i w hw => ?_⟩
  by_cases hi : i < ws.length
  · rw [List.getElem?_append_left (by simpa using hi), List.getElem?_map] at hw
    cases h : ws[i]? with
    | none => rw [h] at hw; cases hw
    | some x =>
      rw [h] at hw
      cases hw
      obtain ⟨u, h1, h2⟩ := r.get h
      refine ⟨u, ?_, h2⟩
      rw [List.getElem?_append_left (by rw [List.length_map, ← hl]; exact hi), List.getElem?_map, h1]
      rfl
  · rw [List.getElem?_append_right (by simpa using hi), List.getElem?_replicate] at hw
    split at hw <;> cases hw
section
variable {P : Program} {w : World} {K : Fr6} {mg : Str → Option Value} {base : Heap} {Ds : List DefZ} {consts : List (Str × W)} {free : List Str}
/-- what the head says of the module -/
structure HeadZ (K : Fr6) (mg : Str → Option Value) (Ds : List DefZ) (consts : List (Str × W)) (free : List Str) : Prop where
  def_ : ∀ d ∈ Ds, ∃ f fd, mg d.name = some (.ref f) ∧ FunD K d.name d.name d.args d.body d.sc [] [] f fd
  consts : ∀ p ∈ consts, ∃ v u, mg p.1 = some u ∧ RelV v u ∧ ∀ mp H, Rp K mp H p.2 v
  free : ∀ x ∈ free, mg x = none
theorem wpF_ar {T : List Fn} {n i : Nat} {fn : Fn} {ws : List W} {g : CH} {Q : WK} (h : wpF T n i ws g Q) (e : T[i]? = some fn) : ws.length = fn.np := by
  cases n with
  | zero => exact False.elim h
  | succ n =>
    obtain ⟨fn', h1, h2, _⟩ := h
    rw [nth_eq, e] at h1
    cases h1
    exact h2
theorem fn_ok {n i : Nat} {d : DefZ} {f : Addr} {fd : FuncData} (o : DefZ.ok (globs Ds consts free) d = true) (hdi : Ds[i]? = some d) (F : FunD K d.name d.name d.args d.body d.sc [] [] f fd)
    (ih : ∀ m, n = m + 1 → Facts P w K mg base (globs Ds consts free) (wpF (codeT Ds) m) m) : FnOk P w K mg base CX0 n f fd d.ps (spOf K (wpF (codeT Ds) n) i d.m.np) := by
  unfold DefZ.ok at o
  simp only [Bool.and_eq_true, decide_eq_true_eq] at o
  obtain ⟨⟨⟨⟨o1, o2⟩, o3⟩, o4⟩, o5⟩ := o
  cases n with
  | zero =>
    refine ⟨fun vs H Q E h => by rw [o5]; exact h.1, fun A outer s H args us vs Q E _ _ _ _ h => ?_⟩
    obtain ⟨_, mp, g, ws, Q0, _, _, h, _⟩ := h
    exact False.elim h
  | succ n =>
    have S := scB_ok o2
    refine F.ok S (fun vs H Q E h => by rw [o5]; exact h.1) fun cdv A outer s H vs Q E hr h => ?_
    have good : Good (globs Ds consts free) (wpF (codeT Ds) n) n ⟨d.N, d.sc, fun _ => true⟩ (cxOf CX0 P w K mg base d.N d.name d.sc f cdv A outer s H E).nox :=
      ⟨ih n rfl, rfl, S.nd, rfl, rfl, rfl, fun _ _ => rfl, hr⟩
    refine ⟨tvS K (wpF (codeT Ds) n) d.m.body, PSs.nox ((stm d.m.body).2 _ _ _ good o3), ?_⟩
    obtain ⟨hl, mp, g, ws, Q0, s0, r0, h, k⟩ := h
    obtain ⟨fn, h1, h2, h⟩ := h
    have e1 : fn = d.m := by
      rw [nth_eq] at h1
      unfold codeT at h1
      rw [List.getElem?_map, hdi] at h1
      exact (Option.some.inj h1).symm
    subst e1
    rw [shut_eq] at h
    refine ⟨mp, _, g, _, ⟨start_env o4 r0, s0⟩, h, ⟨?_, ?_, ?_, ?_⟩⟩
    · intro e g2 q mp' H' σ' x' s'
      unfold retEnd at q
      split at q
      · obtain ⟨v', g3, fz, fg, q⟩ := q
        obtain ⟨r1, s1, x1⟩ := ret_go (u := .non) s0 x' s'.2 (by simp only [Rp]) fz fg
        exact k _ _ q mp H' _ x1 s1 r1
      · exact k _ _ q mp' H' _ x' s'.2 (by simp only [Rp])
    · intro e g2 q
      exact False.elim q
    · intro e g2 q
      exact False.elim q
    · intro v g2 q mp' H' u x' s' r
      unfold retEnd at q
      split at q
      · obtain ⟨v', g3, fz, fg, q⟩ := q
        obtain ⟨r1, s1, x1⟩ := ret_go s0 x' s' r fz fg
        exact k _ _ q mp H' _ x1 s1 r1
      · exact k _ _ q mp' H' _ x' s' r
theorem facts_of (hh : HeadZ K mg Ds consts free) (ok : Ds.all (DefZ.ok (globs Ds consts free)) = true) : ∀ n, Facts P w K mg base (globs Ds consts free) (wpF (codeT Ds) n) n := by
  have cs : ∀ (i : Nat) x c, (globs Ds consts free).consts[i]? = some (x, c) → ∃ v u, mg x = some u ∧ RelV v u ∧ ∀ mp H, Rp K mp H c v := fun i x c hi => hh.consts (x, c) (List.mem_of_getElem? hi)
  have oks : ∀ d ∈ Ds, DefZ.ok (globs Ds consts free) d = true := List.all_eq_true.mp ok
  have go : ∀ (i : Nat) x np, (globs Ds consts free).fns[i]? = some (x, np) → ∃ d ∈ Ds, Ds[i]? = some d ∧ d.name = x ∧ d.m.np = np := by
    intro i x np hi
    have hi' : (Ds.map fun d => (d.name, d.m.np))[i]? = some (x, np) := hi
    rw [List.getElem?_map] at hi'
    cases hd : Ds[i]? with
    | none => rw [hd] at hi'; cases hi'
    | some d =>
      rw [hd] at hi'
      cases hi'
      exact ⟨d, List.mem_of_getElem? hd, rfl, rfl, rfl⟩
  have ar : ∀ n (i : Nat) x np, (globs Ds consts free).fns[i]? = some (x, np) → ∀ ws g Q, wpF (codeT Ds) n i ws g Q → ws.length = np := by
    intro n i x np hi ws g Q h
    obtain ⟨d, hd, hdi, rfl, rfl⟩ := go i x np hi
    exact wpF_ar h (by unfold codeT; rw [List.getElem?_map, hdi]; rfl)
  have one : ∀ n, (∀ m, n = m + 1 → Facts P w K mg base (globs Ds consts free) (wpF (codeT Ds) m) m) → Facts P w K mg base (globs Ds consts free) (wpF (codeT Ds) n) n := by
    intro n ih
    refine ⟨fun i x np hi => ?_, cs, hh.free, ar n⟩
    obtain ⟨d, hd, hdi, rfl, rfl⟩ := go i x np hi
    obtain ⟨f, fd, hm, F⟩ := hh.def_ d hd
    have o := oks d hd
    have o' := o
    unfold DefZ.ok at o
    simp only [Bool.and_eq_true, decide_eq_true_eq] at o
    obtain ⟨⟨⟨⟨o1, o2⟩, o3⟩, o4⟩, o5⟩ := o
    refine ⟨f, fd, d.ps, hm, F.kp, o5, fun s us _ hl => ?_, fn_ok o' hdi F ih⟩
    rw [List.append_nil] at hl ⊢
    exact binds_of o1 F s us hl
  intro n
  induction n with
  | zero => exact one 0 fun m e => by cases e
  | succ n ih => exact one (n + 1) fun m e => by cases e; exact ih
end
end Z
namespace Z
open PySem PySem.Spec L2
open PyProof.Rows hiding St
/-! ### the module's constants -/
mutual
def conB (K : Fr6) : W → Value → Bool
  | .non, .none => true
  | .bl a, .bool b => a == b
  | .int i, .int j _ => decide (i = j)
  | .str x, .str y _ => decide (x = y) && decide (x.length ≤ sizeLine) && x.cps.all (· < 0x110000)
  | .tup xs, .ref a => (match K.lookup a with
    | some ⟨.type c, _, .seq its _, _⟩ => decide (c = "tuple") && decide (its.size ≤ sizeLine) && conBs K xs its.toList
    | _ => false)
  | .lck xs, .ref a => (match K.lookup a with
    | some ⟨.type c, none, .seq its _, _⟩ => decide (c = "list") && decide (its.size ≤ sizeLine) && conBs K xs its.toList
    | _ => false)
  | _, _ => false
def conBs (K : Fr6) : List W → List Value → Bool
  | [], [] => true
  | x :: xs, u :: us => conB K x u && conBs K xs us
  | _, _ => false
end
mutual
theorem conB_ok {K : Fr6} : ∀ {x : W} {u : Value}, conB K x u = true → ∃ v, RelV v u ∧ ∀ mp H, Rp K mp H x v
  | .non, u, h => by
    cases u <;> try (exact no_ h)
    exact ⟨.non, rfl, fun _ _ => .non⟩
  | .bl a, u, h => by
    cases u <;> try (exact no_ h)
    simp only [conB, beq_iff_eq] at h
    subst h
    exact ⟨.bl a, rfl, fun _ _ => .bl _⟩
  | .int a, u, h => by
    cases u <;> try (exact no_ h)
    simp only [conB, decide_eq_true_eq] at h
    subst h
    exact ⟨.int a, ⟨_, rfl⟩, fun _ _ => .int _⟩
  | .str a, u, h => by
    cases u <;> try (exact no_ h)
    simp only [conB] at h
    obtain ⟨h1, h2, h3⟩ := and3 h
    have h1 := of_decide_eq_true h1
    subst h1
    exact ⟨.str a, ⟨_, rfl⟩, fun _ _ => .str ⟨of_decide_eq_true h2, h3⟩⟩
  | .tup xs, u, h => by
    cases u <;> try (exact no_ h)
    rename_i a
    simp only [conB] at h
    cases q : K.lookup a with
    | none => rw [q] at h; cases h
    | some o =>
      obtain ⟨oc, od, dt, osl⟩ := o
      rw [q] at h
      cases oc <;> try (exact no_ h)
      cases dt <;> try (exact no_ h)
      rename_i c its m
      simp only at h
      obtain ⟨h1, h2, h3⟩ := and3 h
      obtain ⟨vs, r, k⟩ := conBs_ok h3
      have hl : vs.length ≤ sizeLine := by
        rw [r.length, Array.length_toList]
        exact of_decide_eq_true h2
      refine ⟨.ref a, rfl, fun mp H => ?_⟩
      simp only [Rp]
      exact ⟨a, vs, rfl, ⟨hl, .inr ⟨_, its, m, q, congrArg Value.type (of_decide_eq_true h1), rfl, of_decide_eq_true h2, r⟩⟩, k mp H⟩
  | .lck xs, u, h => by
    cases u <;> try (exact no_ h)
    rename_i a
    simp only [conB] at h
    cases q : K.lookup a with
    | none => rw [q] at h; cases h
    | some o =>
      obtain ⟨oc, od, dt, osl⟩ := o
      rw [q] at h
      cases oc <;> try (exact no_ h)
      cases od <;> try (cases dt <;> exact no_ h)
      cases dt <;> try (exact no_ h)
      rename_i c its m
      simp only at h
      obtain ⟨h1, h2, h3⟩ := and3 h
      obtain ⟨vs, r, k⟩ := conBs_ok h3
      have hl : vs.length ≤ sizeLine := by
        rw [r.length, Array.length_toList]
        exact of_decide_eq_true h2
      refine ⟨.ref a, rfl, fun mp H => ?_⟩
      simp only [Rp]
      exact ⟨a, vs, rfl, ⟨hl, .inr ⟨_, its, m, q, congrArg Value.type (of_decide_eq_true h1), rfl, rfl, of_decide_eq_true h2, r⟩⟩, k mp H⟩
  | .lst xs, u, h => by cases u <;> exact no_ h
  | .dct _ _, u, h => by cases u <;> exact no_ h
  | .ob _, u, h => by cases u <;> exact no_ h
theorem conBs_ok {K : Fr6} : ∀ {xs : List W} {us : List Value}, conBs K xs us = true → ∃ vs, Vals vs us ∧ ∀ mp H, RpL K mp H xs vs
  | [], us, h => by
    cases us with
    | nil => exact ⟨[], .nil, fun _ _ => .nil⟩
    | cons _ _ => exact no_ h
  | x :: xs, us, h => by
    cases us with
    | nil => exact no_ h
    | cons u us =>
      simp only [conBs] at h
      obtain ⟨h1, h2⟩ := and2 h
      obtain ⟨v, r, k⟩ := conB_ok h1
      obtain ⟨vs, rs, ks⟩ := conBs_ok h2
      exact ⟨v :: vs, .cons r rs, fun mp H => .cons (k mp H) (ks mp H)⟩
end
/-! ### the Hook -/
def conOk (K : Fr6) (p : Str × W) : Bool := match PySem.W.nsIn K mainGlobals p.1 with
  | some (some u) => conB K p.2 u
  | _ => false
def fas (Ds : List DefZ) (free : List Str) : List He.Fa := (Ds.map fun d => He.Fa.glo d.name) ++ free.map He.Fa.free
def obsZ (cs : List (Str × W)) (free : List Str) (Ds : List DefZ) (K : Fr6) : Bool × He.AlD := (cs.all (conOk K), He.obsD (fas Ds free) (Ds.map DefZ.toD) K)
def valZ (Ds : List DefZ) : Bool × He.AlD := (true, He.valD (Ds.map DefZ.toD))
def obsZG (n : Nat) (cs : List (Str × W)) (free : List Str) (Ds : List DefZ) (g : Addr → Option Obj) : Bool × He.AlD := obsZ cs free Ds (He.frG g (He.asD g n))
def hookZ (n : Nat) (cs : List (Str × W)) (free : List Str) (Ds : List DefZ) : PySem.W.Hook where
  α := Bool × He.AlD
  obs := fun s => obsZG n cs free Ds s.heap.get?
  val := fun _ => valZ Ds
  says := fun _ h => ∃ K : PySem.W.Frag, K.In h ∧ obsZ cs free Ds K = valZ Ds
  of := fun _ _ e => ⟨_, He.frG_in, e⟩
  keeps := fun _ _ _ ⟨K, hK, c⟩ k => ⟨K, PySem.W.Frag.In.keeps hK k, c⟩
theorem obsZG_eq {n : Nat} {cs : List (Str × W)} {free : List Str} {Ds : List DefZ} {g : Addr → Option Obj} {s : Shared} (h : ∀ a, g a = s.heap.get? a) : obsZG n cs free Ds g = (hookZ n cs free Ds).obs s := by
  have e : g = s.heap.get? := funext h
  rw [e] <;> rfl
theorem headZ {K : Fr6} {h : Heap} {mg : Str → Option Value} {cs : List (Str × W)} {free : List Str} {Ds : List DefZ} (X : K.In h) (G : h.Ns mainGlobals mg) (c : obsZ cs free Ds K = valZ Ds) : HeadZ K mg Ds cs free := by
  have c1 : cs.all (conOk K) = true := congrArg (fun z : Bool × He.AlD => z.1) c
  have c2 : He.SaysD (fas Ds free) (Ds.map DefZ.toD) K := congrArg (fun z : Bool × He.AlD => z.2) c
  refine ⟨fun d hd => ?_, fun p hp => ?_, fun x hx => ?_⟩
  · obtain ⟨i, hi, e⟩ := List.mem_iff_getElem.mp hd
    have e' : Ds[i]? = some d := by rw [List.getElem?_eq_getElem hi, e]
    obtain ⟨fd, F⟩ := c2.def_ i (d := d.toD) (by rw [List.getElem?_map, e']; rfl)
    exact ⟨_, fd, He.glo_ok X G (c2.fact i (f := .glo d.name) (by
      unfold fas
      rw [List.getElem?_append_left (by rw [List.length_map]; exact hi), List.getElem?_map, e']; rfl)), F⟩
  · have h1 := List.all_eq_true.mp c1 p hp
    unfold conOk at h1
    split at h1
    · rename_i u hu
      obtain ⟨v, r, k⟩ := conB_ok h1
      exact ⟨v, u, PySem.W.mg_of X G hu, r, k⟩
    · cases h1
  · obtain ⟨i, hi, e⟩ := List.mem_iff_getElem.mp hx
    have e' : free[i]? = some x := by rw [List.getElem?_eq_getElem hi, e]
    exact He.free_ok X G (c2.fact (Ds.length + i) (f := .free x) (by
      unfold fas
      rw [List.getElem?_append_right (by rw [List.length_map]; omega), List.length_map, List.getElem?_map, Nat.add_sub_cancel_left, e']; rfl))
/-- the end of a law -/
theorem walk_Z {l : PySem.W.OpenLaw} {n k step iL : Nat} {q : Program} {loose : List Str} {XP : (Str → Option Value) → Heap → Prop} {d : DefRec} {cs : List (Str × W)} {free : List Str} {Ds : List DefZ} {dl : DefZ} {x : Str}
    (hn : l.most = some n) (hn2 : n ≤ sizeLine) (hdf : d.params.defaults = []) (hr : Room k callerA)
    (ok : Ds.all (DefZ.ok (globs Ds cs free)) = true) (hi : Ds[iL]? = some dl) (hname : d.name = dl.name) (hps : dl.ps = [x])
    (H : ∀ ns : List Int, ns.length ≤ n → wpF (codeT Ds) k iL [.lck (ns.map .int)] [] (fun v _ => v = .bl true)) :
    PySem.W.WalkO q loose XP (hookZ step cs free Ds).says l.row.toRowW d [] (fun f vs => PySem.call f vs) := by
  refine L2.walk_ofE (l := l) (n := n) (k := k) (x := x) (CX := CX0) hn hn2 hdf hr (fun w mg fa h Y G hmg => ?_) (fun _ _ _ _ z => z)
  obtain ⟨K, KX, c⟩ := Y
  have hh := headZ KX G c
  obtain ⟨f, fd, hm, F⟩ := hh.def_ dl (List.mem_of_getElem? hi)
  rw [hname, hm] at hmg
  cases hmg
  have o := List.all_eq_true.mp ok dl (List.mem_of_getElem? hi)
  unfold DefZ.ok at o
  simp only [Bool.and_eq_true, decide_eq_true_eq] at o
  obtain ⟨⟨⟨⟨o1, o2⟩, o3⟩, o4⟩, o5⟩ := o
  have hb : ∀ (s : Shared) (u : Value), BindsTo s fd ⟨[u], []⟩ [(x, u)] := fun s u => by
    have := binds_of o1 F s [u] (by rw [hps]; rfl)
    rw [hps] at this
    exact this
  refine ⟨K, fd, spOf K (wpF (codeT Ds) k) iL dl.m.np, KX, hb, fun H0 a ns hl hO hS => ?_, fun base KB GB => ?_⟩
  · refine ⟨by rw [← o5, hps]; rfl, ⟨[], []⟩, [], [.lck (ns.map .int)], _, ⟨by simp, rfl, fun i w h => by simp at h, fun b h => by simp at h, by simp⟩, .cons ?_ .nil, H ns hl, fun v g' hv mp' H' u _ _ r => ?_⟩
    · simp only [Rp]
      refine ⟨a, ns.map V.int, rfl, ⟨by rw [List.length_map]; omega, ?_⟩, RpL.of_ints ns⟩
      rcases hS with hS | hS
      · exact .inl ⟨hS, fun z => by rcases z with z | z <;> simp at z⟩
      · exact .inr hS
    · subst hv
      exact r.blI
  · have hh := headZ KB GB c
    obtain ⟨f2, fd2, hm2, F2⟩ := hh.def_ dl (List.mem_of_getElem? hi)
    rw [← hps]
    exact fn_ok (List.all_eq_true.mp ok dl (List.mem_of_getElem? hi)) hi F fun m _ => facts_of hh ok m
end Z
namespace Z
open PySem PySem.Spec L2
open PyProof.Rows hiding St
/-! ### steps -/
theorem zmap_cons {α β : Type} {f : α → β} {a : α} {l : List α} : List.map f (a :: l) = f a :: List.map f l := rfl
theorem zmap_nil {α β : Type} {f : α → β} : List.map f [] = [] := rfl
theorem zcons_app {α : Type} {a : α} {l m : List α} : a :: l ++ m = a :: (l ++ m) := rfl
theorem znil_app {α : Type} {l : List α} : [] ++ l = l := rfl
theorem zwipe0 {env : Env} : wipeE env [] = env := rfl
theorem zwipeS {env : Env} {v : Nat} {vs : List Nat} : wipeE env (v :: vs) = (wipeE env vs).set v none := rfl
theorem zset0 {α : Type} {a b : α} {l : List α} : (a :: l).set 0 b = b :: l := rfl
theorem zsetS {α : Type} {a b : α} {l : List α} {n : Nat} : (a :: l).set (n + 1) b = a :: l.set n b := rfl
section
variable {F : FSem} {env : Env} {g : CH} {Q : WK}
theorem opt_i {α : Type} {o : Option α} {Q : α → Prop} {v : α} (h : o = some v) (q : Q v) : opt o Q := ⟨v, h, q⟩
theorem opt_id {α : Type} {o : Option α} {Q : α → Prop} (h : opt o Q) : opt o Q := h
theorem nx_seq {P : Post} {k : Env → CH → Prop} (h : k env g) : (P.seq k).nx env g := h
theorem nx_turn {P : Post} {k : Env → CH → Prop} (h : k env g) : (P.turn k).nx env g := h
theorem ct_turn {P : Post} {k : Env → CH → Prop} (h : k env g) : (P.turn k).ct env g := h
theorem bk_turn {P : Post} {k : Env → CH → Prop} (h : P.nx env g) : (P.turn k).bk env g := h
theorem rt_turn {P : Post} {k : Env → CH → Prop} {v : W} (h : P.rt v g) : (P.turn k).rt v g := h
theorem rt_seq {P : Post} {k : Env → CH → Prop} {v : W} (h : P.rt v g) : (P.seq k).rt v g := h
theorem bk_seq {P : Post} {k : Env → CH → Prop} (h : P.bk env g) : (P.seq k).bk env g := h
theorem ct_seq {P : Post} {k : Env → CH → Prop} (h : P.ct env g) : (P.seq k).ct env g := h
theorem fn_rt {R : WK} {v : W} (h : R v g) : (Post.fn R).rt v g := h
theorem fn_nx {R : WK} (h : R .non g) : (Post.fn R).nx env g := h
theorem k_i {w : W} (h : Q w g) : wpE F (.k w) env g Q := h
theorem gl_i {w : W} {n : Nat} (h : Q w g) : wpE F (.gl w n) env g Q := h
theorem anil_i {R : List W → CH → Prop} (h : R [] g) : wpA F .nil env g R := h
theorem tnil_i {R : Bool → CH → Prop} (h : R true g) : wpT F .nil env g R := h
theorem seq_i {a b : S} {P : Post} (h : wpS F a env g (P.seq fun e g1 => wpS F b e g1 P)) : wpS F (.seq a b) env g P := h
theorem reti {e : E} {P : Post} (h : wpE F e env g P.rt) : wpS F (.ret e) env g P := h
theorem nop_i {P : Post} (h : P.nx env g) : wpS F .nop env g P := h
theorem call_id {T : List Fn} {d f : Nat} {ws : List W} (h : wpC T d f ws g Q) : wpC T d f ws g Q := h
theorem ret_id {gc : Bool} {g0 g2 : CH} {v : W} (h : retEnd gc g0 Q v g2) : retEnd gc g0 Q v g2 := h
theorem turn_id {gc : Bool} {e0 e2 : Env} {g0 g2 : CH} {k : Env → CH → Prop} (h : turnEnd gc e0 g0 k e2 g2) : turnEnd gc e0 g0 k e2 g2 := h
theorem forL_id {gc : Bool} {e0 : Env} {g0 : CH} {t : T} {body : Env → CH → Post → Prop} {o : Option Nat} {all xs : List W} {P : Post} (h : forL gc e0 g0 t body o all xs env g P) : forL gc e0 g0 t body o all xs env g P := h
theorem ite_id {c A B : Prop} [Decidable c] (h : if c then A else B) : if c then A else B := h
theorem put_i {xs : List W} {i : Nat} {w : W} {Q : List W → Prop} (q : Q (xs.set i w)) : opt (putL xs i w) Q := ⟨_, rfl, q⟩
theorem add_i {xs : List W} {w : W} {Q : List W → Prop} (q : Q (xs ++ [w])) : opt (addL xs w) Q := ⟨_, rfl, q⟩
theorem opt_asg {t : T} {w : W} {env e1 : Env} {Q : Env → Prop} (h : asg t w env = some e1) (q : Q e1) : opt (asg t w env) Q := ⟨e1, h, q⟩
theorem fn_i {T : List Fn} {d f np nv : Nat} {gc : Bool} {body : S} {ws : List W} {e : Env} (h : nth T f = some ⟨np, nv, gc, body⟩) (hl : ws.length = np) (he : ws.map some ++ List.replicate (nv - ws.length) none = e) (q : wpS (wpC T d) body e g (Post.fn (retEnd gc g Q))) : wpC T (d + 1) f ws g Q := by
  subst he
  exact wpC_succ.mpr ⟨_, h, hl, q⟩
theorem opt_mul {i j : Int} {Q : W → Prop} (h : mulOk i j) (q : Q (.int (i * j))) : opt (bop .mul (.int i) (.int j)) Q := ⟨_, if_pos h, q⟩
theorem opt_trep {x : List W} {j : Int} {Q : W → Prop} (h : x.isEmpty = false ∧ 0 ≤ j ∧ j ≤ 1000 ∧ x.length ≤ 1000) (q : Q (.tup (List.replicate j.toNat x).flatten)) : opt (bop .mul (.tup x) (.int j)) Q := ⟨_, if_pos h, q⟩
theorem opt_mod {i j : Int} {Q : W → Prop} (h : 0 < j) (q : Q (.int (i % j))) : opt (bop .mod (.int i) (.int j)) Q := ⟨_, if_pos h, q⟩
theorem opt_fdiv {i j : Int} {Q : W → Prop} (h : 0 < j ∧ j.natAbs.log2 < 9000) (q : Q (.int (i / j))) : opt (bop .fdiv (.int i) (.int j)) Q := ⟨_, if_pos h, q⟩
theorem opt_pow {i j : Int} {Q : W → Prop} (h : 0 ≤ j ∧ j ≤ 1000000 ∧ i.natAbs < 2 ^ 64) (q : Q (.int (i ^ j.toNat))) : opt (bop .pow (.int i) (.int j)) Q := ⟨_, if_pos h, q⟩
theorem opt_shl {i j : Int} {Q : W → Prop} (h : shlOk i j) (q : Q (.int (i * 2 ^ j.toNat))) : opt (bop .shl (.int i) (.int j)) Q := ⟨_, if_pos h, q⟩
theorem opt_shr {i j : Int} {Q : W → Prop} (h : 0 ≤ j) (q : Q (.int (i / 2 ^ j.toNat))) : opt (bop .shr (.int i) (.int j)) Q := ⟨_, if_pos h, q⟩
theorem opt_tup {xs ys : List W} {Q : W → Prop} (h : xs.length + ys.length ≤ sizeLine) (q : Q (.tup (xs ++ ys))) : opt (bop .add (.tup xs) (.tup ys)) Q := ⟨_, if_pos (by rw [List.length_append]; exact h), q⟩
theorem opt_tups {xs : List W} {Q : W → Prop} (h : xs.length ≤ sizeLine) (q : Q (.tup xs)) : opt (tups xs) Q := ⟨_, if_pos h, q⟩
theorem opt_rng {i j : Int} {Q : List W → Prop} (h : rngOk i j) (q : Q (rangeW i (j - i).toNat)) : opt (rngW (.int i) (.int j)) Q := ⟨_, if_pos h, q⟩
theorem eqInt {g : CH} {i j : Int} : eqD g (.int i) (.int j) = some (decide (i = j)) := by
  simp [eqD, dr, dat, PyData.depth, PyData.eqv]
  by_cases h : i = j <;> simp [h]
theorem opt_eq {g : CH} {i j : Int} {Q : Bool → Prop} (q : Q (decide (i = j))) : opt (cop g .eq (.int i) (.int j)) Q := ⟨_, eqInt (g := g), q⟩
theorem opt_ne {g : CH} {i j : Int} {Q : Bool → Prop} (q : Q (!decide (i = j))) : opt (cop g .ne (.int i) (.int j)) Q := ⟨_, by simp only [cop, eqInt (g := g)]; rfl, q⟩
theorem if_b {c : Bool} {A B : Prop} (h1 : c = true → A) (h2 : c = false → B) : if c = true then A else B := by cases c <;> simp_all
theorem if_t {c : Bool} {A B : Prop} (h : c = true) (a : A) : if c = true then A else B := by rw [if_pos h]; exact a
theorem if_f {c : Bool} {A B : Prop} (h : c = false) (b : B) : if c = true then A else B := by rw [if_neg (by rw [h]; decide)]; exact b
theorem if_d {c : Prop} [Decidable c] {A B : Prop} (h1 : c → A) (h2 : ¬ c → B) : if decide c = true then A else B := by
  by_cases h : c
  · simp [h, h1]
  · simp [h, h2]
theorem if_n {c : Prop} [Decidable c] {A B : Prop} (h1 : ¬ c → A) (h2 : c → B) : if (!decide c) = true then A else B := by
  by_cases h : c
  · simp [h, h2]
  · simp [h, h1]
theorem forL_cons {gc : Bool} {e0 : Env} {g0 : CH} {t : T} {body : Env → CH → Post → Prop} {all xs : List W} {x : W} {P : Post} (h : opt (asg t x env) fun env1 => body env1 g (P.turn (turnEnd gc e0 g0 fun e g => forL gc e0 g0 t body none all xs e g P))) : forL gc e0 g0 t body none all (x :: xs) env g P := ⟨trivial, h⟩
theorem forL_nil {gc : Bool} {e0 : Env} {g0 : CH} {t : T} {body : Env → CH → Post → Prop} {all : List W} {P : Post} (h : P.nx env g) : forL gc e0 g0 t body none all [] env g P := ⟨trivial, h⟩
/-- a for, by an invariant -/
theorem for_inv {gc : Bool} {e0 : Env} {g0 : CH} {t : T} {body : Env → CH → Post → Prop} {o : Option Nat} {all : List W} {P : Post} (I : Nat → Env → CH → Prop)
    (hs : ∀ (i : Nat) (x : W) (k : Env → CH → Prop), all[i]? = some x → (∀ e g, I (i + 1) e g → k e g) → ∀ e g, I i e g → stays g o all ∧ opt (asg t x e) fun e1 => body e1 g (P.turn (turnEnd gc e0 g0 k)))
    (he : ∀ e g, I all.length e g → stays g o all ∧ P.nx e g) (h0 : I 0 env g) : forL gc e0 g0 t body o all all env g P := by
  have go : ∀ n i, i + n = all.length → ∀ e g, I i e g → forL gc e0 g0 t body o all (all.drop i) e g P := by
    intro n
    induction n with
    | zero =>
      intro i hi e g h
      have : i = all.length := by omega
      subst this
      rw [List.drop_length]
      exact he e g h
    | succ n ih =>
      intro i hi e g h
      have hx : all[i]? = some all[i] := List.getElem?_eq_getElem (by omega)
      rw [drop_cons hx]
      exact hs i _ _ hx (fun e g h => ih (i + 1) (by omega) e g h) e g h
  have := go all.length 0 (by omega) env g h0
  simpa using this
theorem lc_inv {t : T} {tst : Env → CH → (Bool → CH → Prop) → Prop} {elt : Env → CH → WK → Prop} {env0 : Env} {o : Option Nat} {all : List W} {Q : List W → CH → Prop} (I : Nat → List W → CH → Prop)
    (hs : ∀ (i : Nat) (x : W) (acc : List W) (g : CH) (k : List W → CH → Prop), all[i]? = some x → I i acc g → (∀ acc g, I (i + 1) acc g → k acc g) →
      stays g o all ∧ opt (asg t x env0) fun env1 => tst env1 g fun b g1 => if b = true then elt env1 g1 fun w g2 => k (acc ++ [w]) g2 else k acc g1)
    (he : ∀ acc g, I all.length acc g → stays g o all ∧ Q acc g) (h0 : I 0 [] g) : lcL t tst elt env0 o all all [] g Q := by
  have go : ∀ n i, i + n = all.length → ∀ acc g, I i acc g → lcL t tst elt env0 o all (all.drop i) acc g Q := by
    intro n
    induction n with
    | zero =>
      intro i hi e g h
      have : i = all.length := by omega
      subst this
      rw [List.drop_length]
      exact he e g h
    | succ n ih =>
      intro i hi acc g h
      have hx : all[i]? = some all[i] := List.getElem?_eq_getElem (by omega)
      rw [drop_cons hx]
      exact hs i _ acc g (fun acc g => lcL t tst elt env0 o all (all.drop (i + 1)) acc g Q) hx h fun acc g h => ih (i + 1) (by omega) acc g h
  have := go all.length 0 (by omega) [] g h0
  simpa using this
theorem ret_ng {g0 g2 : CH} {v : W} (h : Q v g2) : retEnd false g0 Q v g2 := h
theorem turn_ng {e0 e2 : Env} {g0 g2 : CH} {k : Env → CH → Prop} (h : k e2 g2) : turnEnd false e0 g0 k e2 g2 := h
theorem log2_le {x : Nat} {n : Nat} (h : x < 2 ^ n) (hn : 0 < n) : x.log2 < n := by
  by_cases h0 : x = 0
  · subst h0; simpa using hn
  · exact (Nat.log2_lt h0).mpr h
/-- an int of at most n bits -/
def Bt (n : Nat) (i : Int) : Prop := i.natAbs < 2 ^ n
theorem Bt.mono {n m : Nat} {i : Int} (h : Bt n i) (l : n ≤ m) : Bt m i := Nat.lt_of_lt_of_le h (Nat.pow_le_pow_right (by decide) l)
theorem Bt.add {n m : Nat} {i j : Int} (h1 : Bt n i) (h2 : Bt m j) : Bt (n + m + 1) (i + j) := by
  unfold Bt at *
  have e1 : 2 ^ n ≤ 2 ^ (n + m) := Nat.pow_le_pow_right (by decide) (by omega)
  have e2 : 2 ^ m ≤ 2 ^ (n + m) := Nat.pow_le_pow_right (by decide) (by omega)
  rw [Nat.pow_succ]
  omega
theorem Bt.neg {n : Nat} {i : Int} (h : Bt n i) : Bt n (-i) := by unfold Bt at *; rwa [Int.natAbs_neg]
theorem Bt.sub {n m : Nat} {i j : Int} (h1 : Bt n i) (h2 : Bt m j) : Bt (n + m + 1) (i - j) := h1.add h2.neg
theorem Bt.mul {n m : Nat} {i j : Int} (h1 : Bt n i) (h2 : Bt m j) : Bt (n + m) (i * j) := by
  unfold Bt at *
  rw [Int.natAbs_mul, Nat.pow_add]
  exact Nat.mul_lt_mul'' h1 h2
theorem Bt.mulOk {n m : Nat} {i j : Int} (h1 : Bt (n + 1) i) (h2 : Bt (m + 1) j) (h : n + m < 100000000) : mulOk i j := by
  unfold Z.mulOk
  have := log2_le h1 (by omega)
  have := log2_le h2 (by omega)
  omega
theorem Bt.of {n : Nat} {i : Int} (h1 : -(2 ^ n : Nat) < i) (h2 : i < (2 ^ n : Nat)) : Bt n i := by unfold Bt; omega
/-- ints that a row of 64-bit sums bounds -/
theorem bt64 {i : Int} (h1 : -18446744073709551616 < i) (h2 : i < 18446744073709551616) : Bt 64 i := by unfold Bt; omega
theorem mulOk64 {i j : Int} (h1 : -18446744073709551616 < i ∧ i < 18446744073709551616) (h2 : -18446744073709551616 < j ∧ j < 18446744073709551616) : mulOk i j := (bt64 h1.1 h1.2).mulOk (bt64 h2.1 h2.2) (by decide)
theorem atI_nat {α : Type} {xs : List α} {i : Int} {x : α} (h0 : 0 ≤ i) (h : xs[i.toNat]? = some x) : atI xs i = some x := by
  have hl := (List.getElem?_eq_some_iff.mp h).1
  unfold atI ixN
  rw [if_pos h0, if_pos (by omega)]
  exact h
theorem opt_ixl {xs : List W} {i : Int} {x : W} {Q : W → Prop} (h0 : 0 ≤ i) (h : xs[i.toNat]? = some x) (q : Q x) : opt (ixW g (.lst xs) (.int i)) Q := ⟨x, atI_nat h0 h, q⟩
theorem opt_ixt {xs : List W} {i : Int} {x : W} {Q : W → Prop} (h0 : 0 ≤ i) (h : xs[i.toNat]? = some x) (q : Q x) : opt (ixW g (.tup xs) (.int i)) Q := ⟨x, atI_nat h0 h, q⟩
theorem small {n : Nat} (h : n < 1000000) : n < sizeLine := Nat.lt_trans h (by decide)
theorem atI_neg1 {α : Type} {xs : List α} {x : α} (h : xs[xs.length - 1]? = some x) : atI xs (-1) = some x := by
  have hl := (List.getElem?_eq_some_iff.mp h).1
  unfold atI ixN
  rw [if_neg (by omega), if_pos (by omega)]
  rw [show ((-1 : Int) + (xs.length : Int)).toNat = xs.length - 1 by omega]
  exact h
theorem cut_to {α : Type} {xs : List α} {k : Int} (h : 0 ≤ k) : cutW xs .non (.int k) = some (xs.take k.toNat) := by
  unfold cutW sixW
  simp only [HT.sIx, if_neg (show ¬ k < 0 by omega), List.drop_zero, Nat.sub_zero]
  congr 1
  rw [List.take_eq_take_iff]
  simp
theorem cut_from {α : Type} {xs : List α} {k : Int} (h : 0 ≤ k) : cutW xs (.int k) .non = some (xs.drop k.toNat) := by
  unfold cutW sixW
  simp only [HT.sIx, if_neg (show ¬ k < 0 by omega)]
  by_cases hk : k.toNat ≤ xs.length
  · rw [Nat.min_eq_left hk]
    congr 1
    exact List.take_of_length_le (by simp)
  · rw [Nat.min_eq_right (by omega), List.drop_length, List.drop_eq_nil_of_le (by omega)]
    simp
theorem sl_to {xs : List W} {k : Int} (h : 0 ≤ k) : slW (.tup xs) .non (.int k) = some (.tup (xs.take k.toNat)) := by
  show (cutW xs .non (.int k)).map W.tup = _
  rw [cut_to h]; rfl
theorem sl_from {xs : List W} {k : Int} (h : 0 ≤ k) : slW (.tup xs) (.int k) .non = some (.tup (xs.drop k.toNat)) := by
  show (cutW xs (.int k) .non).map W.tup = _
  rw [cut_from h]; rfl
theorem opt_slTo {xs : List W} {k : Int} {Q : W → Prop} (h : 0 ≤ k) (q : Q (.tup (xs.take k.toNat))) : opt (slW (.tup xs) .non (.int k)) Q := ⟨_, sl_to h, q⟩
theorem opt_lslTo {xs : List W} {k : Int} {Q : List W → Prop} (h : 0 ≤ k) (q : Q (xs.take k.toNat)) : opt (lslW g (.lst xs) .non (.int k)) Q := ⟨_, cut_to h, q⟩
theorem opt_slFrom {xs : List W} {k : Int} {Q : W → Prop} (h : 0 ≤ k) (q : Q (.tup (xs.drop k.toNat))) : opt (slW (.tup xs) (.int k) .non) Q := ⟨_, sl_from h, q⟩
theorem rangeW_map : ∀ (n : Nat) (lo : Int), rangeW lo n = ((List.range n).map fun k : Nat => lo + (k : Int)).map W.int
  | 0, _ => rfl
  | n + 1, lo => by
    rw [rangeW, rangeW_map n (lo + 1), List.range_succ_eq_map]
    simp only [List.map_cons, List.map_map]
    congr 1
    · simp
    · apply List.map_congr_left
      intro a _
      simp only [Function.comp]
      congr 1
      push_cast
      omega
theorem rangeW_len (n : Nat) (lo : Int) : (rangeW lo n).length = n := by rw [rangeW_map]; simp
theorem rangeW_at {lo : Int} {n i : Nat} {x : W} (h : (rangeW lo n)[i]? = some x) : i < n ∧ x = .int (lo + i) := by
  have hi : i < n := by
    have := (List.getElem?_eq_some_iff.mp h).1
    rwa [rangeW_len] at this
  rw [rangeW_map, List.map_map, List.getElem?_map, List.getElem?_range hi] at h
  cases h
  exact ⟨hi, rfl⟩
/-- a for over a range -/
theorem for_rng {gc : Bool} {e0 : Env} {g0 : CH} {t : T} {body : Env → CH → Post → Prop} {lo : Int} {n : Nat} {P : Post} (I : Nat → Env → CH → Prop)
    (hs : ∀ (i : Nat) (k : Env → CH → Prop), i < n → (∀ e g, I (i + 1) e g → k e g) → ∀ e g, I i e g → opt (asg t (.int (lo + i)) e) fun e1 => body e1 g (P.turn (turnEnd gc e0 g0 k)))
    (he : ∀ e g, I n e g → P.nx e g) (h0 : I 0 env g) : forL gc e0 g0 t body none (rangeW lo n) (rangeW lo n) env g P := by
  refine for_inv I (fun i x k hx hk e g h => ⟨trivial, ?_⟩) (fun e g h => ⟨trivial, he e g ?_⟩) h0
  · obtain ⟨h1, rfl⟩ := rangeW_at hx
    exact hs i k h1 hk e g h
  · rwa [rangeW_len] at h
/-- a comprehension over a range -/
theorem lc_rng {t : T} {tst : Env → CH → (Bool → CH → Prop) → Prop} {elt : Env → CH → WK → Prop} {env0 : Env} {lo : Int} {n : Nat} {Q : List W → CH → Prop} (I : Nat → List W → CH → Prop)
    (hs : ∀ (i : Nat) (acc : List W) (g : CH) (k : List W → CH → Prop), i < n → I i acc g → (∀ acc g, I (i + 1) acc g → k acc g) →
      opt (asg t (.int (lo + i)) env0) fun env1 => tst env1 g fun b g1 => if b = true then elt env1 g1 fun w g2 => k (acc ++ [w]) g2 else k acc g1)
    (he : ∀ acc g, I n acc g → Q acc g) (h0 : I 0 [] g) : lcL t tst elt env0 none (rangeW lo n) (rangeW lo n) [] g Q := by
  refine lc_inv I (fun i x acc g k hx h hk => ⟨trivial, ?_⟩) (fun acc g h => ⟨trivial, he acc g ?_⟩) h0
  · obtain ⟨h1, rfl⟩ := rangeW_at hx
    exact hs i acc g k h1 h hk
  · rwa [rangeW_len] at h
theorem zadd (i : Nat) : (0 : Int) + (i : Int) = i := Int.zero_add _
section
variable {t : T} {tst : Env → CH → (Bool → CH → Prop) → Prop} {elt : Env → CH → WK → Prop} {env0 : Env} {all xs acc : List W} {x : W} {o : Option Nat} {R : List W → CH → Prop}
theorem lcL_id (h : lcL t tst elt env0 o all xs acc g R) : lcL t tst elt env0 o all xs acc g R := h
theorem lcL_nil (h : R acc g) : lcL t tst elt env0 none all [] acc g R := ⟨trivial, h⟩
theorem lcL_cons (h : opt (asg t x env0) fun env1 => tst env1 g fun b g1 => if b = true then elt env1 g1 fun w g2 => lcL t tst elt env0 none all xs (acc ++ [w]) g2 R else lcL t tst elt env0 none all xs acc g1 R) : lcL t tst elt env0 none all (x :: xs) acc g R := ⟨trivial, h⟩
end
/-- a row of statements from its n-th on -/
def tlN : Nat → S → S
  | 0, s => s
  | n + 1, .seq _ b => tlN n b
  | _, s => s
/-- the body of a row's first loop -/
def bodyOf : S → S
  | .seq (.loop _ _ _ b) _ => b
  | _ => .nop
/-- a while: n turns at most are left -/
theorem while_i {gc : Bool} {e0 : Env} {g0 : CH} {c : Env → CH → (Bool → CH → Prop) → Prop} {body : Env → CH → Post → Prop} {P : Post} (I : Nat → Env → CH → Prop)
    (hs : ∀ (n : Nat) (k : Env → CH → Prop), (∀ m, n = m + 1 → ∀ e g, I m e g → k e g) → ∀ e g, I n e g → c e g fun b g1 => if b = true then body e g1 (P.turn (turnEnd gc e0 g0 k)) else P.nx e g1)
    (n : Nat) (h0 : I n env g) : ∃ m, whileL gc e0 g0 c body m env g P := by
  have go : ∀ n e g, I n e g → whileL gc e0 g0 c body (n + 1) e g P := by
    intro n
    induction n with
    | zero =>
      intro e g h
      exact hs 0 _ (fun m hm => by omega) e g h
    | succ n ih =>
      intro e g h
      exact hs (n + 1) _ (fun m hm e g h => by
        have e1 : m = n := by omega
        rw [e1] at h
        exact ih e g h) e g h
  exact ⟨n + 1, go n env g h0⟩
/-- a for whose turns change nothing but its name -/
theorem for_each {gc : Bool} {e0 : Env} {g0 : CH} {j : Nat} {body : Env → CH → Post → Prop} {all : List W} {P : Post} (hj : j < env.length)
    (hs : ∀ x ∈ all, ∀ (k : Env → CH → Prop), k (env.set j (some x)) g → body (env.set j (some x)) g (P.turn (turnEnd gc e0 g0 k)))
    (he : ∀ y, P.nx (env.set j y) g) : forL gc e0 g0 (.n j) body none all all env g P := by
  refine for_inv (fun _ e g' => g' = g ∧ ∃ y, e = env.set j y) (fun i x k hx hk e g' h => ?_) (fun e g' h => ?_) ⟨rfl, env[j], by simp⟩
  · obtain ⟨rfl, y, rfl⟩ := h
    refine ⟨trivial, _, rfl, ?_⟩
    rw [List.set_set]
    exact hs x (List.mem_of_getElem? hx) k (hk _ _ ⟨rfl, _, rfl⟩)
  · obtain ⟨rfl, y, rfl⟩ := h
    exact ⟨trivial, he y⟩
end
end Z
namespace Z
open PySem PySem.Spec L2
open PyProof.Rows hiding St
/-! ### the laws' own small defs -/
def m_law_tape : Fn := ⟨1, 3, false, (.seq (.set (.n 1) (.k (.int 7))) (.seq (.loop false (.n 2) (.it (.v 0)) (.seq (.set (.n 1) (.bin .mod (.u1 .int (.bin .add (.bin .mul (.v 1) (.k (.int 31))) (.u1 .abs (.u1 .int (.v 2))))) (.k (.int 2147483647)))) .nop)) (.seq (.ret (.mk (.lst (.cons (.fz (.n1 .list (.v 0))) (.cons (.k (.int 0)) (.cons (.k (.int 0)) (.cons (.v 1) .nil))))))) .nop)))⟩
def m_law_draw : Fn := ⟨2, 4, false, (.seq (.ite (.cmp .eq (.ix (.v 0) (.k (.int 2))) (.k (.int 0))) (.seq (.set (.n 2) (.ix (.v 0) (.k (.int 1)))) (.seq (.set (.n 3) (.k (.int 0))) (.seq (.ite (.cmp .lt (.v 2) (.u1 .len (.ix (.v 0) (.k (.int 0))))) (.seq (.set (.n 3) (.u1 .abs (.u1 .int (.ix (.ix (.v 0) (.k (.int 0))) (.v 2))))) .nop) (.seq (.setix (.v 0) (.k (.int 3)) (.bin .mod (.u1 .int (.bin .add (.bin .add (.bin .mul (.ix (.v 0) (.k (.int 3))) (.k (.int 48271))) (.v 2)) (.k (.int 1)))) (.k (.int 2147483647)))) (.seq (.set (.n 3) (.ix (.v 0) (.k (.int 3)))) .nop))) (.seq (.setix (.v 0) (.k (.int 1)) (.bin .add (.v 2) (.k (.int 1)))) (.seq (.ite (.cmp .lt (.v 3) (.bin .pow (.k (.int 10)) (.k (.int 18)))) (.seq (.set (.n 3) (.bin .mod (.u1 .int (.bin .add (.bin .add (.bin .mul (.v 3) (.k (.int 48271))) (.bin .mul (.v 2) (.k (.int 69621)))) (.k (.int 5)))) (.k (.int 2147483647)))) (.seq (.set (.n 3) (.bin .mod (.u1 .int (.bin .mul (.v 3) (.k (.int 69621)))) (.k (.int 2147483629)))) (.seq (.ret (.bin .mod (.u1 .int (.v 3)) (.u2 .max (.v 1) (.k (.int 1))))) .nop))) .nop) (.seq (.setix (.v 0) (.k (.int 2)) (.v 3)) .nop)))))) .nop) (.seq (.set (.n 3) (.ix (.v 0) (.k (.int 2)))) (.seq (.setix (.v 0) (.k (.int 2)) (.bin .fdiv (.v 3) (.u2 .max (.v 1) (.k (.int 2))))) (.seq (.ret (.bin .mod (.u1 .int (.v 3)) (.u2 .max (.v 1) (.k (.int 1))))) .nop))))⟩
def m_law_pick (f_law_draw : Nat) : Fn := ⟨2, 2, false, (.seq (.ret (.ix (.v 1) (.call f_law_draw (.cons (.v 0) (.cons (.u1 .len (.v 1)) .nil))))) .nop)⟩
def m_law_turns (f_law_draw : Nat) : Fn := ⟨2, 5, true, (.seq (.set (.n 2) (.mk (.lrng1 (.v 1)))) (.seq (.set (.n 3) (.mk (.lst .nil))) (.seq (.loop false (.n 4) (.rng1 (.v 1)) (.seq (.ex (.app (.v 3) (.popAt (.v 2) (.call f_law_draw (.cons (.v 0) (.cons (.u1 .len (.v 2)) .nil)))))) .nop)) (.seq (.ret (.fz (.lsl (.v 3) .nopart (.cons (.ix (.fz (.lst (.cons (.v 1) (.cons (.v 1) (.cons (.k (.int 1)) .nil))))) (.call f_law_draw (.cons (.v 0) (.cons (.k (.int 3)) .nil)))) .nil)))) .nop))))⟩
def m_law_put : Fn := ⟨3, 3, false, (.seq (.ret (.bin .add (.bin .add (.sl (.v 0) .nopart (.cons (.v 1) .nil)) (.tup (.cons (.v 2) .nil))) (.sl (.v 0) (.cons (.bin .add (.v 1) (.k (.int 1))) .nil) .nopart))) .nop)⟩
def m_law_same (f_law_same : Nat) : Fn := ⟨2, 3, false, (.seq (.ite (.tv (.isi (.v 1) .tuple)) (.seq (.ite (.or (.nt (.tv (.isi (.v 0) .tuple))) (.cmp .ne (.u1 .len (.v 0)) (.u1 .len (.v 1)))) (.seq (.ret (.k (.bl false))) .nop) .nop) (.seq (.loop false (.n 2) (.rng1 (.u1 .len (.v 1))) (.seq (.ite (.nt (.tv (.call f_law_same (.cons (.ix (.v 0) (.v 2)) (.cons (.ix (.v 1) (.v 2)) .nil))))) (.seq (.ret (.k (.bl false))) .nop) .nop) .nop)) (.seq (.ret (.k (.bl true))) .nop))) .nop) (.seq (.ite (.or (.cmp .isN (.v 1) (.k .non)) (.cmp .isN (.v 0) (.k .non))) (.seq (.ret (.and (.cmp .isN (.v 1) (.k .non)) (.cmp .isN (.v 0) (.k .non)))) .nop) .nop) (.seq (.ite (.tv (.isi (.v 1) .str)) (.seq (.ret (.and (.isi (.v 0) .str) (.cmp .eq (.v 0) (.v 1)))) .nop) .nop) (.seq (.ite (.or (.cmp .ne (.isi (.v 0) .bool) (.isi (.v 1) .bool)) (.nt (.tv (.isi (.v 0) .int)))) (.seq (.ret (.k (.bl false))) .nop) .nop) (.seq (.ret (.cmp .eq (.v 0) (.v 1))) .nop)))))⟩
def m_law_shuffled (f_law_draw : Nat) : Fn := ⟨2, 5, true, (.seq (.set (.n 2) (.mk (.n1 .list (.v 1)))) (.seq (.set (.n 3) (.mk (.lst .nil))) (.seq (.loop false (.n 4) (.rng1 (.u1 .len (.v 1))) (.seq (.ex (.app (.v 3) (.popAt (.v 2) (.call f_law_draw (.cons (.v 0) (.cons (.u1 .len (.v 2)) .nil)))))) .nop)) (.seq (.ret (.v 3)) .nop))))⟩
/-- the law's tape, at most n numbers of which were read -/
def Tape (n : Nat) (t : W) : Prop := ∃ (cells : List Int) (place big mixed : Int), t = .lst [.lst (cells.map .int), .int place, .int big, .int mixed] ∧ 0 ≤ place ∧ place ≤ n ∧ 0 ≤ big ∧ 0 ≤ mixed ∧ mixed < 2147483647
theorem Tape.mono {n m : Nat} {t : W} (h : Tape n t) (l : n ≤ m) : Tape m t := by
  obtain ⟨c, p, b, m', rfl, h1, h2, h3, h4, h5⟩ := h
  exact ⟨c, p, b, m', rfl, h1, by omega, h3, h4, h5⟩
section
variable {T : List Fn} {d : Nat} {rest : CH} {Q : WK}
local macro_rules | `(tactic| walk_at "z1") => `(tactic| first
  | refine opt_eq ?_
  | refine opt_ne ?_
  | refine opt_rng (by unfold rngOk; omega) ?_
  | refine opt_slTo (by omega) ?_
  | refine opt_slFrom (by omega) ?_
  | refine opt_i rfl ?_
  | refine opt_mul (mulOk64 ⟨by omega, by omega⟩ ⟨by omega, by omega⟩) ?_
  | refine opt_mod (by omega) ?_
  | refine And.intro (Nat.le_of_ble_eq_true rfl) ?_)
theorem w_draw {i n : Nat} {t : W} {wide : Int} (hi : nth T i = some m_law_draw) (ht : Tape n t) (hn : n < 2 ^ 40) (hw : wide.natAbs < 18446744073709551616)
    (k : ∀ (v : Int) t', 0 ≤ v → v < max wide 1 → Tape (n + 1) t' → Q (.int v) (t' :: rest)) : wpC T (d + 1) i [.ob 0, .int wide] (t :: rest) Q := by
  obtain ⟨c, p, b, m, rfl, h1, h2, h3, h4, h5⟩ := ht
  -- the end: a number is taken
  have fin : ∀ (num : Int) (t' : W), Tape (n + 1) t' → Q (.int (num % (if 1 > wide then 1 else wide))) (t' :: rest) := fun num t' ht => by
    have hm : 0 < (if 1 > wide then 1 else wide) := by split <;> omega
    refine k _ _ (Int.emod_nonneg _ (by omega)) ?_ ht
    have := Int.emod_lt_of_pos num hm
    have : (if 1 > wide then 1 else wide) = max wide 1 := by split <;> omega
    omega
  have fin2 : ∀ (num : Int) (c : List Int) (p m : Int), 0 ≤ num → 0 ≤ p → p ≤ (n + 1 : Nat) → 0 ≤ m → m < 2147483647 → (0 < (if 2 > wide then 2 else wide) ∧ (if 2 > wide then 2 else wide).natAbs.log2 < 9000) ∧ Q (.int (num % (if 1 > wide then 1 else wide))) (.lst [.lst (c.map .int), .int p, .int (num / (if 2 > wide then 2 else wide)), .int m] :: rest) := fun num c p m hn hp hp2 hm1 hm2 => by
    have hm : 0 < (if 2 > wide then 2 else wide) := by split <;> omega
    refine ⟨⟨hm, ?_⟩, fin num _ ⟨c, p, _, m, rfl, hp, hp2, Int.ediv_nonneg hn (by omega), hm1, hm2⟩⟩
    have : (if 2 > wide then 2 else wide).natAbs < 2 ^ 64 := by
      split
      · decide
      · exact hw
    have := log2_le this (by decide)
    omega
  refine wpC_succ.mpr (opt_i hi ⟨rfl, ?_⟩)
  repeat walk_at "z1"
  refine if_d (fun hb => ?_) (fun hb => ?_)
  · subst hb
    -- the number is read
    repeat walk_at "z1"
    refine if_d (fun hc => ?_) (fun hc => ?_)
    · simp only [List.length_map] at hc
      repeat walk_at "z1"
      refine opt_ixl h1 (x := .int (c[p.toNat]'(by omega))) (by rw [List.getElem?_map, List.getElem?_eq_getElem (by omega)]; rfl) ?_
      generalize c[p.toNat]'(by omega) = x
      repeat walk_at "z1"
      generalize hx : (if x < 0 then -x else x) = y
      have hy : 0 ≤ y := by split at hx <;> omega
      refine if_d (fun hd => ?_) (fun hd => ?_)
      · have hd : y < 10 ^ 18 := hd
        repeat walk_at "z1"
        exact fin _ _ ⟨c, p + 1, 0, m, rfl, by omega, by omega, by omega, h4, h5⟩
      · repeat walk_at "z1"
        have e := fin2 y c (p + 1) m hy (by omega) (by omega) h4 h5
        refine opt_fdiv e.1 ?_
        repeat walk_at "z1"
        exact e.2
    · repeat walk_at "z1"
      generalize hx : (m * 48271 + p + 1) % 2147483647 = y
      have hy : 0 ≤ y := by omega
      have hy2 : y < 2147483647 := by omega
      refine if_d (fun hd => ?_) (fun hd => ?_)
      · have hd : y < 10 ^ 18 := hd
        repeat walk_at "z1"
        exact fin _ _ ⟨c, p + 1, 0, y, rfl, by omega, by omega, by omega, hy, hy2⟩
      · repeat walk_at "z1"
        have e := fin2 y c (p + 1) y hy (by omega) (by omega) hy hy2
        refine opt_fdiv e.1 ?_
        repeat walk_at "z1"
        exact e.2
  · repeat walk_at "z1"
    have e := fin2 b c p m h3 h1 (by omega) h4 h5
    refine opt_fdiv e.1 ?_
    repeat walk_at "z1"
    exact e.2
theorem get_map_int {ns : List Int} {i : Nat} {x : W} (h : (ns.map W.int)[i]? = some x) : ∃ c, x = .int c := by
  rw [List.getElem?_map] at h
  cases q : ns[i]? with
  | none => rw [q] at h; cases h
  | some c => rw [q] at h; cases h; exact ⟨c, rfl⟩
theorem w_tape {i : Nat} {ns : List Int} (hi : nth T i = some m_law_tape) (k : ∀ t', Tape 0 t' → Q (.ob 0) [t']) : wpC T (d + 1) i [.lck (ns.map .int)] [] Q := by
  refine wpC_succ.mpr (opt_i hi ⟨rfl, ?_⟩)
  repeat walk_at "z1"
  refine for_inv (fun _ e g => g = [] ∧ ∃ m x, e = [some (.lck (ns.map .int)), some (.int m), x] ∧ 0 ≤ m ∧ m < 2147483647) ?_ ?_ ⟨rfl, 7, none, rfl, by omega, by omega⟩
  · rintro _ x k hx hk _ _ ⟨rfl, m, y, rfl, h1, h2⟩
    obtain ⟨c, rfl⟩ := get_map_int hx
    refine ⟨trivial, ?_⟩
    repeat walk_at "z1"
    exact hk _ _ ⟨rfl, _, _, rfl, by omega, by omega⟩
  · rintro _ _ ⟨rfl, m, y, rfl, h1, h2⟩
    refine ⟨trivial, ?_⟩
    repeat walk_at "z1"
    exact k _ ⟨ns, 0, 0, m, rfl, by omega, by omega, by omega, h1, h2⟩
theorem w_pick {i j n : Nat} {t : W} {xs : List W} (hi : nth T i = some (m_law_pick j)) (hj : nth T j = some m_law_draw) (ht : Tape n t) (hn : n < 2 ^ 40) (h0 : xs ≠ []) (hl : xs.length ≤ sizeLine)
    (k : ∀ x t', x ∈ xs → Tape (n + 1) t' → Q x (t' :: rest)) : wpC T (d + 2) i [.ob 0, .lst xs] (t :: rest) Q := by
  refine wpC_succ.mpr (opt_i hi ⟨rfl, ?_⟩)
  repeat walk_at "z1"
  have h1 : 0 < xs.length := List.length_pos_iff.mpr h0
  refine w_draw hj ht hn (Nat.lt_of_le_of_lt hl (by decide)) fun v t' v0 v1 ht' => ?_
  refine opt_ixl v0 (List.getElem?_eq_getElem (by omega)) ?_
  exact k _ _ (List.getElem_mem _) ht'
theorem w_pickT {i j n : Nat} {t : W} {xs : List W} (hi : nth T i = some (m_law_pick j)) (hj : nth T j = some m_law_draw) (ht : Tape n t) (hn : n < 2 ^ 40) (h0 : xs ≠ []) (hl : xs.length ≤ sizeLine)
    (k : ∀ x t', x ∈ xs → Tape (n + 1) t' → Q x (t' :: rest)) : wpC T (d + 2) i [.ob 0, .tup xs] (t :: rest) Q := by
  refine wpC_succ.mpr (opt_i hi ⟨rfl, ?_⟩)
  repeat walk_at "z1"
  have h1 : 0 < xs.length := List.length_pos_iff.mpr h0
  refine w_draw hj ht hn (Nat.lt_of_le_of_lt hl (by decide)) fun v t' v0 v1 ht' => ?_
  refine opt_ixt v0 (List.getElem?_eq_getElem (by omega)) ?_
  exact k _ _ (List.getElem_mem _) ht'
theorem w_put {i : Nat} {xs : List W} {p : Nat} {v : W} {g : CH} (hi : nth T i = some m_law_put) (hp : p < xs.length) (hl : xs.length < 2 ^ 20)
    (k : Q (.tup (xs.set p v)) g) : wpC T (d + 1) i [.tup xs, .int p, v] g Q := by
  have hz : 2 ^ 20 < sizeLine := by decide
  refine wpC_succ.mpr (opt_i hi ⟨rfl, ?_⟩)
  repeat walk_at "z1"
  refine opt_tup ?_ ?_
  · simp; omega
  repeat walk_at "z1"
  refine opt_tup ?_ ?_
  · simp; omega
  have e : xs.take (p : Int).toNat ++ [v] ++ xs.drop ((p : Int) + 1).toNat = xs.set p v := by
    rw [List.set_eq_take_append_cons_drop, if_pos hp, show ((p : Int) + 1).toNat = p + 1 by omega]
    simp
  rw [e]
  exact k
theorem wfs_ints {n : Nat} : ∀ ns : List Int, wfs n (ns.map .int) = true
  | [] => rfl
  | _ :: ns => wfs_ints ns
theorem Tape.fz {n k : Nat} {t : W} {g : CH} (h : Tape n t) : FzO k g t t := by
  obtain ⟨c, p, b, m, rfl, _⟩ := h
  exact .lst (.cons (.same (show wfs k (c.map .int) = true from wfs_ints c)) (.cons (.same rfl) (.cons (.same rfl) (.cons (.same rfl) .nil))))
/-- what was made is let go: one tape stands -/
theorem ret_gc1 {n : Nat} {t t' v : W} {rest : CH} (ht : Tape n t') (hv : wf 1 v = true) (q : Q v [t']) : retEnd true [t] Q v (t' :: rest) := by
  refine ⟨v, [t'], .same hv, ⟨rfl, by simp, fun i hi => .inr ⟨t', t', ?_, ?_, ht.fz⟩⟩, q⟩
  · have : i = 0 := by simpa using hi
    subst this; rfl
  · have : i = 0 := by simpa using hi
    subst this; rfl
theorem popAt_ok {xs : List W} {i : Int} {x : W} (h0 : 0 ≤ i) (h1 : i < 2 ^ 63) (h : xs[i.toNat]? = some x) : popAtW xs (.int i) = some (x, xs.eraseIdx i.toNat) := by
  have hl := (List.getElem?_eq_some_iff.mp h).1
  unfold popAtW ixN
  simp only
  rw [if_pos (by omega), if_pos h0, if_pos (by omega)]
  simp [h]
theorem map_eraseIdx {α β : Type} {f : α → β} : ∀ (xs : List α) (i : Nat), (xs.map f).eraseIdx i = (xs.eraseIdx i).map f
  | [], _ => by simp
  | x :: xs, 0 => rfl
  | x :: xs, i + 1 => by simp [map_eraseIdx xs i]
theorem w_turns {i j n m : Nat} {t : W} (hi : nth T i = some (m_law_turns j)) (hj : nth T j = some m_law_draw) (ht : Tape n t) (hn : n + m + 1 < 2 ^ 40) (h0 : 0 < m) (hm : m < 2 ^ 20)
    (k : ∀ (vs : List Int) t', (∀ v ∈ vs, 0 ≤ v ∧ v < m) → vs.length ≤ m → Tape (n + m + 1) t' → Q (.lst (vs.map .int)) [t']) : wpC T (d + 2) i [.ob 0, .int m] [t] Q := by
  refine wpC_succ.mpr (opt_i hi ⟨rfl, ?_⟩)
  iterate 6 walk_at "z1"
  rw [show ((m : Int) - 0).toNat = m by omega]
  repeat walk_at "z1"
  rw [show ((m : Int) - 0).toNat = m by omega]
  refine for_inv (fun i e g => ∃ t' x, ∃ left acc : List Int, e = [some (.ob 0), some (.int m), some (.ob 1), some (.ob 2), x] ∧ g = [t', .lst (left.map .int), .lst (acc.map .int)] ∧ Tape (n + i) t' ∧ left.length + i = m ∧ acc.length = i ∧
    (∀ v ∈ left, 0 ≤ v ∧ v < m) ∧ ∀ v ∈ acc, 0 ≤ v ∧ v < m) ?_ ?_ ?_
  · rintro a x k hx hk _ _ ⟨t', y, left, acc, rfl, rfl, h1, h2, h3, h4, h5⟩
    have ha : a < m := by
      have := (List.getElem?_eq_some_iff.mp hx).1
      rwa [rangeW_len] at this
    refine ⟨trivial, ?_⟩
    repeat walk_at "z1"
    refine w_draw hj h1 (by omega) (by rw [List.length_map]; omega) fun v t2 v0 v1 ht2 => ?_
    simp only [List.length_map] at v1
    have hv : v.toNat < left.length := by omega
    repeat walk_at "z1"
    refine opt_i (popAt_ok v0 (by omega) (x := .int left[v.toNat]) (by rw [List.getElem?_map, List.getElem?_eq_getElem hv]; rfl)) ?_
    repeat walk_at "z1"
    refine ⟨by simp only [List.length_map]; exact Nat.lt_trans (show acc.length < 2 ^ 20 by omega) (by decide), ?_⟩
    repeat walk_at "z1"
    refine hk _ _ ⟨t2, some x, left.eraseIdx v.toNat, acc ++ [left[v.toNat]], rfl, ?_, ht2, ?_, ?_, ?_, ?_⟩
    · show _ = [t2, W.lst ((left.eraseIdx v.toNat).map .int), W.lst ((acc ++ [left[v.toNat]]).map .int)]
      rw [← map_eraseIdx, List.map_append]; rfl
    · rw [List.length_eraseIdx, if_pos hv]; omega
    · simp; omega
    · exact fun w hw => h4 w (List.mem_of_mem_eraseIdx hw)
    · intro w hw
      rcases List.mem_append.mp hw with hw | hw
      · exact h5 w hw
      · rw [List.mem_singleton.mp hw]
        exact h4 _ (List.getElem_mem _)
  · rintro _ _ ⟨t', y, left, acc, rfl, rfl, h1, h2, h3, h4, h5⟩
    rw [rangeW_len] at h1 h2 h3
    refine ⟨trivial, ?_⟩
    repeat walk_at "z1"
    refine w_draw hj h1 (by omega) (by decide) fun v t2 v0 v1 ht2 => ?_
    have fin : ∀ x : Nat, opt (lslW [t2, .lst (left.map .int), .lst (acc.map .int)] (.ob 2) .non (.int (x : Int))) fun xs => retEnd true [t] Q (.lst xs) [t2, .lst (left.map .int), .lst (acc.map .int)] := fun x => by
      refine opt_i (show lslW _ _ _ _ = some ((acc.map W.int).take x) from ?_) ?_
      · show cutW (acc.map W.int) .non (.int (x : Int)) = _
        rw [cut_to (by omega)]; rfl
      rw [← List.map_take]
      refine ret_gc1 ht2 (wfs_ints _) (k _ _ (fun w hw => h5 w (List.mem_of_mem_take hw)) (by rw [List.length_take]; omega) (ht2.mono (by omega)))
    have hc : v = 0 ∨ v = 1 ∨ v = 2 := by omega
    rcases hc with rfl | rfl | rfl
    · refine opt_i (show _ = some (W.int (m : Int)) from rfl) ?_
      exact fin m
    · refine opt_i (show _ = some (W.int (m : Int)) from rfl) ?_
      exact fin m
    · refine opt_i (show _ = some (W.int (1 : Int)) from rfl) ?_
      exact fin 1
  · refine ⟨t, none, (List.range m).map fun k : Nat => 0 + (k : Int), [], rfl, ?_, ht, by simp, rfl, ?_, by simp⟩
    · rw [rangeW_map]; rfl
    · intro v hv
      obtain ⟨k, hk, rfl⟩ := List.mem_map.mp hv
      have := List.mem_range.mp hk
      omega
theorem w_putI {i : Nat} {xs : List W} {p : Nat} {q : Int} {v : W} {g : CH} (hi : nth T i = some m_law_put) (hq : q = (p : Int)) (hp : p < xs.length) (hl : xs.length < 2 ^ 20)
    (k : Q (.tup (xs.set p v)) g) : wpC T (d + 1) i [.tup xs, .int q, v] g Q := by
  subst hq
  exact w_put hi hp hl k
theorem fzs_same {n : Nat} {g : CH} : ∀ {xs : List W}, wfs n xs = true → Fzs n g xs xs
  | [], _ => .nil
  | x :: xs, h => by
    simp only [wfs, Bool.and_eq_true] at h
    exact .cons (.same h.1) (fzs_same h.2)
/-- .. and the list that is told is frozen -/
theorem ret_fz1 {n k : Nat} {t t' : W} {xs : List W} {rest : CH} (ht : Tape n t') (hk : nth (t' :: rest) k = some (.lst xs)) (h1 : 1 ≤ k) (hv : wfs 1 xs = true) (q : Q (.lst xs) [t']) : retEnd true [t] Q (.ob k) (t' :: rest) := by
  refine ⟨.lst xs, [t'], .ob h1 hk (fzs_same hv), ⟨rfl, by simp, fun i hi => .inr ⟨t', t', ?_, ?_, ht.fz⟩⟩, q⟩
  · have : i = 0 := by simpa using hi
    subst this; rfl
  · have : i = 0 := by simpa using hi
    subst this; rfl
theorem wfs_mem {n : Nat} : ∀ {xs : List W}, (∀ x ∈ xs, wf n x = true) → wfs n xs = true
  | [], _ => rfl
  | x :: xs, h => by
    simp only [wfs, Bool.and_eq_true]
    exact ⟨h x List.mem_cons_self, wfs_mem fun y hy => h y (List.mem_cons_of_mem _ hy)⟩
theorem mem_wfs {n : Nat} : ∀ {xs : List W}, wfs n xs = true → ∀ x ∈ xs, wf n x = true
  | [], _, x, hx => by simp at hx
  | y :: xs, h, x, hx => by
    simp only [wfs, Bool.and_eq_true] at h
    rcases List.mem_cons.mp hx with rfl | hx
    · exact h.1
    · exact mem_wfs h.2 x hx
theorem perm_erase {α : Type} : ∀ (xs : List α) (i : Nat) (h : i < xs.length), (xs[i] :: xs.eraseIdx i).Perm xs
  | [], i, h => by simp at h
  | x :: xs, 0, h => .refl _
  | x :: xs, i + 1, h => by
    have h' : i < xs.length := by simpa using h
    simp only [List.getElem_cons_succ, List.eraseIdx_cons_succ]
    exact (List.Perm.swap _ _ _).trans (.cons _ (perm_erase xs i h'))
theorem w_shuffled {i j n : Nat} {t : W} {xs : List W} (hi : nth T i = some (m_law_shuffled j)) (hj : nth T j = some m_law_draw) (ht : Tape n t) (hn : n + xs.length < 2 ^ 40) (hm : xs.length < 2 ^ 20) (hx : wfs 1 xs = true)
    (k : ∀ (ys : List W) t', ys.Perm xs → Tape (n + xs.length) t' → Q (.lst ys) [t']) : wpC T (d + 2) i [.ob 0, .lst xs] [t] Q := by
  refine wpC_succ.mpr (opt_i hi ⟨rfl, ?_⟩)
  repeat walk_at "z1"
  rw [show ((xs.length : Int) - 0).toNat = xs.length by omega]
  refine for_rng (fun i e g => ∃ t' x, ∃ left acc : List W, e = [some (.ob 0), some (.lst xs), some (.ob 1), some (.ob 2), x] ∧ g = [t', .lst left, .lst acc] ∧ Tape (n + i) t' ∧ left.length + i = xs.length ∧ acc.length = i ∧
    (left ++ acc).Perm xs) ?_ ?_ ⟨t, none, xs, [], rfl, rfl, ht, by simp, rfl, by simp⟩
  · rintro a k ha hk _ _ ⟨t', y, left, acc, rfl, rfl, h1, h2, h3, h4⟩
    repeat walk_at "z1"
    refine w_draw hj h1 (by omega) (by omega) fun v t2 v0 v1 ht2 => ?_
    have hv : v.toNat < left.length := by omega
    repeat walk_at "z1"
    refine opt_i (popAt_ok v0 (by omega) (x := left[v.toNat]) (List.getElem?_eq_getElem hv)) ?_
    repeat walk_at "z1"
    refine ⟨Nat.lt_trans (show acc.length < 2 ^ 20 by omega) (by decide), ?_⟩
    repeat walk_at "z1"
    refine hk _ _ ⟨t2, _, left.eraseIdx v.toNat, acc ++ [left[v.toNat]], rfl, rfl, ht2, ?_, ?_, ?_⟩
    · rw [List.length_eraseIdx, if_pos hv]; omega
    · simp; omega
    · refine List.Perm.trans ?_ h4
      rw [← List.append_assoc]
      refine List.Perm.trans List.perm_append_comm ?_
      rw [← List.append_assoc]
      exact List.Perm.append_right acc (perm_erase _ _ hv)
  · rintro _ _ ⟨t', y, left, acc, rfl, rfl, h1, h2, h3, h4⟩
    have hl : left = [] := List.eq_nil_of_length_eq_zero (by omega)
    subst hl
    repeat walk_at "z1"
    refine ret_fz1 h1 rfl (by decide) (wfs_mem fun x hx' => mem_wfs hx x (h4.subset (by simpa using hx'))) (k acc t' (by simpa using h4) h1)
end
end Z
namespace Z
open PySem PySem.Spec L2
open PyProof.Rows hiding St
/-! ### the laws' comparison -/
/-- told values: none, numbers, bools, texts, tuples of such, at most n within one another -/
def plain : Nat → W → Bool
  | _, .non => true
  | _, .int _ => true
  | _, .bl _ => true
  | _, .str _ => true
  | n + 1, .tup xs => decide (xs.length < 2 ^ 20) && xs.all (plain n)
  | _, _ => false
section
variable {T : List Fn} {d : Nat} {Q : WK} {g : CH}
local macro_rules | `(tactic| walk_at "z1") => `(tactic| first
  | refine opt_rng (by unfold rngOk; omega) ?_
  | refine opt_i rfl ?_
  | refine if_t rfl ?_
  | refine if_f rfl ?_)
theorem eqv_int (a : Int) : PyData.eqv (.int a) (.int a) = true := by simp [PyData.eqv]
theorem eqv_bool (a : Bool) : PyData.eqv (.bool a) (.bool a) = true := by cases a <;> rfl
theorem eqv_str (a : Str) : PyData.eqv (.str a) (.str a) = true := by simp [PyData.eqv]
def leaf : W → Bool
  | .non => true
  | .int _ => true
  | .bl _ => true
  | .str _ => true
  | _ => false
theorem w_same0 {i : Nat} (hi : nth T i = some (m_law_same i)) {x : W} {g : CH} (hp : leaf x = true) (k : Q (.bl true) g) : wpC T (d + 1) i [x, x] g Q := by
  refine wpC_succ.mpr (opt_i hi ⟨rfl, ?_⟩)
  cases x with
  | non =>
    repeat walk_at "z1"
    exact k
  | int a =>
    repeat walk_at "z1"
    rw [eqv_int]
    exact k
  | bl a =>
    repeat walk_at "z1"
    rw [eqv_bool]
    exact k
  | str a =>
    repeat walk_at "z1"
    rw [eqv_str]
    exact k
  | _ => cases hp
theorem leaf_of {n : Nat} {x : W} (h : plain n x = true) : leaf x = true ∨ ∃ m xs, n = m + 1 ∧ x = .tup xs ∧ xs.length < 2 ^ 20 ∧ ∀ y ∈ xs, plain m y = true := by
  cases x with
  | tup xs =>
    cases n with
    | zero => simp [plain] at h
    | succ m =>
      simp only [plain, Bool.and_eq_true, decide_eq_true_eq, List.all_eq_true] at h
      exact .inr ⟨m, xs, rfl, rfl, h.1, h.2⟩
  | non => exact .inl rfl
  | int _ => exact .inl rfl
  | bl _ => exact .inl rfl
  | str _ => exact .inl rfl
  | _ => cases n <;> simp [plain] at h
theorem w_same {i : Nat} (hi : nth T i = some (m_law_same i)) : ∀ (n : Nat) (x : W) (g : CH) (Q : WK), plain n x = true → Q (.bl true) g → wpC T (d + n + 1) i [x, x] g Q := by
  intro n
  induction n with
  | zero =>
    intro x g Q hp k
    rcases leaf_of hp with h | ⟨m, xs, h, _⟩
    · exact w_same0 hi h k
    · cases h
  | succ n ih =>
    intro x g Q hp k
    rcases leaf_of hp with h | ⟨m, xs, h, rfl, hl, hx⟩
    · exact w_same0 hi h k
    · cases h
      refine wpC_succ.mpr (opt_i hi ⟨rfl, ?_⟩)
      repeat walk_at "z1"
      rw [show PyData.eqv (.int xs.length) (.int xs.length) = true from eqv_int _]
      repeat walk_at "z1"
      refine for_rng (fun _ e g' => g' = g ∧ ∃ x, e = [some (.tup xs), some (.tup xs), x]) (fun a k' ha hk => ?_) ?_ ⟨rfl, none, rfl⟩
      · rintro _ _ ⟨rfl, y, rfl⟩
        have hg : xs[((0 : Int) + (a : Nat)).toNat]? = some xs[a] := by rw [zadd, Int.toNat_natCast]; exact List.getElem?_eq_getElem (by omega)
        repeat walk_at "z1"
        refine opt_ixt (by omega) hg ?_
        repeat walk_at "z1"
        refine opt_ixt (by omega) hg ?_
        refine ih _ _ _ (hx _ (List.getElem_mem _)) ?_
        repeat walk_at "z1"
        exact hk _ _ ⟨rfl, _, rfl⟩
      · rintro _ _ ⟨rfl, y, rfl⟩
        repeat walk_at "z1"
        exact k
theorem nth_app {α : Type} : ∀ (xs ys : List α) (i : Nat), i < xs.length → nth (xs ++ ys) i = nth xs i
  | [], _, i, h => by simp at h
  | x :: xs, ys, 0, _ => rfl
  | x :: xs, ys, i + 1, h => nth_app xs ys i (by simpa using h)
/-- what was made is let go, nothing else changed -/
theorem ret_gc0 {g rest : CH} {v : W} (hv : wf g.length v = true) (q : Q v g) : retEnd true g Q v (g ++ rest) :=
  ⟨v, g, .same hv, ⟨rfl, by simp, fun i hi => .inl ⟨nth_app g rest i hi, rfl⟩⟩, q⟩
theorem turn_gc0 {g rest : CH} {e0 e2 e3 : Env} {k : Env → CH → Prop} (fe : FzE g.length (g ++ rest) e0 e2 e3) (q : k e3 g) : turnEnd true e0 g k e2 (g ++ rest) :=
  ⟨e3, g, fe, ⟨rfl, by simp, fun i hi => .inl ⟨nth_app g rest i hi, rfl⟩⟩, q⟩
/-- data without bools, at most n within one another -/
def pln : Nat → W → Bool
  | _, .non => true
  | _, .int _ => true
  | _, .str _ => true
  | n + 1, .tup xs => xs.all (pln n)
  | n + 1, .lst xs => xs.all (pln n)
  | _, _ => false
theorem pln_mono : ∀ {n m : Nat} {x : W}, pln n x = true → n ≤ m → pln m x = true
  | 0, m, x, h, _ => by cases x <;> cases m <;> simp_all [pln]
  | n + 1, 0, x, h, l => by omega
  | n + 1, m + 1, x, h, l => by
    cases x with
    | tup xs =>
      simp only [pln, List.all_eq_true] at h ⊢
      exact fun y hy => pln_mono (h y hy) (by omega)
    | lst xs =>
      simp only [pln, List.all_eq_true] at h ⊢
      exact fun y hy => pln_mono (h y hy) (by omega)
    | _ => simp_all [pln]
/-- what == sees of it -/
theorem pln_dat : ∀ (n : Nat) (x : W), pln n x = true → ∃ d, dat x = some d ∧ d.depth ≤ n := by
  intro n
  induction n with
  | zero =>
    intro x h
    cases x with
    | non => exact ⟨.none, rfl, by simp [PyData.depth]⟩
    | int a => exact ⟨.int a, rfl, by simp [PyData.depth]⟩
    | str a => exact ⟨.str a, rfl, by simp [PyData.depth]⟩
    | _ => simp [pln] at h
  | succ n ih =>
    have all : ∀ xs : List W, (∀ x ∈ xs, pln n x = true) → ∃ ds, dats xs = some ds ∧ PyData.depthAll ds ≤ n := by
      intro xs
      induction xs with
      | nil => intro _; exact ⟨[], rfl, by simp [PyData.depthAll]⟩
      | cons x xs ihx =>
        intro h
        obtain ⟨d, h1, h2⟩ := ih x (h x List.mem_cons_self)
        obtain ⟨ds, h3, h4⟩ := ihx fun y hy => h y (List.mem_cons_of_mem _ hy)
        exact ⟨d :: ds, by simp only [dats, h1, h3], by simp only [PyData.depthAll]; omega⟩
    intro x h
    cases x with
    | non => exact ⟨.none, rfl, by simp [PyData.depth]⟩
    | int a => exact ⟨.int a, rfl, by simp [PyData.depth]⟩
    | str a => exact ⟨.str a, rfl, by simp [PyData.depth]⟩
    | tup xs =>
      obtain ⟨ds, h1, h2⟩ := all xs (List.all_eq_true.mp (by simpa [pln] using h))
      exact ⟨.tuple ds, by simp only [dat, h1, Option.map_some], by simp only [PyData.depth]; omega⟩
    | lst xs =>
      obtain ⟨ds, h1, h2⟩ := all xs (List.all_eq_true.mp (by simpa [pln] using h))
      exact ⟨.list ds, by simp only [dat, h1, Option.map_some], by simp only [PyData.depth]; omega⟩
    | _ => simp [pln] at h
theorem dats_len : ∀ {xs : List W} {ds : List PyData}, dats xs = some ds → ds.length = xs.length
  | [], ds, h => by simp [dats] at h; subst h; rfl
  | x :: xs, ds, h => by
    simp only [dats] at h
    split at h
    · rename_i h1 h2
      cases h
      simp [dats_len h2]
    · cases h
theorem pln_eqv : ∀ (n : Nat) (x y : W), pln n x = true → pln n y = true → ∀ dx dy, dat x = some dx → dat y = some dy → PyData.eqv dx dy = W.beq x y := by
  have leaf : ∀ (x y : W) (dx dy : PyData), (∀ xs, x ≠ .tup xs) → (∀ xs, x ≠ .lst xs) → (∀ b, x ≠ .bl b) → (∀ b, y ≠ .bl b) → dat x = some dx → dat y = some dy → PyData.eqv dx dy = W.beq x y := by
    intro x y dx dy h1 h2 h3 h4 hx hy
    cases x with
    | tup xs => exact absurd rfl (h1 xs)
    | lst xs => exact absurd rfl (h2 xs)
    | bl b => exact absurd rfl (h3 b)
    | lck _ => cases hx
    | dct _ _ => cases hx
    | ob _ => cases hx
    | _ =>
      cases hx
      cases y with
      | bl b => exact absurd rfl (h4 b)
      | lck _ => cases hy
      | dct _ _ => cases hy
      | ob _ => cases hy
      | tup ys =>
        simp only [dat, Option.map_eq_some_iff] at hy
        obtain ⟨a, _, rfl⟩ := hy
        simp [PyData.eqv, W.beq]
      | lst ys =>
        simp only [dat, Option.map_eq_some_iff] at hy
        obtain ⟨a, _, rfl⟩ := hy
        simp [PyData.eqv, W.beq]
      | _ =>
        cases hy
        first
          | simp [PyData.eqv, W.beq]; done
          | (simp only [PyData.eqv, W.beq]; rename_i a b; by_cases h : a = b <;> simp [h])
  intro n
  induction n with
  | zero =>
    intro x y h1 h2 dx dy hx hy
    refine leaf x y dx dy ?_ ?_ ?_ ?_ hx hy <;> rintro z rfl <;> simp [pln] at h1 h2
  | succ n ih =>
    have all : ∀ xs ys : List W, (∀ x ∈ xs, pln n x = true) → (∀ x ∈ ys, pln n x = true) → ∀ dx dy, dats xs = some dx → dats ys = some dy → PyData.eqvAll dx dy = W.beqs xs ys := by
      intro xs
      induction xs with
      | nil =>
        intro ys _ _ dx dy hx hy
        cases ys with
        | nil => simp [dats] at hx hy; subst hx hy; simp [PyData.eqvAll, W.beqs]
        | cons y ys =>
          have := dats_len hy
          simp [dats] at hx; subst hx
          cases dy with
          | nil => simp at this
          | cons d ds => simp [PyData.eqvAll, W.beqs]
      | cons x xs ihx =>
        intro ys p q dx dy hx hy
        cases ys with
        | nil =>
          have := dats_len hx
          simp [dats] at hy; subst hy
          cases dx with
          | nil => simp at this
          | cons d ds => simp [PyData.eqvAll, W.beqs]
        | cons y ys =>
          simp only [dats] at hx hy
          split at hx
          · rename_i d ds h1 h2
            cases hx
            split at hy
            · rename_i d' ds' h3 h4
              cases hy
              simp only [PyData.eqvAll, W.beqs]
              rw [ih x y (p x List.mem_cons_self) (q y List.mem_cons_self) d d' h1 h3, ihx ys (fun z hz => p z (List.mem_cons_of_mem _ hz)) (fun z hz => q z (List.mem_cons_of_mem _ hz)) ds ds' h2 h4]
            · cases hy
          · cases hx
    intro x y h1 h2 dx dy hx hy
    have nbx : ∀ b, x ≠ .bl b := by rintro b rfl; simp [pln] at h1
    have nby : ∀ b, y ≠ .bl b := by rintro b rfl; simp [pln] at h2
    cases x with
    | tup xs =>
      simp only [dat, Option.map_eq_some_iff] at hx
      obtain ⟨ds, hx, rfl⟩ := hx
      cases y with
      | tup ys =>
        simp only [dat, Option.map_eq_some_iff] at hy
        obtain ⟨es, hy, rfl⟩ := hy
        simp only [PyData.eqv, W.beq]
        exact all xs ys (List.all_eq_true.mp (by simpa [pln] using h1)) (List.all_eq_true.mp (by simpa [pln] using h2)) _ _ hx hy
      | lst ys =>
        simp only [dat, Option.map_eq_some_iff] at hy
        obtain ⟨es, hy, rfl⟩ := hy
        simp [PyData.eqv, W.beq]
      | bl b => exact absurd rfl (nby b)
      | lck _ => cases hy
      | dct _ _ => cases hy
      | ob _ => cases hy
      | _ => cases hy; simp [PyData.eqv, W.beq]
    | lst xs =>
      simp only [dat, Option.map_eq_some_iff] at hx
      obtain ⟨ds, hx, rfl⟩ := hx
      cases y with
      | lst ys =>
        simp only [dat, Option.map_eq_some_iff] at hy
        obtain ⟨es, hy, rfl⟩ := hy
        simp only [PyData.eqv, W.beq]
        exact all xs ys (List.all_eq_true.mp (by simpa [pln] using h1)) (List.all_eq_true.mp (by simpa [pln] using h2)) _ _ hx hy
      | tup ys =>
        simp only [dat, Option.map_eq_some_iff] at hy
        obtain ⟨es, hy, rfl⟩ := hy
        simp [PyData.eqv, W.beq]
      | bl b => exact absurd rfl (nby b)
      | lck _ => cases hy
      | dct _ _ => cases hy
      | ob _ => cases hy
      | _ => cases hy; simp [PyData.eqv, W.beq]
    | _ => exact leaf _ y dx dy (by intro _ z; cases z) (by intro _ z; cases z) nbx nby hx hy
/-- == of data -/
theorem eqD_pln {n : Nat} {g : CH} {x y : W} (hx : dr g x = x) (hy : dr g y = y) (h1 : pln n x = true) (h2 : pln n y = true) (hn : n ≤ 60) : eqD g x y = some (W.beq x y) := by
  obtain ⟨d, e1, l1⟩ := pln_dat n x h1
  obtain ⟨d', e2, l2⟩ := pln_dat n y h2
  unfold eqD
  rw [hx, hy, e1, e2]
  simp only
  rw [if_pos ⟨by omega, by omega⟩, pln_eqv n x y h1 h2 d d' e1 e2]
mutual
theorem W.beq_refl : ∀ x : W, W.beq x x = true
  | .non => rfl
  | .bl a => by simp [W.beq]
  | .int a => by simp [W.beq]
  | .str a => by simp [W.beq]
  | .tup a => by simp only [W.beq]; exact W.beqs_refl a
  | .lst a => by simp only [W.beq]; exact W.beqs_refl a
  | .dct a b => by simp only [W.beq, Bool.and_eq_true]; exact ⟨W.beqs_refl a, W.beqs_refl b⟩
  | .lck a => by simp only [W.beq]; exact W.beqs_refl a
  | .ob a => by simp [W.beq]
theorem W.beqs_refl : ∀ x : List W, W.beqs x x = true
  | [] => rfl
  | x :: xs => by simp only [W.beqs, Bool.and_eq_true]; exact ⟨W.beq_refl x, W.beqs_refl xs⟩
end
theorem W.beq_iff {x y : W} : W.beq x y = true ↔ x = y := ⟨W.beq_ok, fun h => by subst h; exact W.beq_refl x⟩
theorem pln_dats {n : Nat} : ∀ (xs : List W), (∀ x ∈ xs, pln n x = true) → ∃ ds, dats xs = some ds ∧ PyData.depthAll ds ≤ n
  | [], _ => ⟨[], rfl, by simp [PyData.depthAll]⟩
  | x :: xs, h => by
    obtain ⟨d, h1, h2⟩ := pln_dat n x (h x List.mem_cons_self)
    obtain ⟨ds, h3, h4⟩ := pln_dats xs fun y hy => h y (List.mem_cons_of_mem _ hy)
    exact ⟨d :: ds, by simp only [dats, h1, h3], by simp only [PyData.depthAll]; omega⟩
theorem any_pln {n : Nat} {x : W} {d : PyData} (hx : pln n x = true) (e : dat x = some d) : ∀ (ys : List W) (es : List PyData), (∀ y ∈ ys, pln n y = true) → dats ys = some es → (es.any fun z => PyData.eqv z d) = ys.any fun z => W.beq z x
  | [], es, _, h => by simp [dats] at h; subst h; rfl
  | y :: ys, es, p, h => by
    simp only [dats] at h
    split at h
    · rename_i d' ds' h3 h4
      cases h
      simp only [List.any_cons]
      rw [pln_eqv n y x (p y List.mem_cons_self) hx d' d h3 e, any_pln hx e ys ds' (fun z hz => p z (List.mem_cons_of_mem _ hz)) h4]
    · cases h
/-- x in a tuple | a list of data -/
theorem inD_pln {n : Nat} {g : CH} {x y : W} {ys : List W} (hx : dr g x = x) (hy : dr g y = .tup ys ∨ dr g y = .lst ys) (h1 : pln n x = true) (h2 : ∀ y ∈ ys, pln n y = true) (hn : n ≤ 60) : inD g x y = some (ys.any fun z => W.beq z x) := by
  obtain ⟨d, e1, l1⟩ := pln_dat n x h1
  obtain ⟨es, e2, l2⟩ := pln_dats ys h2
  unfold inD
  rw [hx, e1]
  rcases hy with hy | hy <;> rw [hy] <;> simp only [e2, Option.bind_some] <;> rw [if_pos ⟨by omega, by omega⟩, any_pln h1 e1 ys es h2 e2]
theorem opt_eqD {n : Nat} {x y : W} {R : Bool → Prop} (hx : dr g x = x) (hy : dr g y = y) (h1 : pln n x = true) (h2 : pln n y = true) (hn : n ≤ 60) (q : R (W.beq x y)) : opt (cop g .eq x y) R := by
  refine ⟨_, ?_, q⟩
  have := eqD_pln hx hy h1 h2 hn
  cases x <;> cases y <;> exact this
theorem opt_neD {n : Nat} {x y : W} {R : Bool → Prop} (hx : dr g x = x) (hy : dr g y = y) (h1 : pln n x = true) (h2 : pln n y = true) (hn : n ≤ 60) (q : R (!W.beq x y)) : opt (cop g .ne x y) R := by
  refine ⟨!W.beq x y, ?_, q⟩
  have e : (eqD g x y).map not = some (!W.beq x y) := by rw [eqD_pln hx hy h1 h2 hn]; rfl
  cases x <;> cases y <;> exact e
theorem opt_inD {n : Nat} {x y : W} {ys : List W} {R : Bool → Prop} (hx : dr g x = x) (hy : dr g y = .tup ys ∨ dr g y = .lst ys) (h1 : pln n x = true) (h2 : ∀ y ∈ ys, pln n y = true) (hn : n ≤ 60) (q : R (ys.any fun z => W.beq z x)) : opt (cop g .isin x y) R := by
  refine ⟨_, ?_, q⟩
  have := inD_pln hx hy h1 h2 hn
  cases x <;> cases y <;> exact this
theorem any_ints {a : Int} : ∀ c : List Int, ((c.map W.int).any fun z => W.beq z (.int a)) = decide (a ∈ c)
  | [] => by simp
  | b :: c => by
    rw [List.map_cons, List.any_cons, any_ints c]
    by_cases h : a = b
    · subst h; simp [W.beq]
    · have : (W.beq (.int b) (.int a)) = false := by
        simp only [W.beq, decide_eq_false_iff_not]
        exact fun e => h e.symm
      rw [this]
      simp [h]
theorem pln_ints0 (c : List Int) : ∀ y ∈ c.map W.int, pln 0 y = true := by
  intro y hy
  obtain ⟨z, _, rfl⟩ := List.mem_map.mp hy
  rfl
theorem in_ints {g : CH} {a : Int} {c : List Int} {R : Bool → Prop} (q : R (decide (a ∈ c))) : opt (cop g .isin (.int a) (.lst (c.map .int))) R := by
  refine opt_inD (n := 0) rfl (.inr rfl) rfl (pln_ints0 c) (by omega) ?_
  rw [any_ints]; exact q
theorem notin_ints {g : CH} {a : Int} {c : List Int} {R : Bool → Prop} (q : R (!decide (a ∈ c))) : opt (cop g .notin (.int a) (.lst (c.map .int))) R := by
  refine ⟨_, ?_, q⟩
  show (inD g (.int a) (.lst (c.map .int))).map not = _
  rw [inD_pln (n := 0) rfl (.inr rfl) rfl (pln_ints0 c) (by omega), any_ints]
  rfl
theorem intsOf_map : ∀ ns : List Int, intsOf (ns.map .int) = some ns
  | [] => rfl
  | n :: ns => by simp only [List.map_cons, intsOf, intsOf_map ns, Option.map_some]
theorem opt_sum {g : CH} {vs : List Int} {R : W → Prop} (q : R (.int vs.sum)) : opt (u1W g .sum (.lst (vs.map .int))) R := ⟨_, by
  show ((intsOf (vs.map .int)).map fun ns => W.int ns.sum) = _
  rw [intsOf_map]; rfl, q⟩
theorem maxL_of {ns : List Int} {m : Int} (h1 : m ∈ ns) (h2 : ∀ y ∈ ns, y ≤ m) : maxL ns = some m := by
  cases ns with
  | nil => cases h1
  | cons n ns =>
    show some _ = some m
    rw [foldl_max ns n m h2 h1]
theorem opt_maxL {g : CH} {vs : List Int} {m : Int} {R : W → Prop} (h1 : m ∈ vs) (h2 : ∀ y ∈ vs, y ≤ m) (q : R (.int m)) : opt (u1W g .max (.lst (vs.map .int))) R := ⟨_, by
  show ((intsOf (vs.map .int)).bind fun ns => (maxL ns).map W.int) = _
  rw [intsOf_map, Option.bind_some, maxL_of h1 h2]; rfl, q⟩
theorem opt_maxT {g : CH} {vs : List Int} {m : Int} {R : W → Prop} (h1 : m ∈ vs) (h2 : ∀ y ∈ vs, y ≤ m) (q : R (.int m)) : opt (u1W g .max (.tup (vs.map .int))) R := ⟨_, by
  show ((intsOf (vs.map .int)).bind fun ns => (maxL ns).map W.int) = _
  rw [intsOf_map, Option.bind_some, maxL_of h1 h2]; rfl, q⟩
/-- == of data, as it stands -/
theorem opt_eqR {g : CH} {n : Nat} {x y x' y' : W} {R : Bool → Prop} (hx : dr g x = x') (hy : dr g y = y') (e1 : dr g x' = x') (e2 : dr g y' = y') (h1 : pln n x' = true) (h2 : pln n y' = true) (hn : n ≤ 60) (q : R (W.beq x' y')) : opt (cop g .eq x y) R := by
  refine ⟨_, ?_, q⟩
  have := eqD_pln e1 e2 h1 h2 hn
  have e : eqD g x y = some (W.beq x' y') := by
    rw [← this]
    unfold eqD
    rw [hx, hy, e1, e2]
  cases x <;> cases y <;> exact e
end
/-! ### walks of rows that stand as a map -/
section
variable {α : Type} {t : T} {g : CH}
theorem at_map {as : List α} {wi : α → W} {i : Nat} {x : W} (h : (as.map wi)[i]? = some x) : ∃ a, as[i]? = some a ∧ x = wi a := by
  rw [List.getElem?_map, Option.map_eq_some_iff] at h
  obtain ⟨a, h1, h2⟩ := h
  exact ⟨a, h1, h2.symm⟩
/-- a comprehension: those that P lets pass, by f -/
theorem lc_fm {tst : Env → CH → (Bool → CH → Prop) → Prop} {elt : Env → CH → WK → Prop} {env0 : Env} {as : List α} {wi : α → W} {R : List W → CH → Prop} (P : α → Bool) (f : α → W)
    (hs : ∀ a ∈ as, ∀ (acc : List W) (k : List W → CH → Prop), (P a = true → k (acc ++ [f a]) g) → (P a = false → k acc g) →
      opt (asg t (wi a) env0) fun env1 => tst env1 g fun b g1 => if b = true then elt env1 g1 fun w g2 => k (acc ++ [w]) g2 else k acc g1)
    (he : R ((as.filter P).map f) g) : lcL t tst elt env0 none (as.map wi) (as.map wi) [] g R := by
  refine lc_inv (fun i acc g' => g' = g ∧ acc = ((as.take i).filter P).map f) (fun i x acc g' k hx h hk => ⟨trivial, ?_⟩) (fun acc g' h => ⟨trivial, ?_⟩) ⟨rfl, by simp⟩
  · obtain ⟨rfl, rfl⟩ := h
    obtain ⟨a, ha, rfl⟩ := at_map hx
    have e : as.take (i + 1) = as.take i ++ [a] := by rw [List.take_succ, ha]; rfl
    refine hs a (List.mem_of_getElem? ha) _ k (fun hp => hk _ _ ⟨rfl, ?_⟩) (fun hp => hk _ _ ⟨rfl, ?_⟩)
    · rw [e, List.filter_append, List.map_append, List.filter_cons_of_pos hp]; rfl
    · rw [e, List.filter_append, List.map_append, List.filter_cons_of_neg (by rw [hp]; decide)]; simp
  · obtain ⟨rfl, rfl⟩ := h
    rw [List.length_map, List.take_length]
    exact he
/-- .. all, by f -/
theorem lc_map {elt : Env → CH → WK → Prop} {F : FSem} {env0 : Env} {as : List α} {wi : α → W} {R : List W → CH → Prop} (f : α → W)
    (hs : ∀ a ∈ as, ∀ (k : WK), k (f a) g → opt (asg t (wi a) env0) fun env1 => elt env1 g k)
    (he : R (as.map f) g) : lcL t (wpT F .nil) elt env0 none (as.map wi) (as.map wi) [] g R := by
  refine lc_fm (fun _ => true) f (fun a ha acc k h1 h2 => ?_) (by rw [List.filter_eq_self.mpr (fun _ _ => rfl)]; exact he)
  exact hs a ha (fun w g2 => k (acc ++ [w]) g2) (h1 rfl)
/-- a for -/
theorem for_list {gc : Bool} {e0 env : Env} {g0 : CH} {body : Env → CH → Post → Prop} {as : List α} {wi : α → W} {P : Post} (I : Nat → Env → CH → Prop)
    (hs : ∀ (i : Nat) (a : α) (k : Env → CH → Prop), as[i]? = some a → (∀ e g, I (i + 1) e g → k e g) → ∀ e g, I i e g → opt (asg t (wi a) e) fun e1 => body e1 g (P.turn (turnEnd gc e0 g0 k)))
    (he : ∀ e g, I as.length e g → P.nx e g) (h0 : I 0 env g) : forL gc e0 g0 t body none (as.map wi) (as.map wi) env g P := by
  refine for_inv I (fun i x k hx hk e g' h => ⟨trivial, ?_⟩) (fun e g' h => ⟨trivial, he e g' ?_⟩) h0
  · obtain ⟨a, ha, rfl⟩ := at_map hx
    exact hs i a k ha hk e g' h
  · rwa [List.length_map] at h
end
/-! ### dicts whose keys are numbers -/
theorem keysOf_nat : ∀ B : List Nat, keysOf (B.map fun y : Nat => W.int y) = some (B.map fun y : Nat => Sum.inl (y : Int))
  | [] => rfl
  | b :: B => by simp only [List.map_cons, keysOf, keyOf, keysOf_nat B]; rfl
theorem inlsOf_nat : ∀ B : List Nat, inlsOf (B.map fun y : Nat => (Sum.inl (y : Int) : Key)) = some (B.map fun y : Nat => (y : Int))
  | [] => rfl
  | b :: B => by simp only [List.map_cons, inlsOf, inlsOf_nat B]; rfl
theorem dfind_nat {v : Nat → W} {b : Nat} : ∀ B : List Nat, dfind (B.map fun y : Nat => Sum.inl (y : Int)) (B.map v) (.inl (b : Int)) = if b ∈ B then some (v b) else none
  | [] => rfl
  | y :: B => by
    simp only [List.map_cons, dfind]
    by_cases h : y = b
    · subst h
      rw [if_pos rfl, if_pos List.mem_cons_self]
    · rw [if_neg (fun z => h (by have := Sum.inl.inj z; omega)), dfind_nat B]
      have e : b ∈ y :: B ↔ b ∈ B := by rw [List.mem_cons]; exact ⟨fun z => z.elim (fun z => absurd z.symm h) id, .inr⟩
      by_cases hb : b ∈ B
      · rw [if_pos hb, if_pos (e.mpr hb)]
      · rw [if_neg hb, if_neg (fun z => hb (e.mp z))]
theorem hasK_nat {b : Nat} (B : List Nat) : hasK (B.map fun y : Nat => Sum.inl (y : Int)) (.inl (b : Int)) = decide (b ∈ B) := by
  unfold hasK
  rw [Bool.eq_iff_iff]
  simp only [List.any_eq_true, List.mem_map, decide_eq_true_eq]
  constructor
  · rintro ⟨_, ⟨y, hy, rfl⟩, h⟩
    have : y = b := by have := Sum.inl.inj h; omega
    rwa [← this]
  · intro h
    exact ⟨_, ⟨b, h, rfl⟩, rfl⟩
theorem drepl_nat {v : Nat → W} {b : Nat} {w : W} : ∀ B : List Nat, drepl (B.map fun y : Nat => Sum.inl (y : Int)) (B.map v) (.inl (b : Int)) w = B.map fun y => if y = b then w else v y
  | [] => rfl
  | y :: B => by
    simp only [List.map_cons, drepl, drepl_nat B]
    congr 1
    by_cases h : y = b
    · subst h; rw [if_pos rfl, if_pos rfl]
    · rw [if_neg h, if_neg (fun z => h (by have := Sum.inl.inj z; omega))]
/-- the keys behind a store -/
def addK (B : List Nat) (b : Nat) : List Nat := if b ∈ B then B else B ++ [b]
theorem addK_mem {B : List Nat} {b y : Nat} : y ∈ addK B b ↔ y = b ∨ y ∈ B := by
  unfold addK
  split
  · rename_i h
    exact ⟨.inr, fun z => z.elim (fun e => by rw [e]; exact h) id⟩
  · rw [List.mem_append, List.mem_singleton]
    exact Or.comm
theorem addK_nodup {B : List Nat} {b : Nat} (h : B.Nodup) : (addK B b).Nodup := by
  unfold addK
  split
  · exact h
  · rename_i hb
    rw [List.nodup_append]
    refine ⟨h, by simp, fun a ha c hc e => ?_⟩
    rw [List.mem_singleton] at hc
    exact hb (by rw [← hc, ← e]; exact ha)
/-- the dict with the keys B -/
def dctN (B : List Nat) (v : Nat → W) : W := .dct (B.map fun y : Nat => W.int y) (B.map v)
theorem put_nat {B : List Nat} {v : Nat → W} {b : Nat} {w : W} {R : W → Prop} (q : R (dctN (addK B b) fun y => if y = b then w else v y)) : opt (putD (B.map fun y : Nat => Sum.inl (y : Int)) (B.map v) (.inl (b : Int)) w) R := by
  refine ⟨_, rfl, ?_⟩
  unfold dputK dputX
  rw [hasK_nat]
  unfold dctN addK at q
  by_cases h : b ∈ B
  · rw [if_pos h] at q
    rw [decide_eq_true h, if_pos rfl, if_pos rfl, drepl_nat, List.map_map]
    exact q
  · rw [if_neg h] at q
    rw [decide_eq_false h, if_neg (by decide), if_neg (by decide)]
    rw [List.map_append, List.map_append] at q
    have e : (B.map fun y => if y = b then w else v y) = B.map v := List.map_congr_left fun y hy => if_neg fun z => h (by rw [← z]; exact hy)
    rw [e] at q
    rw [List.map_append, List.map_map]
    simp only [List.map_cons, List.map_nil, if_true] at q
    exact q
theorem dctOf_nat {g : CH} {o : W} {B : List Nat} {v : Nat → W} (h : dr g o = dctN B v) : dctOf g o = some (B.map (fun y : Nat => Sum.inl (y : Int)), B.map v) := by
  unfold dctOf
  rw [h]
  show (keysOf _).map _ = _
  rw [keysOf_nat]; rfl
theorem dix_nat {g : CH} {o : W} {B : List Nat} {v : Nat → W} {b : Nat} {R : W → Prop} (h : dr g o = dctN B v) (hb : b ∈ B) (q : R (v b)) : opt (dixW g o (.int b)) R := by
  refine ⟨v b, ?_, q⟩
  unfold dixW
  rw [dctOf_nat h]
  show dfind _ _ _ = _
  rw [dfind_nat, if_pos hb]
theorem din_nat {g : CH} {o : W} {B : List Nat} {v : Nat → W} {b : Nat} {R : Bool → Prop} (h : dr g o = dctN B v) (q : R (decide (b ∈ B))) : opt (dinW g (.int b) o) R := by
  refine ⟨_, ?_, q⟩
  unfold dinW
  rw [dctOf_nat h]
  show some (dfind _ _ _).isSome = _
  rw [dfind_nat]
  by_cases hb : b ∈ B
  · rw [if_pos hb, decide_eq_true hb]; rfl
  · rw [if_neg hb, decide_eq_false hb]; rfl
theorem dob_nat {g : CH} {n : Nat} {B : List Nat} {v : Nat → W} {R : Nat × List Key × List W → Prop} (h : nth g n = some (dctN B v)) (q : R (n, B.map (fun y : Nat => Sum.inl (y : Int)), B.map v)) : opt (dobOf g (.ob n)) R := by
  refine ⟨_, ?_, q⟩
  unfold dobOf
  simp only [h, dctN]
  rw [keysOf_nat]; rfl
/-- the sorted keys -/
theorem sort_nat {n : Nat} {B : List Nat} (nd : B.Nodup) (hn : ∀ y ∈ B, y < n) : sortInts (B.map fun y : Nat => (y : Int)) = ((List.range n).filter fun y => decide (y ∈ B)).map fun y : Nat => (y : Int) := by
  refine sortInts_of (List.Perm.map _ ?_) ?_
  · refine (List.perm_ext_iff_of_nodup (List.Pairwise.filter _ List.nodup_range) nd).mpr fun y => ?_
    rw [List.mem_filter, List.mem_range, decide_eq_true_eq]
    exact ⟨fun z => z.2, fun z => ⟨hn y z, z⟩⟩
  · rw [List.pairwise_map]
    refine List.Pairwise.filter _ ?_
    exact (List.pairwise_lt_range).imp fun h => by omega
end Z
namespace Z.K07
open PySem PySem.Spec L2
open PyProof.Rows hiding St
def st (i : Nat) : PySem.Stmt := PySem.Challenge.pw_ftqc_k07_what_commands_lead_to.main.body.getD i (.Pass ⟨0, 0, 0, 0⟩)
abbrev fvalue_of : Nat := 0
abbrev fplus : Nat := 1
abbrev fminus : Nat := 2
abbrev fturned : Nat := 3
abbrev frooted : Nat := 4
abbrev funrooted : Nat := 5
abbrev ffirst_vector : Nat := 6
abbrev fsummed_up : Nat := 7
abbrev fdivided : Nat := 8
abbrev freduced : Nat := 9
abbrev fwith_letter : Nat := 10
abbrev fmoved_terms : Nat := 11
abbrev fapply_product : Nat := 12
abbrev fapply_phase : Nat := 13
abbrev fproject : Nat := 14
abbrev fturn_between : Nat := 15
abbrev fcleared : Nat := 16
abbrev fmagic_made : Nat := 17
abbrev ffirst_state : Nat := 18
abbrev fwith_bit : Nat := 19
abbrev fmeasured_states : Nat := 20
abbrev fcleared_states : Nat := 21
abbrev fstates_after : Nat := 22
abbrev f_law_tape : Nat := 23
abbrev f_law_draw : Nat := 24
abbrev f_law_pick : Nat := 25
abbrev f_law_put : Nat := 26
abbrev f_law_same : Nat := 27
abbrev f_law_two : Nat := 28
abbrev f_law_amp_plus : Nat := 29
abbrev f_law_amp_turn : Nat := 30
abbrev f_law_amp_root : Nat := 31
abbrev f_law_vec_told : Nat := 32
abbrev f_law_vec_act : Nat := 33
abbrev f_law_vec_apply : Nat := 34
abbrev f_law_vec_phase : Nat := 35
abbrev f_law_vec_part : Nat := 36
abbrev f_law_vec_none : Nat := 37
abbrev f_law_vec_clear : Nat := 38
abbrev f_law_vec_magic : Nat := 39
abbrev f_law_vec_value : Nat := 40
abbrev f_law_vec_lead : Nat := 41
abbrev f_law_flat_product : Nat := 42
abbrev f_law_flat_expression : Nat := 43
abbrev f_law_flat_guard : Nat := 44
abbrev f_law_flat_deed : Nat := 45
abbrev f_law_a_amp : Nat := 46
abbrev f_law_a_basis : Nat := 47
abbrev f_law_a_vec : Nat := 48
abbrev f_law_lead_given : Nat := 49
abbrev f_law_lead_changed : Nat := 50
abbrev f_law_lead_told : Nat := 51
abbrev f_law_lead_right : Nat := 52
abbrev flaw : Nat := 53
def cNOTHING : W := (.tup [(.int 0), (.int 0), (.int 0), (.int 0)])
def mvalue_of : Fn := ⟨2, 5, false, (.seq (.set (.n 2) (.ix (.v 0) (.k (.int 0)))) (.seq (.ite (.cmp .eq (.v 2) (.k (.str "cell"))) (.seq (.ret (.ix (.v 1) (.ix (.v 0) (.k (.int 1))))) .nop) .nop) (.seq (.ite (.cmp .eq (.v 2) (.k (.str "not"))) (.seq (.ret (.bin .sub (.k (.int 1)) (.call fvalue_of (.cons (.ix (.v 0) (.k (.int 1))) (.cons (.v 1) .nil))))) .nop) .nop) (.seq (.set (.n 3) (.fz (.lc [4] (.n 4) (.it (.ix (.v 0) (.k (.int 1)))) .nil (.call fvalue_of (.cons (.v 4) (.cons (.v 1) .nil)))))) (.seq (.ite (.cmp .eq (.v 2) (.k (.str "and"))) (.seq (.ret (.ite (.cmp .isin (.k (.int 0)) (.v 3)) (.k (.int 0)) (.k (.int 1)))) .nop) .nop) (.seq (.ite (.cmp .eq (.v 2) (.k (.str "or"))) (.seq (.ret (.ite (.cmp .isin (.k (.int 1)) (.v 3)) (.k (.int 1)) (.k (.int 0)))) .nop) .nop) (.seq (.ret (.bin .mod (.u1 .sum (.v 3)) (.k (.int 2)))) .nop)))))))⟩
def mplus : Fn := ⟨2, 2, false, (.seq (.ret (.tup (.cons (.bin .add (.ix (.v 0) (.k (.int 0))) (.ix (.v 1) (.k (.int 0)))) (.cons (.bin .add (.ix (.v 0) (.k (.int 1))) (.ix (.v 1) (.k (.int 1)))) (.cons (.bin .add (.ix (.v 0) (.k (.int 2))) (.ix (.v 1) (.k (.int 2)))) (.cons (.bin .add (.ix (.v 0) (.k (.int 3))) (.ix (.v 1) (.k (.int 3)))) .nil)))))) .nop)⟩
def mminus : Fn := ⟨2, 2, false, (.seq (.ret (.tup (.cons (.bin .sub (.ix (.v 0) (.k (.int 0))) (.ix (.v 1) (.k (.int 0)))) (.cons (.bin .sub (.ix (.v 0) (.k (.int 1))) (.ix (.v 1) (.k (.int 1)))) (.cons (.bin .sub (.ix (.v 0) (.k (.int 2))) (.ix (.v 1) (.k (.int 2)))) (.cons (.bin .sub (.ix (.v 0) (.k (.int 3))) (.ix (.v 1) (.k (.int 3)))) .nil)))))) .nop)⟩
def mturned : Fn := ⟨2, 7, false, (.seq (.set (.tup (.cons (.n 2) (.cons (.n 3) (.cons (.n 4) (.cons (.n 5) .nil))))) (.v 0)) (.seq (.set (.n 6) (.bin .mod (.v 1) (.k (.int 8)))) (.seq (.ite (.cmp .ge (.v 6) (.k (.int 4))) (.seq (.set (.tup (.cons (.n 2) (.cons (.n 3) (.cons (.n 4) (.cons (.n 5) .nil))))) (.tup (.cons (.neg (.v 2)) (.cons (.neg (.v 3)) (.cons (.neg (.v 4)) (.cons (.neg (.v 5)) .nil)))))) (.seq (.set (.n 6) (.bin .sub (.v 6) (.k (.int 4)))) .nop)) .nop) (.seq (.ite (.cmp .eq (.v 6) (.k (.int 1))) (.seq (.ret (.tup (.cons (.neg (.v 5)) (.cons (.v 2) (.cons (.v 3) (.cons (.v 4) .nil)))))) .nop) .nop) (.seq (.ite (.cmp .eq (.v 6) (.k (.int 2))) (.seq (.ret (.tup (.cons (.neg (.v 4)) (.cons (.neg (.v 5)) (.cons (.v 2) (.cons (.v 3) .nil)))))) .nop) .nop) (.seq (.ite (.cmp .eq (.v 6) (.k (.int 3))) (.seq (.ret (.tup (.cons (.neg (.v 3)) (.cons (.neg (.v 4)) (.cons (.neg (.v 5)) (.cons (.v 2) .nil)))))) .nop) .nop) (.seq (.ret (.tup (.cons (.v 2) (.cons (.v 3) (.cons (.v 4) (.cons (.v 5) .nil)))))) .nop)))))))⟩
def mrooted : Fn := ⟨1, 5, false, (.seq (.set (.tup (.cons (.n 1) (.cons (.n 2) (.cons (.n 3) (.cons (.n 4) .nil))))) (.v 0)) (.seq (.ret (.tup (.cons (.bin .sub (.v 2) (.v 4)) (.cons (.bin .add (.v 1) (.v 3)) (.cons (.bin .add (.v 2) (.v 4)) (.cons (.bin .sub (.v 3) (.v 1)) .nil)))))) .nop))⟩
def munrooted : Fn := ⟨1, 5, false, (.seq (.set (.tup (.cons (.n 1) (.cons (.n 2) (.cons (.n 3) (.cons (.n 4) .nil))))) (.v 0)) (.seq (.ite (.or (.cmp .eq (.bin .mod (.bin .add (.v 1) (.v 3)) (.k (.int 2))) (.k (.int 1))) (.cmp .eq (.bin .mod (.bin .add (.v 2) (.v 4)) (.k (.int 2))) (.k (.int 1)))) (.seq (.ret (.k .non)) .nop) .nop) (.seq (.ret (.tup (.cons (.bin .fdiv (.bin .sub (.v 2) (.v 4)) (.k (.int 2))) (.cons (.bin .fdiv (.bin .add (.v 1) (.v 3)) (.k (.int 2))) (.cons (.bin .fdiv (.bin .add (.v 2) (.v 4)) (.k (.int 2))) (.cons (.bin .fdiv (.bin .sub (.v 3) (.v 1)) (.k (.int 2))) .nil)))))) .nop)))⟩
def mfirst_vector : Fn := ⟨0, 0, false, (.seq (.ret (.tup (.cons (.k (.int 0)) (.cons (.tup (.cons (.tup (.cons (.k (.int 0)) (.cons (.tup (.cons (.k (.int 1)) (.cons (.k (.int 0)) (.cons (.k (.int 0)) (.cons (.k (.int 0)) .nil))))) .nil))) .nil)) .nil)))) .nop)⟩
def msummed_up : Fn := ⟨1, 4, true, (.seq (.set (.n 1) .dnew) (.seq (.loop false (.tup (.cons (.n 2) (.cons (.n 3) .nil))) (.it (.v 0)) (.seq (.ite (.din false (.v 2) (.v 1)) (.seq (.setd (.v 1) (.v 2) (.call fplus (.cons (.dix (.v 1) (.v 2)) (.cons (.v 3) .nil)))) .nop) (.seq (.setd (.v 1) (.v 2) (.v 3)) .nop)) .nop)) (.seq (.ret (.fz (.lc [2] (.n 2) (.it (.fz (.dsort (.v 1)))) (.cons (.cmp .ne (.dix (.v 1) (.v 2)) (.gl cNOTHING 0)) .nil) (.tup (.cons (.v 2) (.cons (.dix (.v 1) (.v 2)) .nil)))))) .nop)))⟩
def mdivided : Fn := ⟨1, 5, true, (.seq (.set (.n 1) (.mk (.lst .nil))) (.seq (.loop false (.tup (.cons (.n 2) (.cons (.n 3) .nil))) (.it (.v 0)) (.seq (.set (.n 4) (.call funrooted (.cons (.v 3) .nil))) (.seq (.ite (.cmp .isN (.v 4) (.k .non)) (.seq (.ret (.k .non)) .nop) .nop) (.seq (.ex (.app (.v 1) (.tup (.cons (.v 2) (.cons (.v 4) .nil))))) .nop)))) (.seq (.ret (.v 1)) .nop)))⟩
def mreduced : Fn := ⟨2, 4, false, (.seq (.set (.n 2) (.call fsummed_up (.cons (.v 1) .nil))) (.seq (.ite (.nt (.tv (.v 2))) (.seq (.ret (.tup (.cons (.k (.int 0)) (.cons (.tup .nil) .nil)))) .nop) .nop) (.seq (.whil false (.cmp .gt (.v 0) (.k (.int 0))) (.seq (.set (.n 3) (.call fdivided (.cons (.v 2) .nil))) (.seq (.ite (.cmp .isN (.v 3) (.k .non)) (.seq .brk .nop) .nop) (.seq (.set (.n 2) (.v 3)) (.seq (.set (.n 0) (.bin .sub (.v 0) (.k (.int 1)))) .nop))))) (.seq (.ret (.tup (.cons (.v 0) (.cons (.u1 .tuple (.v 2)) .nil)))) .nop))))⟩
def mwith_letter : Fn := ⟨3, 5, false, (.seq (.set (.n 3) (.bin .shl (.k (.int 1)) (.v 1))) (.seq (.set (.n 4) (.cmp .ne (.bin .band (.v 0) (.v 3)) (.k (.int 0)))) (.seq (.ite (.cmp .eq (.v 2) (.k (.str "X"))) (.seq (.ret (.tup (.cons (.bin .bxor (.v 0) (.v 3)) (.cons (.k (.int 0)) .nil)))) .nop) .nop) (.seq (.ite (.cmp .eq (.v 2) (.k (.str "Z"))) (.seq (.ret (.tup (.cons (.v 0) (.cons (.ite (.tv (.v 4)) (.k (.int 4)) (.k (.int 0))) .nil)))) .nop) .nop) (.seq (.ret (.tup (.cons (.bin .bxor (.v 0) (.v 3)) (.cons (.ite (.tv (.v 4)) (.k (.int 6)) (.k (.int 2))) .nil)))) .nop)))))⟩
def mmoved_terms : Fn := ⟨3, 11, true, (.seq (.set (.n 3) (.mk (.lst .nil))) (.seq (.loop false (.tup (.cons (.n 4) (.cons (.n 5) .nil))) (.it (.v 0)) (.seq (.set (.n 6) (.ite (.cmp .eq (.v 1) (.k (.int 1))) (.k (.int 0)) (.k (.int 4)))) (.seq (.set (.n 7) (.v 4)) (.seq (.loop false (.tup (.cons (.n 8) (.cons (.n 9) .nil))) (.it (.v 2)) (.seq (.set (.tup (.cons (.n 7) (.cons (.n 10) .nil))) (.call fwith_letter (.cons (.v 7) (.cons (.v 8) (.cons (.v 9) .nil))))) (.seq (.set (.n 6) (.bin .add (.v 6) (.v 10))) .nop))) (.seq (.ex (.app (.v 3) (.tup (.cons (.v 7) (.cons (.call fturned (.cons (.v 5) (.cons (.v 6) .nil))) .nil))))) .nop))))) (.seq (.ret (.v 3)) .nop)))⟩
def mapply_product : Fn := ⟨3, 5, false, (.seq (.set (.tup (.cons (.n 3) (.cons (.n 4) .nil))) (.v 0)) (.seq (.ret (.call freduced (.cons (.v 3) (.cons (.call fmoved_terms (.cons (.v 4) (.cons (.v 1) (.cons (.v 2) .nil)))) .nil)))) .nop))⟩
def mapply_phase : Fn := ⟨3, 8, true, (.seq (.set (.tup (.cons (.n 3) (.cons (.n 4) .nil))) (.v 0)) (.seq (.set (.n 5) (.mk (.lc [6, 7] (.tup (.cons (.n 6) (.cons (.n 7) .nil))) (.it (.v 4)) .nil (.tup (.cons (.v 6) (.cons (.call fplus (.cons (.v 7) (.cons (.call fturned (.cons (.v 7) (.cons (.v 1) .nil))) .nil))) .nil)))))) (.seq (.loop false (.tup (.cons (.n 6) (.cons (.n 7) .nil))) (.it (.call fmoved_terms (.cons (.v 4) (.cons (.k (.int 1)) (.cons (.v 2) .nil))))) (.seq (.ex (.app (.v 5) (.tup (.cons (.v 6) (.cons (.call fminus (.cons (.v 7) (.cons (.call fturned (.cons (.v 7) (.cons (.v 1) .nil))) .nil))) .nil))))) .nop)) (.seq (.ret (.call freduced (.cons (.bin .add (.v 3) (.k (.int 2))) (.cons (.v 5) .nil)))) .nop))))⟩
def mproject : Fn := ⟨3, 5, false, (.seq (.set (.tup (.cons (.n 3) (.cons (.n 4) .nil))) (.v 0)) (.seq (.ret (.call freduced (.cons (.bin .add (.v 3) (.k (.int 2))) (.cons (.fz (.lcat (.fz (.n1 .list (.v 4))) (.call fmoved_terms (.cons (.v 4) (.cons (.v 1) (.cons (.v 2) .nil)))))) .nil)))) .nop))⟩
def mturn_between : Fn := ⟨2, 4, false, (.seq (.ite (.or (.cmp .ne (.ix (.v 0) (.k (.int 0))) (.ix (.v 1) (.k (.int 0)))) (.cmp .ne (.fz (.lc [2] (.n 2) (.it (.ix (.v 0) (.k (.int 1)))) .nil (.ix (.v 2) (.k (.int 0))))) (.fz (.lc [2] (.n 2) (.it (.ix (.v 1) (.k (.int 1)))) .nil (.ix (.v 2) (.k (.int 0))))))) (.seq (.ret (.k .non)) .nop) .nop) (.seq (.loop false (.n 3) (.rng1 (.k (.int 8))) (.seq (.ite (.cmp .eq (.call fturned (.cons (.ix (.ix (.ix (.v 0) (.k (.int 1))) (.k (.int 0))) (.k (.int 1))) (.cons (.v 3) .nil))) (.ix (.ix (.ix (.v 1) (.k (.int 1))) (.k (.int 0))) (.k (.int 1)))) (.seq (.ite (.cmp .eq (.fz (.lc [2] (.n 2) (.it (.ix (.v 0) (.k (.int 1)))) .nil (.call fturned (.cons (.ix (.v 2) (.k (.int 1))) (.cons (.v 3) .nil))))) (.fz (.lc [2] (.n 2) (.it (.ix (.v 1) (.k (.int 1)))) .nil (.ix (.v 2) (.k (.int 1)))))) (.seq (.ret (.v 3)) .nop) .nop) .nop) .nop) .nop)) (.seq (.ret (.k .non)) .nop)))⟩
def mcleared : Fn := ⟨2, 10, false, (.seq (.set (.tup (.cons (.n 2) (.cons (.n 3) .nil))) (.v 0)) (.seq (.set (.n 4) (.bin .shl (.k (.int 1)) (.v 1))) (.seq (.set (.n 5) (.call freduced (.cons (.v 2) (.cons (.fz (.lc [6] (.n 6) (.it (.v 3)) (.cons (.cmp .eq (.bin .band (.ix (.v 6) (.k (.int 0))) (.v 4)) (.k (.int 0))) .nil) (.v 6))) .nil)))) (.seq (.set (.n 7) (.call freduced (.cons (.v 2) (.cons (.fz (.lc [6] (.n 6) (.it (.v 3)) (.cons (.cmp .ne (.bin .band (.ix (.v 6) (.k (.int 0))) (.v 4)) (.k (.int 0))) .nil) (.tup (.cons (.bin .sub (.ix (.v 6) (.k (.int 0))) (.v 4)) (.cons (.ix (.v 6) (.k (.int 1))) .nil))))) .nil)))) (.seq (.ite (.nt (.tv (.ix (.v 5) (.k (.int 1))))) (.seq (.ret (.tup (.cons (.v 7) .nil))) .nop) .nop) (.seq (.ite (.nt (.tv (.ix (.v 7) (.k (.int 1))))) (.seq (.ret (.tup (.cons (.v 5) .nil))) .nop) .nop) (.seq (.ite (.cmp .notN (.call fturn_between (.cons (.v 5) (.cons (.v 7) .nil))) (.k .non)) (.seq (.ret (.tup (.cons (.call freduced (.cons (.ix (.v 5) (.k (.int 0))) (.cons (.fz (.lc [8, 9] (.tup (.cons (.n 8) (.cons (.n 9) .nil))) (.it (.ix (.v 5) (.k (.int 1)))) .nil (.tup (.cons (.v 8) (.cons (.call frooted (.cons (.v 9) .nil)) .nil))))) .nil))) .nil))) .nop) .nop) (.seq (.ret (.tup (.cons (.v 5) (.cons (.v 7) .nil)))) .nop))))))))⟩
def mmagic_made : Fn := ⟨2, 8, true, (.seq (.set (.tup (.cons (.n 2) (.cons (.n 3) .nil))) (.v 0)) (.seq (.set (.n 4) (.bin .shl (.k (.int 1)) (.v 1))) (.seq (.set (.n 5) (.mk (.n1 .list (.v 3)))) (.seq (.loop false (.tup (.cons (.n 6) (.cons (.n 7) .nil))) (.it (.v 3)) (.seq (.ex (.app (.v 5) (.tup (.cons (.bin .add (.v 6) (.v 4)) (.cons (.call fturned (.cons (.v 7) (.cons (.k (.int 1)) .nil))) .nil))))) .nop)) (.seq (.ret (.call freduced (.cons (.bin .add (.v 2) (.k (.int 1))) (.cons (.v 5) .nil)))) .nop)))))⟩
def mfirst_state : Fn := ⟨1, 2, false, (.seq (.ret (.tup (.cons (.call ffirst_vector .nil) (.cons (.u1 .tuple (.fz (.lc [1] (.n 1) (.rng1 (.ix (.v 0) (.k (.int 1)))) .nil (.k (.int 0))))) .nil)))) .nop)⟩
def mwith_bit : Fn := ⟨3, 3, false, (.seq (.ret (.bin .add (.bin .add (.sl (.v 0) .nopart (.cons (.v 1) .nil)) (.tup (.cons (.v 2) .nil))) (.sl (.v 0) (.cons (.bin .add (.v 1) (.k (.int 1))) .nil) .nopart))) .nop)⟩
def mmeasured_states : Fn := ⟨2, 11, true, (.seq (.set (.tup (.cons (.n 2) (.cons (.n 3) .nil))) (.v 0)) (.seq (.set (.tup (.cons (.n 4) (.cons (.n 5) (.cons (.n 6) (.cons (.n 7) .nil))))) (.v 1)) (.seq (.set (.n 8) (.mk (.lst .nil))) (.seq (.loop false (.n 9) (.it (.tup (.cons (.k (.int 0)) (.cons (.k (.int 1)) .nil)))) (.seq (.set (.n 10) (.call fproject (.cons (.v 2) (.cons (.ite (.cmp .eq (.v 9) (.k (.int 1))) (.neg (.v 5)) (.v 5)) (.cons (.v 6) .nil))))) (.seq (.ite (.tv (.ix (.v 10) (.k (.int 1)))) (.seq (.ex (.app (.v 8) (.tup (.cons (.v 10) (.cons (.call fwith_bit (.cons (.v 3) (.cons (.v 7) (.cons (.v 9) .nil)))) .nil))))) .nop) .nop) .nop))) (.seq (.ret (.u1 .tuple (.v 8))) .nop)))))⟩
def mcleared_states : Fn := ⟨2, 6, true, (.seq (.set (.tup (.cons (.n 2) (.cons (.n 3) .nil))) (.v 0)) (.seq (.set (.n 4) (.mk (.lst .nil))) (.seq (.loop false (.n 5) (.it (.call fcleared (.cons (.v 2) (.cons (.ix (.v 1) (.k (.int 1))) .nil)))) (.seq (.ite (.and (.cmp .eq (.ix (.v 1) (.k (.int 0))) (.k (.str "load"))) (.cmp .eq (.ix (.v 1) (.k (.int 2))) (.k (.str "magic")))) (.seq (.ex (.app (.v 4) (.tup (.cons (.call fmagic_made (.cons (.v 5) (.cons (.ix (.v 1) (.k (.int 1))) .nil))) (.cons (.v 3) .nil))))) .nop) (.seq (.ex (.app (.v 4) (.tup (.cons (.v 5) (.cons (.v 3) .nil))))) .nop)) .nop)) (.seq (.ret (.u1 .tuple (.v 4))) .nop))))⟩
def mstates_after : Fn := ⟨2, 6, false, (.seq (.set (.tup (.cons (.n 2) (.cons (.n 3) .nil))) (.v 0)) (.seq (.set (.tup (.cons (.n 4) (.cons (.n 5) .nil))) (.v 1)) (.seq (.ite (.cmp .eq (.call fvalue_of (.cons (.v 4) (.cons (.v 3) .nil))) (.k (.int 0))) (.seq (.ret (.tup (.cons (.v 0) .nil))) .nop) .nop) (.seq (.ite (.cmp .eq (.ix (.v 5) (.k (.int 0))) (.k (.str "phase"))) (.seq (.ret (.tup (.cons (.tup (.cons (.call fapply_phase (.cons (.v 2) (.cons (.ix (.v 5) (.k (.int 1))) (.cons (.ix (.v 5) (.k (.int 2))) .nil)))) (.cons (.v 3) .nil))) .nil))) .nop) .nop) (.seq (.ite (.cmp .eq (.ix (.v 5) (.k (.int 0))) (.k (.str "pauli"))) (.seq (.ret (.tup (.cons (.tup (.cons (.call fapply_product (.cons (.v 2) (.cons (.k (.int 1)) (.cons (.ix (.v 5) (.k (.int 1))) .nil)))) (.cons (.v 3) .nil))) .nil))) .nop) .nop) (.seq (.ite (.cmp .eq (.ix (.v 5) (.k (.int 0))) (.k (.str "assign"))) (.seq (.ret (.tup (.cons (.tup (.cons (.v 2) (.cons (.call fwith_bit (.cons (.v 3) (.cons (.ix (.v 5) (.k (.int 1))) (.cons (.call fvalue_of (.cons (.ix (.v 5) (.k (.int 2))) (.cons (.v 3) .nil))) .nil)))) .nil))) .nil))) .nop) .nop) (.seq (.ite (.cmp .eq (.ix (.v 5) (.k (.int 0))) (.k (.str "measure"))) (.seq (.ret (.call fmeasured_states (.cons (.v 0) (.cons (.v 5) .nil)))) .nop) .nop) (.seq (.ret (.call fcleared_states (.cons (.v 0) (.cons (.v 5) .nil)))) .nop))))))))⟩
abbrev m_law_tape : Fn := Z.m_law_tape
abbrev m_law_draw : Fn := Z.m_law_draw
abbrev m_law_pick : Fn := Z.m_law_pick f_law_draw
abbrev m_law_put : Fn := Z.m_law_put
abbrev m_law_same : Fn := Z.m_law_same f_law_same
def m_law_two : Fn := ⟨1, 3, false, (.seq (.set (.n 1) (.k (.int 1))) (.seq (.loop false (.n 2) (.rng1 (.v 0)) (.seq (.set (.n 1) (.bin .mul (.v 1) (.k (.int 2)))) .nop)) (.seq (.ret (.v 1)) .nop)))⟩
def m_law_amp_plus : Fn := ⟨2, 2, false, (.seq (.ret (.tup (.cons (.bin .add (.ix (.v 0) (.k (.int 0))) (.ix (.v 1) (.k (.int 0)))) (.cons (.bin .add (.ix (.v 0) (.k (.int 1))) (.ix (.v 1) (.k (.int 1)))) (.cons (.bin .add (.ix (.v 0) (.k (.int 2))) (.ix (.v 1) (.k (.int 2)))) (.cons (.bin .add (.ix (.v 0) (.k (.int 3))) (.ix (.v 1) (.k (.int 3)))) .nil)))))) .nop)⟩
def m_law_amp_turn : Fn := ⟨2, 7, false, (.seq (.set (.tup (.cons (.n 2) (.cons (.n 3) (.cons (.n 4) (.cons (.n 5) .nil))))) (.v 0)) (.seq (.ite (.cmp .gt (.bin .mod (.u1 .int (.v 1)) (.k (.int 8))) (.k (.int 3))) (.seq (.set (.tup (.cons (.n 2) (.cons (.n 3) (.cons (.n 4) (.cons (.n 5) .nil))))) (.tup (.cons (.bin .sub (.k (.int 0)) (.v 2)) (.cons (.bin .sub (.k (.int 0)) (.v 3)) (.cons (.bin .sub (.k (.int 0)) (.v 4)) (.cons (.bin .sub (.k (.int 0)) (.v 5)) .nil)))))) .nop) .nop) (.seq (.set (.n 6) (.bin .mod (.u1 .int (.v 1)) (.k (.int 4)))) (.seq (.ite (.cmp .eq (.v 6) (.k (.int 0))) (.seq (.ret (.tup (.cons (.v 2) (.cons (.v 3) (.cons (.v 4) (.cons (.v 5) .nil)))))) .nop) .nop) (.seq (.ite (.cmp .eq (.v 6) (.k (.int 1))) (.seq (.ret (.tup (.cons (.bin .sub (.k (.int 0)) (.v 5)) (.cons (.v 2) (.cons (.v 3) (.cons (.v 4) .nil)))))) .nop) .nop) (.seq (.ite (.cmp .eq (.v 6) (.k (.int 2))) (.seq (.ret (.tup (.cons (.bin .sub (.k (.int 0)) (.v 4)) (.cons (.bin .sub (.k (.int 0)) (.v 5)) (.cons (.v 2) (.cons (.v 3) .nil)))))) .nop) .nop) (.seq (.ret (.tup (.cons (.bin .sub (.k (.int 0)) (.v 3)) (.cons (.bin .sub (.k (.int 0)) (.v 4)) (.cons (.bin .sub (.k (.int 0)) (.v 5)) (.cons (.v 2) .nil)))))) .nop)))))))⟩
def m_law_amp_root : Fn := ⟨1, 1, false, (.seq (.ret (.call f_law_amp_plus (.cons (.call f_law_amp_turn (.cons (.v 0) (.cons (.k (.int 1)) .nil))) (.cons (.call f_law_amp_turn (.cons (.v 0) (.cons (.k (.int 7)) .nil))) .nil)))) .nop)⟩
def m_law_vec_told : Fn := ⟨1, 7, false, (.seq (.set (.tup (.cons (.n 1) (.cons (.n 2) .nil))) (.v 0)) (.seq (.loop false (.n 3) (.rng1 (.ix (.v 0) (.k (.int 0)))) (.seq (.set (.n 4) (.fz (.lc [5] (.n 5) (.it (.v 2)) .nil (.call f_law_amp_root (.cons (.v 5) .nil))))) (.seq (.ite (.cmp .ne (.fz (.lc [5] (.n 5) (.it (.v 4)) (.cons (.cmp .gt (.bin .add (.bin .add (.bin .add (.bin .mod (.u1 .int (.ix (.v 5) (.k (.int 0)))) (.k (.int 2))) (.bin .mod (.u1 .int (.ix (.v 5) (.k (.int 1)))) (.k (.int 2)))) (.bin .mod (.u1 .int (.ix (.v 5) (.k (.int 2)))) (.k (.int 2)))) (.bin .mod (.u1 .int (.ix (.v 5) (.k (.int 3)))) (.k (.int 2)))) (.k (.int 0))) .nil) (.v 5))) (.fz (.lst .nil))) (.seq .brk .nop) .nop) (.seq (.set (.n 2) (.fz (.lc [5] (.n 5) (.it (.v 4)) .nil (.tup (.cons (.bin .fdiv (.ix (.v 5) (.k (.int 0))) (.k (.int 2))) (.cons (.bin .fdiv (.ix (.v 5) (.k (.int 1))) (.k (.int 2))) (.cons (.bin .fdiv (.ix (.v 5) (.k (.int 2))) (.k (.int 2))) (.cons (.bin .fdiv (.ix (.v 5) (.k (.int 3))) (.k (.int 2))) .nil)))))))) (.seq (.set (.n 1) (.bin .sub (.v 1) (.k (.int 1)))) .nop))))) (.seq (.ret (.tup (.cons (.v 1) (.cons (.u1 .tuple (.fz (.lc [6] (.n 6) (.rng1 (.u1 .len (.v 2))) (.cons (.cmp .ne (.ix (.v 2) (.v 6)) (.tup (.cons (.k (.int 0)) (.cons (.k (.int 0)) (.cons (.k (.int 0)) (.cons (.k (.int 0)) .nil)))))) .nil) (.tup (.cons (.v 6) (.cons (.ix (.v 2) (.v 6)) .nil)))))) .nil)))) .nop)))⟩
def m_law_vec_act : Fn := ⟨2, 10, true, (.seq (.set (.n 2) (.fz (.lst (.cons (.k (.int 1)) (.cons (.k (.int 2)) (.cons (.k (.int 4)) (.cons (.k (.int 8)) (.cons (.k (.int 16)) (.cons (.k (.int 32)) .nil))))))))) (.seq (.set (.n 3) (.mk (.lst .nil))) (.seq (.loop false (.n 4) (.rng1 (.u1 .len (.v 0))) (.seq (.set (.n 5) (.v 4)) (.seq (.set (.n 6) (.k (.int 0))) (.seq (.loop false (.tup (.cons (.n 7) (.cons (.n 8) .nil))) (.it (.v 1)) (.seq (.set (.n 9) (.bin .mod (.u1 .int (.bin .fdiv (.v 4) (.ix (.v 2) (.v 7)))) (.k (.int 2)))) (.seq (.ite (.cmp .eq (.v 8) (.k (.str "Z"))) (.seq (.set (.n 6) (.bin .add (.v 6) (.bin .mul (.k (.int 4)) (.v 9)))) .nop) (.seq (.set (.n 5) (.bin .add (.v 5) (.bin .mul (.ix (.v 2) (.v 7)) (.bin .sub (.k (.int 1)) (.bin .mul (.k (.int 2)) (.v 9)))))) .nop)) (.seq (.ite (.cmp .eq (.v 8) (.k (.str "Y"))) (.seq (.set (.n 6) (.bin .sub (.bin .add (.v 6) (.k (.int 6))) (.bin .mul (.k (.int 4)) (.v 9)))) .nop) .nop) .nop)))) (.seq (.ex (.app (.v 3) (.call f_law_amp_turn (.cons (.ix (.v 0) (.v 5)) (.cons (.v 6) .nil))))) .nop))))) (.seq (.ret (.v 3)) .nop))))⟩
def m_law_vec_apply : Fn := ⟨3, 4, false, (.seq (.ret (.tup (.cons (.ix (.v 0) (.k (.int 0))) (.cons (.fz (.lc [3] (.n 3) (.it (.call f_law_vec_act (.cons (.ix (.v 0) (.k (.int 1))) (.cons (.v 2) .nil)))) .nil (.call f_law_amp_turn (.cons (.v 3) (.cons (.bin .sub (.k (.int 2)) (.bin .mul (.k (.int 2)) (.v 1))) .nil))))) .nil)))) .nop)⟩
def m_law_vec_phase : Fn := ⟨3, 7, true, (.seq (.set (.n 3) (.call f_law_vec_act (.cons (.ix (.v 0) (.k (.int 1))) (.cons (.v 2) .nil)))) (.seq (.set (.n 4) (.mk (.lst .nil))) (.seq (.loop false (.n 5) (.rng1 (.u1 .len (.v 3))) (.seq (.set (.n 6) (.call f_law_amp_plus (.cons (.ix (.ix (.v 0) (.k (.int 1))) (.v 5)) (.cons (.call f_law_amp_turn (.cons (.ix (.ix (.v 0) (.k (.int 1))) (.v 5)) (.cons (.v 1) .nil))) .nil)))) (.seq (.ex (.app (.v 4) (.call f_law_amp_plus (.cons (.v 6) (.cons (.call f_law_amp_plus (.cons (.ix (.v 3) (.v 5)) (.cons (.call f_law_amp_turn (.cons (.ix (.v 3) (.v 5)) (.cons (.bin .add (.v 1) (.k (.int 4))) .nil))) .nil))) .nil))))) .nop))) (.seq (.ret (.tup (.cons (.bin .add (.ix (.v 0) (.k (.int 0))) (.k (.int 2))) (.cons (.v 4) .nil)))) .nop))))⟩
def m_law_vec_part : Fn := ⟨3, 5, false, (.seq (.set (.n 3) (.call f_law_vec_act (.cons (.ix (.v 0) (.k (.int 1))) (.cons (.v 2) .nil)))) (.seq (.ret (.tup (.cons (.bin .add (.ix (.v 0) (.k (.int 0))) (.k (.int 2))) (.cons (.fz (.lc [4] (.n 4) (.rng1 (.u1 .len (.v 3))) .nil (.call f_law_amp_plus (.cons (.ix (.ix (.v 0) (.k (.int 1))) (.v 4)) (.cons (.call f_law_amp_turn (.cons (.ix (.v 3) (.v 4)) (.cons (.bin .sub (.k (.int 2)) (.bin .mul (.k (.int 2)) (.v 1))) .nil))) .nil))))) .nil)))) .nop))⟩
def m_law_vec_none : Fn := ⟨1, 2, false, (.seq (.ret (.cmp .eq (.fz (.lc [1] (.n 1) (.it (.v 0)) (.cons (.cmp .ne (.v 1) (.tup (.cons (.k (.int 0)) (.cons (.k (.int 0)) (.cons (.k (.int 0)) (.cons (.k (.int 0)) .nil)))))) .nil) (.v 1))) (.fz (.lst .nil)))) .nop)⟩
def m_law_vec_clear : Fn := ⟨2, 9, true, (.seq (.set (.n 2) (.call f_law_two (.cons (.v 1) .nil))) (.seq (.set (.n 3) (.ix (.v 0) (.k (.int 1)))) (.seq (.set (.n 4) (.mk (.lrep (.fz (.lst (.cons (.tup (.cons (.k (.int 0)) (.cons (.k (.int 0)) (.cons (.k (.int 0)) (.cons (.k (.int 0)) .nil))))) .nil))) (.u1 .len (.v 3))))) (.seq (.set (.n 5) (.mk (.lrep (.fz (.lst (.cons (.tup (.cons (.k (.int 0)) (.cons (.k (.int 0)) (.cons (.k (.int 0)) (.cons (.k (.int 0)) .nil))))) .nil))) (.u1 .len (.v 3))))) (.seq (.loop false (.n 6) (.rng1 (.u1 .len (.v 3))) (.seq (.ite (.cmp .eq (.bin .mod (.u1 .int (.bin .fdiv (.v 6) (.v 2))) (.k (.int 2))) (.k (.int 0))) (.seq (.setix (.v 4) (.v 6) (.ix (.v 3) (.v 6))) (.seq (.setix (.v 5) (.v 6) (.ix (.v 3) (.bin .add (.v 6) (.v 2)))) .nop)) .nop) .nop)) (.seq (.ite (.tv (.call f_law_vec_none (.cons (.v 4) .nil))) (.seq (.ret (.fz (.lst (.cons (.tup (.cons (.ix (.v 0) (.k (.int 0))) (.cons (.v 5) .nil))) .nil)))) .nop) .nop) (.seq (.ite (.tv (.call f_law_vec_none (.cons (.v 5) .nil))) (.seq (.ret (.fz (.lst (.cons (.tup (.cons (.ix (.v 0) (.k (.int 0))) (.cons (.v 4) .nil))) .nil)))) .nop) .nop) (.seq (.loop false (.n 7) (.rng1 (.k (.int 8))) (.seq (.ite (.cmp .eq (.fz (.lc [8] (.n 8) (.it (.v 4)) .nil (.call f_law_amp_turn (.cons (.v 8) (.cons (.v 7) .nil))))) (.v 5)) (.seq (.ret (.fz (.lst (.cons (.tup (.cons (.ix (.v 0) (.k (.int 0))) (.cons (.fz (.lc [8] (.n 8) (.it (.v 4)) .nil (.call f_law_amp_root (.cons (.v 8) .nil)))) .nil))) .nil)))) .nop) .nop) .nop)) (.seq (.ret (.fz (.lst (.cons (.tup (.cons (.ix (.v 0) (.k (.int 0))) (.cons (.v 4) .nil))) (.cons (.tup (.cons (.ix (.v 0) (.k (.int 0))) (.cons (.v 5) .nil))) .nil))))) .nop)))))))))⟩
def m_law_vec_magic : Fn := ⟨2, 4, false, (.seq (.set (.n 2) (.call f_law_vec_act (.cons (.ix (.v 0) (.k (.int 1))) (.cons (.tup (.cons (.tup (.cons (.v 1) (.cons (.k (.str "X")) .nil))) .nil)) .nil)))) (.seq (.ret (.tup (.cons (.bin .add (.ix (.v 0) (.k (.int 0))) (.k (.int 1))) (.cons (.fz (.lc [3] (.n 3) (.rng1 (.u1 .len (.v 2))) .nil (.call f_law_amp_plus (.cons (.ix (.ix (.v 0) (.k (.int 1))) (.v 3)) (.cons (.call f_law_amp_turn (.cons (.ix (.v 2) (.v 3)) (.cons (.k (.int 1)) .nil))) .nil))))) .nil)))) .nop))⟩
def m_law_vec_value : Fn := ⟨2, 4, false, (.seq (.ite (.cmp .eq (.ix (.v 0) (.k (.int 0))) (.k (.str "cell"))) (.seq (.ret (.ix (.v 1) (.ix (.v 0) (.k (.int 1))))) .nop) .nop) (.seq (.ite (.cmp .eq (.ix (.v 0) (.k (.int 0))) (.k (.str "not"))) (.seq (.ret (.bin .sub (.k (.int 1)) (.call f_law_vec_value (.cons (.ix (.v 0) (.k (.int 1))) (.cons (.v 1) .nil))))) .nop) .nop) (.seq (.set (.n 2) (.fz (.lc [3] (.n 3) (.it (.ix (.v 0) (.k (.int 1)))) .nil (.call f_law_vec_value (.cons (.v 3) (.cons (.v 1) .nil)))))) (.seq (.ite (.cmp .eq (.ix (.v 0) (.k (.int 0))) (.k (.str "and"))) (.seq (.ret (.ite (.cmp .isin (.k (.int 0)) (.v 2)) (.k (.int 0)) (.k (.int 1)))) .nop) .nop) (.seq (.ite (.cmp .eq (.ix (.v 0) (.k (.int 0))) (.k (.str "or"))) (.seq (.ret (.ite (.cmp .isin (.k (.int 1)) (.v 2)) (.k (.int 1)) (.k (.int 0)))) .nop) .nop) (.seq (.ret (.bin .mod (.u1 .int (.u1 .sum (.v 2))) (.k (.int 2)))) .nop))))))⟩
def m_law_vec_lead : Fn := ⟨2, 9, false, (.seq (.set (.tup (.cons (.n 2) (.cons (.n 3) .nil))) (.v 0)) (.seq (.set (.tup (.cons (.n 4) (.cons (.n 5) .nil))) (.v 1)) (.seq (.ite (.cmp .eq (.call f_law_vec_value (.cons (.v 4) (.cons (.v 3) .nil))) (.k (.int 0))) (.seq (.ret (.fz (.lst (.cons (.v 0) .nil)))) .nop) .nop) (.seq (.ite (.cmp .eq (.ix (.v 5) (.k (.int 0))) (.k (.str "phase"))) (.seq (.ret (.fz (.lst (.cons (.tup (.cons (.call f_law_vec_phase (.cons (.v 2) (.cons (.ix (.v 5) (.k (.int 1))) (.cons (.ix (.v 5) (.k (.int 2))) .nil)))) (.cons (.v 3) .nil))) .nil)))) .nop) .nop) (.seq (.ite (.cmp .eq (.ix (.v 5) (.k (.int 0))) (.k (.str "pauli"))) (.seq (.ret (.fz (.lst (.cons (.tup (.cons (.call f_law_vec_apply (.cons (.v 2) (.cons (.k (.int 1)) (.cons (.ix (.v 5) (.k (.int 1))) .nil)))) (.cons (.v 3) .nil))) .nil)))) .nop) .nop) (.seq (.ite (.cmp .eq (.ix (.v 5) (.k (.int 0))) (.k (.str "assign"))) (.seq (.ret (.fz (.lst (.cons (.tup (.cons (.v 2) (.cons (.call f_law_put (.cons (.v 3) (.cons (.ix (.v 5) (.k (.int 1))) (.cons (.call f_law_vec_value (.cons (.ix (.v 5) (.k (.int 2))) (.cons (.v 3) .nil))) .nil)))) .nil))) .nil)))) .nop) .nop) (.seq (.ite (.cmp .eq (.ix (.v 5) (.k (.int 0))) (.k (.str "measure"))) (.seq (.set (.n 6) (.fz (.lst (.cons (.call f_law_vec_part (.cons (.v 2) (.cons (.ix (.v 5) (.k (.int 1))) (.cons (.ix (.v 5) (.k (.int 2))) .nil)))) (.cons (.call f_law_vec_part (.cons (.v 2) (.cons (.bin .sub (.k (.int 0)) (.ix (.v 5) (.k (.int 1)))) (.cons (.ix (.v 5) (.k (.int 2))) .nil)))) .nil))))) (.seq (.ret (.fz (.lc [7] (.n 7) (.rng1 (.k (.int 2))) (.cons (.nt (.tv (.call f_law_vec_none (.cons (.ix (.ix (.v 6) (.v 7)) (.k (.int 1))) .nil)))) .nil) (.tup (.cons (.ix (.v 6) (.v 7)) (.cons (.call f_law_put (.cons (.v 3) (.cons (.ix (.v 5) (.k (.int 3))) (.cons (.v 7) .nil)))) .nil)))))) .nop)) .nop) (.seq (.set (.n 6) (.call f_law_vec_clear (.cons (.v 2) (.cons (.ix (.v 5) (.k (.int 1))) .nil)))) (.seq (.ite (.and (.cmp .eq (.ix (.v 5) (.k (.int 0))) (.k (.str "load"))) (.cmp .eq (.ix (.v 5) (.k (.int 2))) (.k (.str "magic")))) (.seq (.set (.n 6) (.fz (.lc [8] (.n 8) (.it (.v 6)) .nil (.call f_law_vec_magic (.cons (.v 8) (.cons (.ix (.v 5) (.k (.int 1))) .nil)))))) .nop) .nop) (.seq (.ret (.fz (.lc [8] (.n 8) (.it (.v 6)) .nil (.tup (.cons (.v 8) (.cons (.v 3) .nil)))))) .nop))))))))))⟩
def m_law_flat_product : Fn := ⟨3, 6, true, (.seq (.set (.n 3) (.mk (.lst .nil))) (.seq (.loop false (.n 4) (.rng1 (.v 1)) (.seq (.set (.n 5) (.call f_law_draw (.cons (.v 0) (.cons (.k (.int 5)) .nil)))) (.seq (.ite (.cmp .gt (.v 5) (.k (.int 1))) (.seq (.ex (.app (.v 3) (.tup (.cons (.v 4) (.cons (.ix (.k (.str "XYZ")) (.bin .sub (.v 5) (.k (.int 2)))) .nil))))) .nop) .nop) .nop))) (.seq (.ite (.cmp .lt (.u1 .len (.v 3)) (.v 2)) (.seq (.set (.n 3) (.mk (.lst (.cons (.tup (.cons (.call f_law_draw (.cons (.v 0) (.cons (.v 1) .nil))) (.cons (.call f_law_pick (.cons (.v 0) (.cons (.k (.str "XYZ")) .nil))) .nil))) .nil)))) .nop) .nop) (.seq (.ret (.u1 .tuple (.v 3))) .nop))))⟩
def m_law_flat_expression : Fn := ⟨3, 6, true, (.seq (.set (.n 3) (.call f_law_draw (.cons (.v 0) (.cons (.k (.int 9)) .nil)))) (.seq (.ite (.or (.cmp .eq (.v 3) (.k (.int 8))) (.and (.cmp .eq (.v 1) (.k (.int 0))) (.cmp .eq (.v 2) (.k (.int 0))))) (.seq (.ret (.call f_law_pick (.cons (.v 0) (.cons (.fz (.lst (.cons (.tup (.cons (.k (.str "and")) (.cons (.tup .nil) .nil))) (.cons (.tup (.cons (.k (.str "or")) (.cons (.tup .nil) .nil))) .nil)))) .nil)))) .nop) .nop) (.seq (.ite (.or (.cmp .eq (.v 2) (.k (.int 0))) (.cmp .lt (.v 3) (.k (.int 3)))) (.seq (.ret (.ite (.cmp .gt (.v 1) (.k (.int 0))) (.tup (.cons (.k (.str "cell")) (.cons (.call f_law_draw (.cons (.v 0) (.cons (.v 1) .nil))) .nil))) (.tup (.cons (.k (.str "and")) (.cons (.tup .nil) .nil))))) .nop) .nop) (.seq (.ite (.cmp .eq (.v 3) (.k (.int 3))) (.seq (.ret (.tup (.cons (.k (.str "not")) (.cons (.call f_law_flat_expression (.cons (.v 0) (.cons (.v 1) (.cons (.bin .sub (.v 2) (.k (.int 1))) .nil)))) .nil)))) .nop) .nop) (.seq (.set (.n 4) (.mk (.lst .nil))) (.seq (.loop false (.n 5) (.rng1 (.ix (.fz (.lst (.cons (.k (.int 2)) (.cons (.k (.int 2)) (.cons (.k (.int 3)) .nil))))) (.call f_law_draw (.cons (.v 0) (.cons (.k (.int 3)) .nil))))) (.seq (.ex (.app (.v 4) (.call f_law_flat_expression (.cons (.v 0) (.cons (.v 1) (.cons (.bin .sub (.v 2) (.k (.int 1))) .nil)))))) .nop)) (.seq (.ret (.tup (.cons (.ix (.fz (.lst (.cons (.k (.str "and")) (.cons (.k (.str "or")) (.cons (.k (.str "xor")) (.cons (.k (.str "and")) .nil)))))) (.bin .sub (.v 3) (.k (.int 4)))) (.cons (.u1 .tuple (.v 4)) .nil)))) .nop)))))))⟩
def m_law_flat_guard : Fn := ⟨2, 5, false, (.seq (.set (.n 2) (.call f_law_draw (.cons (.v 0) (.cons (.k (.int 10)) .nil)))) (.seq (.ite (.or (.cmp .lt (.v 2) (.k (.int 5))) (.cmp .eq (.v 1) (.k (.int 0)))) (.seq (.ret (.tup (.cons (.k (.str "and")) (.cons (.tup .nil) .nil)))) .nop) .nop) (.seq (.set (.n 3) (.tup (.cons (.k (.str "cell")) (.cons (.call f_law_draw (.cons (.v 0) (.cons (.v 1) .nil))) .nil)))) (.seq (.ite (.cmp .lt (.v 2) (.k (.int 7))) (.seq (.ret (.v 3)) .nop) .nop) (.seq (.ite (.cmp .eq (.v 2) (.k (.int 7))) (.seq (.ret (.tup (.cons (.k (.str "not")) (.cons (.v 3) .nil)))) .nop) .nop) (.seq (.set (.n 4) (.tup (.cons (.k (.str "cell")) (.cons (.call f_law_draw (.cons (.v 0) (.cons (.v 1) .nil))) .nil)))) (.seq (.ret (.tup (.cons (.call f_law_pick (.cons (.v 0) (.cons (.fz (.lst (.cons (.k (.str "and")) (.cons (.k (.str "or")) (.cons (.k (.str "xor")) .nil))))) .nil))) (.cons (.tup (.cons (.v 3) (.cons (.ite (.cmp .eq (.v 2) (.k (.int 9))) (.tup (.cons (.k (.str "not")) (.cons (.v 4) .nil))) (.v 4)) .nil))) .nil)))) .nop)))))))⟩
def m_law_flat_deed : Fn := ⟨4, 4, false, (.seq (.ite (.cmp .eq (.v 1) (.k (.str "phase"))) (.seq (.ret (.tup (.cons (.k (.str "phase")) (.cons (.bin .add (.k (.int 1)) (.call f_law_draw (.cons (.v 0) (.cons (.k (.int 7)) .nil)))) (.cons (.call f_law_flat_product (.cons (.v 0) (.cons (.v 2) (.cons (.k (.int 1)) .nil)))) .nil))))) .nop) .nop) (.seq (.ite (.cmp .eq (.v 1) (.k (.str "reset"))) (.seq (.ret (.tup (.cons (.k (.str "reset")) (.cons (.call f_law_draw (.cons (.v 0) (.cons (.v 2) .nil))) .nil)))) .nop) .nop) (.seq (.ite (.cmp .eq (.v 1) (.k (.str "measure"))) (.seq (.ret (.tup (.cons (.k (.str "measure")) (.cons (.call f_law_pick (.cons (.v 0) (.cons (.fz (.lst (.cons (.k (.int 1)) (.cons (.k (.int 1)) (.cons (.neg (.k (.int 1))) .nil))))) .nil))) (.cons (.call f_law_flat_product (.cons (.v 0) (.cons (.v 2) (.cons (.k (.int 1)) .nil)))) (.cons (.call f_law_draw (.cons (.v 0) (.cons (.v 3) .nil))) .nil)))))) .nop) .nop) (.seq (.ite (.cmp .eq (.v 1) (.k (.str "assign"))) (.seq (.ret (.tup (.cons (.k (.str "assign")) (.cons (.call f_law_draw (.cons (.v 0) (.cons (.v 3) .nil))) (.cons (.call f_law_flat_expression (.cons (.v 0) (.cons (.v 3) (.cons (.k (.int 2)) .nil)))) .nil))))) .nop) .nop) (.seq (.ite (.cmp .eq (.v 1) (.k (.str "pauli"))) (.seq (.ret (.tup (.cons (.k (.str "pauli")) (.cons (.call f_law_flat_product (.cons (.v 0) (.cons (.v 2) (.cons (.k (.int 1)) .nil)))) .nil)))) .nop) .nop) (.seq (.ret (.tup (.cons (.k (.str "load")) (.cons (.bin .sub (.v 2) (.k (.int 1))) (.cons (.call f_law_pick (.cons (.v 0) (.cons (.fz (.lst (.cons (.k (.str "zero")) (.cons (.k (.str "magic")) .nil)))) .nil))) .nil))))) .nop))))))⟩
def m_law_a_amp : Fn := ⟨2, 5, true, (.seq (.set (.n 2) (.mk (.lst (.cons (.k (.int 0)) (.cons (.k (.int 0)) (.cons (.k (.int 0)) (.cons (.k (.int 0)) .nil))))))) (.seq (.loop false (.n 3) (.rng1 (.k (.int 4))) (.seq (.setix (.v 2) (.v 3) (.bin .sub (.call f_law_draw (.cons (.v 0) (.cons (.bin .add (.bin .mul (.k (.int 2)) (.v 1)) (.k (.int 1))) .nil))) (.v 1))) .nop)) (.seq (.ite (.cmp .eq (.call f_law_draw (.cons (.v 0) (.cons (.k (.int 4)) .nil))) (.k (.int 0))) (.seq (.set (.n 3) (.call f_law_draw (.cons (.v 0) (.cons (.k (.int 4)) .nil)))) (.seq (.set (.n 2) (.mk (.lc [4] (.n 4) (.rng1 (.k (.int 4))) .nil (.ite (.cmp .eq (.v 4) (.v 3)) (.ix (.v 2) (.v 3)) (.k (.int 0)))))) .nop)) .nop) (.seq (.ret (.u1 .tuple (.v 2))) .nop))))⟩
def m_law_a_basis : Fn := ⟨2, 3, false, (.seq (.set (.n 2) (.mk (.lrep (.fz (.lst (.cons (.tup (.cons (.k (.int 0)) (.cons (.k (.int 0)) (.cons (.k (.int 0)) (.cons (.k (.int 0)) .nil))))) .nil))) (.call f_law_two (.cons (.v 1) .nil))))) (.seq (.setix (.v 2) (.call f_law_draw (.cons (.v 0) (.cons (.u1 .len (.v 2)) .nil))) (.tup (.cons (.k (.int 1)) (.cons (.k (.int 0)) (.cons (.k (.int 0)) (.cons (.k (.int 0)) .nil)))))) (.seq (.ret (.tup (.cons (.k (.int 0)) (.cons (.v 2) .nil)))) .nop)))⟩
def m_law_a_vec : Fn := ⟨2, 7, true, (.seq (.set (.n 2) (.call f_law_a_basis (.cons (.v 0) (.cons (.v 1) .nil)))) (.seq (.ite (.and (.cmp .gt (.v 1) (.k (.int 0))) (.cmp .eq (.call f_law_draw (.cons (.v 0) (.cons (.k (.int 2)) .nil))) (.k (.int 0)))) (.seq (.loop false (.n 3) (.rng1 (.bin .add (.k (.int 1)) (.call f_law_draw (.cons (.v 0) (.cons (.k (.int 3)) .nil))))) (.seq (.set (.n 2) (.call f_law_vec_phase (.cons (.v 2) (.cons (.bin .add (.k (.int 1)) (.call f_law_draw (.cons (.v 0) (.cons (.k (.int 7)) .nil)))) (.cons (.call f_law_flat_product (.cons (.v 0) (.cons (.v 1) (.cons (.k (.int 1)) .nil)))) .nil))))) .nop)) (.seq (.ret (.v 2)) .nop)) .nop) (.seq (.set (.n 4) (.call f_law_pick (.cons (.v 0) (.cons (.fz (.lst (.cons (.k (.int 1)) (.cons (.k (.int 1)) (.cons (.k (.int 2)) (.cons (.k (.int 9)) (.cons (.k (.int 99)) .nil))))))) .nil)))) (.seq (.set (.n 5) (.ix (.v 2) (.k (.int 1)))) (.seq (.loop false (.n 3) (.rng1 (.call f_law_draw (.cons (.v 0) (.cons (.u2 .min (.u1 .len (.v 5)) (.k (.int 16))) .nil)))) (.seq (.setix (.v 5) (.call f_law_draw (.cons (.v 0) (.cons (.u1 .len (.v 5)) .nil))) (.call f_law_a_amp (.cons (.v 0) (.cons (.v 4) .nil)))) .nop)) (.seq (.ite (.tv (.call f_law_vec_none (.cons (.v 5) .nil))) (.seq (.setix (.v 5) (.k (.int 0)) (.tup (.cons (.k (.int 0)) (.cons (.k (.int 1)) (.cons (.k (.int 0)) (.cons (.neg (.k (.int 1))) .nil)))))) .nop) .nop) (.seq (.ite (.cmp .lt (.v 4) (.k (.int 10))) (.seq (.loop true (.n 3) (.rng1 (.call f_law_pick (.cons (.v 0) (.cons (.fz (.lst (.cons (.k (.int 0)) (.cons (.k (.int 0)) (.cons (.k (.int 1)) (.cons (.k (.int 2)) (.cons (.k (.int 3)) .nil))))))) .nil)))) (.seq (.set (.n 5) (.mk (.lc [6] (.n 6) (.it (.v 5)) .nil (.call f_law_amp_root (.cons (.v 6) .nil))))) .nop)) .nop) .nop) (.seq (.ret (.tup (.cons (.call f_law_draw (.cons (.v 0) (.cons (.k (.int 21)) .nil))) (.cons (.v 5) .nil)))) .nop))))))))⟩
def m_law_lead_given : Fn := ⟨1, 11, true, (.seq (.set (.n 1) (.call f_law_pick (.cons (.v 0) (.cons (.fz (.lst (.cons (.k (.int 1)) (.cons (.k (.int 1)) (.cons (.k (.int 2)) (.cons (.k (.int 2)) (.cons (.k (.int 2)) (.cons (.k (.int 3)) (.cons (.k (.int 3)) (.cons (.k (.int 4)) (.cons (.k (.int 5)) .nil))))))))))) .nil)))) (.seq (.set (.n 2) (.bin .add (.k (.int 1)) (.call f_law_draw (.cons (.v 0) (.cons (.k (.int 6)) .nil))))) (.seq (.set (.n 3) (.ite (.cmp .eq (.call f_law_draw (.cons (.v 0) (.cons (.k (.int 3)) .nil))) (.k (.int 0))) (.call f_law_a_basis (.cons (.v 0) (.cons (.v 1) .nil))) (.call f_law_a_vec (.cons (.v 0) (.cons (.v 1) .nil))))) (.seq (.set (.n 4) (.u1 .tuple (.fz (.lc [5] (.n 5) (.rng1 (.v 2)) .nil (.call f_law_draw (.cons (.v 0) (.cons (.k (.int 2)) .nil))))))) (.seq (.set (.n 6) (.mk (.lst .nil))) (.seq (.loop false (.n 7) (.rng1 (.k (.int 3))) (.seq (.set (.n 8) (.call f_law_pick (.cons (.v 0) (.cons (.fz (.lst (.cons (.k (.str "phase")) (.cons (.k (.str "reset")) (.cons (.k (.str "measure")) (.cons (.k (.str "measure")) (.cons (.k (.str "assign")) (.cons (.k (.str "pauli")) (.cons (.k (.str "load")) .nil))))))))) .nil)))) (.seq (.set (.n 9) (.call f_law_flat_guard (.cons (.v 0) (.cons (.v 2) .nil)))) (.seq (.set (.n 10) (.call f_law_flat_deed (.cons (.v 0) (.cons (.v 8) (.cons (.v 1) (.cons (.v 2) .nil)))))) (.seq (.ite (.cmp .eq (.v 8) (.k (.str "load"))) (.seq (.set (.n 10) (.tup (.cons (.k (.str "load")) (.cons (.call f_law_draw (.cons (.v 0) (.cons (.v 1) .nil))) (.cons (.ix (.v 10) (.k (.int 2))) .nil))))) .nop) .nop) (.seq (.ex (.app (.v 6) (.tup (.cons (.v 9) (.cons (.v 10) .nil))))) .nop)))))) (.seq (.ret (.tup (.cons (.v 1) (.cons (.v 3) (.cons (.v 4) (.cons (.v 6) (.cons (.fz (.lc [7] (.n 7) (.rng1 (.k (.int 3))) .nil (.call f_law_draw (.cons (.v 0) (.cons (.k (.int 6)) .nil))))) .nil))))))) .nop)))))))⟩
def m_law_lead_changed : Fn := ⟨2, 12, false, (.seq (.set (.tup (.cons (.n 2) (.cons (.n 3) (.cons (.n 4) (.cons (.n 5) (.cons (.n 6) .nil)))))) (.v 1)) (.seq (.set (.n 7) (.call f_law_draw (.cons (.v 0) (.cons (.k (.int 4)) .nil)))) (.seq (.ite (.cmp .eq (.v 7) (.k (.int 0))) (.seq (.set (.n 8) (.call f_law_draw (.cons (.v 0) (.cons (.u1 .len (.v 4)) .nil)))) (.seq (.ret (.tup (.cons (.v 2) (.cons (.v 3) (.cons (.call f_law_put (.cons (.v 4) (.cons (.v 8) (.cons (.bin .sub (.k (.int 1)) (.ix (.v 4) (.v 8))) .nil)))) (.cons (.v 5) (.cons (.v 6) .nil))))))) .nop)) .nop) (.seq (.ite (.cmp .eq (.v 7) (.k (.int 1))) (.seq (.ret (.tup (.cons (.v 2) (.cons (.call f_law_a_vec (.cons (.v 0) (.cons (.v 2) .nil))) (.cons (.v 4) (.cons (.v 5) (.cons (.v 6) .nil))))))) .nop) .nop) (.seq (.set (.tup (.cons (.n 9) (.cons (.n 10) .nil))) (.ix (.v 5) (.k (.int 0)))) (.seq (.ite (.cmp .eq (.v 7) (.k (.int 2))) (.seq (.set (.n 9) (.tup (.cons (.k (.str "not")) (.cons (.v 9) .nil)))) .nop) (.seq (.set (.n 10) (.call f_law_flat_deed (.cons (.v 0) (.cons (.ix (.v 10) (.k (.int 0))) (.cons (.v 2) (.cons (.u1 .len (.v 4)) .nil)))))) .nop)) (.seq (.ret (.tup (.cons (.v 2) (.cons (.v 3) (.cons (.v 4) (.cons (.fz (.lcat (.fz (.lst (.cons (.tup (.cons (.v 9) (.cons (.v 10) .nil))) .nil))) (.fz (.lsl (.v 5) (.cons (.k (.int 1)) .nil) .nopart)))) (.cons (.fz (.lc [11] (.n 11) (.it (.v 6)) .nil (.bin .add (.v 11) (.k (.int 1))))) .nil))))))) .nop)))))))⟩
def m_law_lead_told : Fn := ⟨1, 3, false, (.seq (.ret (.u1 .tuple (.fz (.lc [1, 2] (.tup (.cons (.n 1) (.cons (.n 2) .nil))) (.it (.v 0)) .nil (.tup (.cons (.call f_law_vec_told (.cons (.v 1) .nil)) (.cons (.v 2) .nil))))))) .nop)⟩
def m_law_lead_right : Fn := ⟨1, 9, false, (.seq (.set (.tup (.cons (.n 1) (.cons (.n 2) (.cons (.n 3) (.cons (.n 4) (.cons (.n 5) .nil)))))) (.v 0)) (.seq (.set (.n 6) (.tup (.cons (.v 2) (.cons (.v 3) .nil)))) (.seq (.loop false (.n 7) (.rng1 (.k (.int 3))) (.seq (.set (.n 8) (.call f_law_vec_lead (.cons (.v 6) (.cons (.ix (.v 4) (.v 7)) .nil)))) (.seq (.ite (.nt (.tv (.call f_law_same (.cons (.call fstates_after (.cons (.tup (.cons (.call f_law_vec_told (.cons (.ix (.v 6) (.k (.int 0))) .nil)) (.cons (.ix (.v 6) (.k (.int 1))) .nil))) (.cons (.ix (.v 4) (.v 7)) .nil))) (.cons (.call f_law_lead_told (.cons (.v 8) .nil)) .nil))))) (.seq (.ret (.k (.bl false))) .nop) .nop) (.seq (.set (.n 6) (.ix (.v 8) (.bin .mod (.u1 .int (.ix (.v 5) (.v 7))) (.u1 .len (.v 8))))) .nop)))) (.seq (.ret (.k (.bl true))) .nop))))⟩
def mlaw : Fn := ⟨1, 9, true, (.seq (.set (.n 1) (.call f_law_tape (.cons (.v 0) .nil))) (.seq (.set (.n 2) (.call f_law_lead_given (.cons (.v 1) .nil))) (.seq (.set (.n 3) (.call f_law_lead_changed (.cons (.v 1) (.cons (.v 2) .nil)))) (.seq (.set (.n 4) (.call f_law_pick (.cons (.v 1) (.cons (.fz (.lst (.cons (.k (.int 0)) (.cons (.k (.int 1)) (.cons (.k (.int 3)) (.cons (.k (.int 40)) .nil)))))) .nil)))) (.seq (.set (.n 5) (.tup (.cons (.call f_law_draw (.cons (.v 1) (.cons (.k (.int 6)) .nil))) (.cons (.v 4) (.cons (.tup .nil) (.cons (.tup .nil) .nil)))))) (.seq (.set (.n 6) (.tup (.cons (.tup (.cons (.k (.int 0)) (.cons (.tup (.cons (.tup (.cons (.k (.int 0)) (.cons (.tup (.cons (.k (.int 1)) (.cons (.k (.int 0)) (.cons (.k (.int 0)) (.cons (.k (.int 0)) .nil))))) .nil))) .nil)) .nil))) (.cons (.bin .mul (.tup (.cons (.k (.int 0)) .nil)) (.v 4)) .nil)))) (.seq (.set (.n 7) (.call f_law_draw (.cons (.v 1) (.cons (.k (.int 4)) .nil)))) (.seq (.loop false (.n 8) (.rng1 (.k (.int 4))) (.seq (.ite (.and (.cmp .eq (.v 8) (.v 7)) (.nt (.tv (.call f_law_same (.cons (.call ffirst_state (.cons (.v 5) .nil)) (.cons (.v 6) .nil)))))) (.seq (.ret (.k (.bl false))) .nop) .nop) (.seq (.ite (.and (.cmp .lt (.v 8) (.k (.int 3))) (.nt (.tv (.call f_law_lead_right (.cons (.ix (.fz (.lst (.cons (.v 2) (.cons (.v 3) (.cons (.v 2) .nil))))) (.v 8)) .nil))))) (.seq (.ret (.k (.bl false))) .nop) .nop) .nop))) (.seq (.ret (.k (.bl true))) .nop)))))))))⟩
def dvalue_of : DefZ := ⟨"value_of", defArgs (st 1), defBody (st 1), defScope (st 1), ["expression", "bits", "word", "found", "part"], mvalue_of⟩
def dplus : DefZ := ⟨"plus", defArgs (st 4), defBody (st 4), defScope (st 4), ["x", "y"], mplus⟩
def dminus : DefZ := ⟨"minus", defArgs (st 5), defBody (st 5), defScope (st 5), ["x", "y"], mminus⟩
def dturned : DefZ := ⟨"turned", defArgs (st 6), defBody (st 6), defScope (st 6), ["x", "k", "a", "b", "c", "d", "turns"], mturned⟩
def drooted : DefZ := ⟨"rooted", defArgs (st 7), defBody (st 7), defScope (st 7), ["x", "a", "b", "c", "d"], mrooted⟩
def dunrooted : DefZ := ⟨"unrooted", defArgs (st 8), defBody (st 8), defScope (st 8), ["x", "a", "b", "c", "d"], munrooted⟩
def dfirst_vector : DefZ := ⟨"first_vector", defArgs (st 10), defBody (st 10), defScope (st 10), [], mfirst_vector⟩
def dsummed_up : DefZ := ⟨"summed_up", defArgs (st 11), defBody (st 11), defScope (st 11), ["pairs", "amplitudes", "basis", "amplitude"], msummed_up⟩
def ddivided : DefZ := ⟨"divided", defArgs (st 12), defBody (st 12), defScope (st 12), ["terms", "found", "basis", "amplitude", "quotient"], mdivided⟩
def dreduced : DefZ := ⟨"reduced", defArgs (st 13), defBody (st 13), defScope (st 13), ["scale", "pairs", "terms", "quotients"], mreduced⟩
def dwith_letter : DefZ := ⟨"with_letter", defArgs (st 14), defBody (st 14), defScope (st 14), ["basis", "qubit", "letter", "weight", "is_one"], mwith_letter⟩
def dmoved_terms : DefZ := ⟨"moved_terms", defArgs (st 15), defBody (st 15), defScope (st 15), ["terms", "sign", "product", "found", "basis", "amplitude", "turns", "place", "qubit", "letter", "more"], mmoved_terms⟩
def dapply_product : DefZ := ⟨"apply_product", defArgs (st 16), defBody (st 16), defScope (st 16), ["vector", "sign", "product", "scale", "terms"], mapply_product⟩
def dapply_phase : DefZ := ⟨"apply_phase", defArgs (st 17), defBody (st 17), defScope (st 17), ["vector", "k", "product", "scale", "terms", "pairs", "basis", "amplitude"], mapply_phase⟩
def dproject : DefZ := ⟨"project", defArgs (st 18), defBody (st 18), defScope (st 18), ["vector", "sign", "product", "scale", "terms"], mproject⟩
def dturn_between : DefZ := ⟨"turn_between", defArgs (st 19), defBody (st 19), defScope (st 19), ["first", "second", "term", "k"], mturn_between⟩
def dcleared : DefZ := ⟨"cleared", defArgs (st 20), defBody (st 20), defScope (st 20), ["vector", "qubit", "scale", "terms", "weight", "zero", "term", "one", "basis", "amplitude"], mcleared⟩
def dmagic_made : DefZ := ⟨"magic_made", defArgs (st 21), defBody (st 21), defScope (st 21), ["vector", "qubit", "scale", "terms", "weight", "pairs", "basis", "amplitude"], mmagic_made⟩
def dfirst_state : DefZ := ⟨"first_state", defArgs (st 23), defBody (st 23), defScope (st 23), ["program", "cell"], mfirst_state⟩
def dwith_bit : DefZ := ⟨"with_bit", defArgs (st 24), defBody (st 24), defScope (st 24), ["bits", "cell", "bit"], mwith_bit⟩
def dmeasured_states : DefZ := ⟨"measured_states", defArgs (st 25), defBody (st 25), defScope (st 25), ["state", "deed", "vector", "bits", "word", "sign", "product", "cell", "found", "bit", "part"], mmeasured_states⟩
def dcleared_states : DefZ := ⟨"cleared_states", defArgs (st 26), defBody (st 26), defScope (st 26), ["state", "deed", "vector", "bits", "found", "part"], mcleared_states⟩
def dstates_after : DefZ := ⟨"states_after", defArgs (st 27), defBody (st 27), defScope (st 27), ["state", "command", "vector", "bits", "guard", "deed"], mstates_after⟩
def d_law_tape : DefZ := ⟨"_law_tape", defArgs (st 29), defBody (st 29), defScope (st 29), ["script", "mixed", "cell"], m_law_tape⟩
def d_law_draw : DefZ := ⟨"_law_draw", defArgs (st 30), defBody (st 30), defScope (st 30), ["reel", "wide", "place", "number"], m_law_draw⟩
def d_law_pick : DefZ := ⟨"_law_pick", defArgs (st 31), defBody (st 31), defScope (st 31), ["reel", "menu"], m_law_pick⟩
def d_law_put : DefZ := ⟨"_law_put", defArgs (st 32), defBody (st 32), defScope (st 32), ["told", "place", "thing"], m_law_put⟩
def d_law_same : DefZ := ⟨"_law_same", defArgs (st 33), defBody (st 33), defScope (st 33), ["told", "wanted", "k"], m_law_same⟩
def d_law_two : DefZ := ⟨"_law_two", defArgs (st 34), defBody (st 34), defScope (st 34), ["k", "number", "j"], m_law_two⟩
def d_law_amp_plus : DefZ := ⟨"_law_amp_plus", defArgs (st 35), defBody (st 35), defScope (st 35), ["x", "y"], m_law_amp_plus⟩
def d_law_amp_turn : DefZ := ⟨"_law_amp_turn", defArgs (st 36), defBody (st 36), defScope (st 36), ["x", "k", "a", "b", "c", "d", "turn"], m_law_amp_turn⟩
def d_law_amp_root : DefZ := ⟨"_law_amp_root", defArgs (st 37), defBody (st 37), defScope (st 37), ["x"], m_law_amp_root⟩
def d_law_vec_told : DefZ := ⟨"_law_vec_told", defArgs (st 38), defBody (st 38), defScope (st 38), ["vec", "scale", "rows", "k", "wide", "x", "y"], m_law_vec_told⟩
def d_law_vec_act : DefZ := ⟨"_law_vec_act", defArgs (st 39), defBody (st 39), defScope (st 39), ["rows", "product", "weights", "told", "y", "at", "turn", "q", "letter", "one"], m_law_vec_act⟩
def d_law_vec_apply : DefZ := ⟨"_law_vec_apply", defArgs (st 40), defBody (st 40), defScope (st 40), ["vec", "sign", "product", "x"], m_law_vec_apply⟩
def d_law_vec_phase : DefZ := ⟨"_law_vec_phase", defArgs (st 41), defBody (st 41), defScope (st 41), ["vec", "k", "product", "other", "rows", "y", "stays"], m_law_vec_phase⟩
def d_law_vec_part : DefZ := ⟨"_law_vec_part", defArgs (st 42), defBody (st 42), defScope (st 42), ["vec", "sign", "product", "other", "y"], m_law_vec_part⟩
def d_law_vec_none : DefZ := ⟨"_law_vec_none", defArgs (st 43), defBody (st 43), defScope (st 43), ["rows", "x"], m_law_vec_none⟩
def d_law_vec_clear : DefZ := ⟨"_law_vec_clear", defArgs (st 44), defBody (st 44), defScope (st 44), ["vec", "qubit", "wide", "rows", "zero", "one", "y", "k", "x"], m_law_vec_clear⟩
def d_law_vec_magic : DefZ := ⟨"_law_vec_magic", defArgs (st 45), defBody (st 45), defScope (st 45), ["vec", "qubit", "other", "y"], m_law_vec_magic⟩
def d_law_vec_value : DefZ := ⟨"_law_vec_value", defArgs (st 46), defBody (st 46), defScope (st 46), ["x", "bits", "row", "part"], m_law_vec_value⟩
def d_law_vec_lead : DefZ := ⟨"_law_vec_lead", defArgs (st 47), defBody (st 47), defScope (st 47), ["state", "command", "vec", "bits", "guard", "deed", "parts", "k", "part"], m_law_vec_lead⟩
def d_law_flat_product : DefZ := ⟨"_law_flat_product", defArgs (st 48), defBody (st 48), defScope (st 48), ["reel", "qubits", "least", "told", "q", "kind"], m_law_flat_product⟩
def d_law_flat_expression : DefZ := ⟨"_law_flat_expression", defArgs (st 49), defBody (st 49), defScope (st 49), ["reel", "cells", "deep", "kind", "parts", "k"], m_law_flat_expression⟩
def d_law_flat_guard : DefZ := ⟨"_law_flat_guard", defArgs (st 50), defBody (st 50), defScope (st 50), ["reel", "cells", "kind", "one", "other"], m_law_flat_guard⟩
def d_law_flat_deed : DefZ := ⟨"_law_flat_deed", defArgs (st 51), defBody (st 51), defScope (st 51), ["reel", "kind", "qubits", "cells"], m_law_flat_deed⟩
def d_law_a_amp : DefZ := ⟨"_law_a_amp", defArgs (st 52), defBody (st 52), defScope (st 52), ["reel", "wide", "row", "j", "i"], m_law_a_amp⟩
def d_law_a_basis : DefZ := ⟨"_law_a_basis", defArgs (st 53), defBody (st 53), defScope (st 53), ["reel", "qubits", "rows"], m_law_a_basis⟩
def d_law_a_vec : DefZ := ⟨"_law_a_vec", defArgs (st 54), defBody (st 54), defScope (st 54), ["reel", "qubits", "vec", "k", "wide", "rows", "x"], m_law_a_vec⟩
def d_law_lead_given : DefZ := ⟨"_law_lead_given", defArgs (st 55), defBody (st 55), defScope (st 55), ["reel", "qubits", "cells", "vec", "bits", "c", "commands", "k", "kind", "guard", "deed"], m_law_lead_given⟩
def d_law_lead_changed : DefZ := ⟨"_law_lead_changed", defArgs (st 56), defBody (st 56), defScope (st 56), ["reel", "given", "qubits", "vec", "bits", "commands", "picks", "kind", "c", "guard", "deed", "pick"], m_law_lead_changed⟩
def d_law_lead_told : DefZ := ⟨"_law_lead_told", defArgs (st 57), defBody (st 57), defScope (st 57), ["states", "vec", "bits"], m_law_lead_told⟩
def d_law_lead_right : DefZ := ⟨"_law_lead_right", defArgs (st 58), defBody (st 58), defScope (st 58), ["given", "qubits", "vec", "bits", "commands", "picks", "state", "k", "due"], m_law_lead_right⟩
def dlaw : DefZ := ⟨"law", defArgs (st 59), defBody (st 59), defScope (st 59), ["script", "reel", "first", "second", "total", "program", "due", "place", "k"], mlaw⟩
def Ds : List DefZ := [dvalue_of, dplus, dminus, dturned, drooted, dunrooted, dfirst_vector, dsummed_up, ddivided, dreduced, dwith_letter, dmoved_terms, dapply_product, dapply_phase, dproject, dturn_between, dcleared, dmagic_made, dfirst_state, dwith_bit, dmeasured_states, dcleared_states, dstates_after, d_law_tape, d_law_draw, d_law_pick, d_law_put, d_law_same, d_law_two, d_law_amp_plus, d_law_amp_turn, d_law_amp_root, d_law_vec_told, d_law_vec_act, d_law_vec_apply, d_law_vec_phase, d_law_vec_part, d_law_vec_none, d_law_vec_clear, d_law_vec_magic, d_law_vec_value, d_law_vec_lead, d_law_flat_product, d_law_flat_expression, d_law_flat_guard, d_law_flat_deed, d_law_a_amp, d_law_a_basis, d_law_a_vec, d_law_lead_given, d_law_lead_changed, d_law_lead_told, d_law_lead_right, dlaw]
def cs : List (Str × W) := [("NOTHING", cNOTHING)]
def free : List Str := ["sum", "sorted", "tuple", "list", "range", "int", "abs", "max", "len", "isinstance", "bool", "str", "min"]
end Z.K07
namespace Z.K07
open PySem PySem.Spec L2
open PyProof.Rows hiding St
section
variable {d : Nat} {g : CH} {Q : WK} {t : W}
local macro_rules | `(tactic| walk_at "zn") => `(tactic| dsimp only [List.set_cons_zero, List.set_cons_succ, zwipe0, zwipeS, zmap_cons, zmap_nil, zcons_app, znil_app, List.replicate_succ, List.replicate_zero, Nat.reduceSub, Int.reduceAdd, Int.reduceSub, Int.reduceNeg, Int.reduceMul, Int.reduceToNat, Int.reducePow, List.length_cons, List.length_nil, Nat.reduceAdd])
local macro_rules | `(tactic| walk_at "z0") => `(tactic| first
  | with_reducible refine nx_seq ?_
  | with_reducible refine nop_i ?_
  | with_reducible refine k_i ?_
  | with_reducible refine seq_i ?_
  | with_reducible refine reti ?_
  | with_reducible refine gl_i ?_
  | with_reducible refine anil_i ?_
  | with_reducible refine tnil_i ?_
  | with_reducible refine rt_seq ?_
  | with_reducible refine nx_turn ?_
  | with_reducible refine rt_turn ?_
  | with_reducible refine fn_rt ?_
  | with_reducible refine bk_seq ?_
  | with_reducible refine ct_seq ?_
  | with_reducible refine bk_turn ?_
  | with_reducible refine ct_turn ?_
  | with_reducible refine fn_nx ?_
  | ((with_reducible refine turn_id ?_); refine turn_ng ?_)
  | ((with_reducible refine ret_id ?_); refine ret_ng ?_)
  | ((with_reducible refine ite_id ?_); first | refine if_t rfl ?_ | refine if_f rfl ?_)
  | (refine opt_id ?_; first
    | (refine opt_asg rfl ?_; walk_at "zn")
    | (refine put_i ?_; walk_at "zn")
    | (refine add_i ?_; walk_at "zn")
    | with_reducible refine opt_eq ?_
    | ((with_reducible refine opt_pow ⟨by omega, by omega, by omega⟩ ?_); walk_at "zn")
    | with_reducible refine opt_ne ?_
    | with_reducible refine opt_slTo (by omega) ?_
    | with_reducible refine opt_slFrom (by omega) ?_
    | with_reducible refine opt_lslTo (by omega) ?_
    | refine opt_i rfl ?_
    | refine opt_mul (mulOk64 ⟨by omega, by omega⟩ ⟨by omega, by omega⟩) ?_
    | refine opt_mod (by omega) ?_
    | refine opt_shr (by omega) ?_
    | refine opt_fdiv (by constructor <;> first | decide | omega) ?_
    | refine opt_rng (by unfold rngOk; omega) ?_)
  | refine And.intro (Nat.le_of_ble_eq_true rfl) ?_
  | refine And.intro (by decide) ?_
  | refine And.intro (small (by first | omega | (dsimp only; omega))) ?_)
local macro_rules | `(tactic| walk_at "z1") => `(tactic| first
  | walk_at "z0"
  | ((with_reducible refine forL_id ?_); first | refine forL_cons ?_ | refine forL_nil ?_)
  | ((with_reducible refine lcL_id ?_); first | refine lcL_cons ?_ | refine lcL_nil ?_))
local macro_rules | `(tactic| walk_at "zs") => `(tactic| ((repeat walk_at "z0"); try (first | with_reducible refine forL_id ?_ | with_reducible refine lcL_id ?_)))
local macro_rules | `(tactic| walk_at "zf") => `(tactic| (refine fn_i rfl rfl rfl ?_; walk_at "zn"))
local macro_rules | `(tactic| walk_at "zi") => `(tactic| ((with_reducible refine ite_id ?_); first | refine if_d ?_ ?_ | refine if_n ?_ ?_))
local macro_rules | `(tactic| walk_at "zz") => `(tactic| (repeat walk_at "z1"; try ((walk_at "zi"; (all_goals intro _); (all_goals try (exfalso; omega)); (all_goals walk_at "zz")))))
local macro_rules | `(tactic| walk_at "z") => `(tactic| ((repeat walk_at "z1"); try (first | with_reducible refine forL_id ?_ | with_reducible refine ret_id ?_ | with_reducible refine turn_id ?_ | with_reducible refine lcL_id ?_ | with_reducible refine ite_id ?_ | refine call_id ?_ | with_reducible refine opt_id ?_)))
local macro_rules | `(tactic| walk_at "zh") => `(tactic| first | rfl | assumption | omega | decide)
theorem p_tape {ns : List Int} (k : ∀ t', Tape 0 t' → Q (.ob 0) [t']) : wpC (codeT Ds) (d + 1) f_law_tape [.lck (ns.map .int)] [] Q := w_tape rfl k
theorem p_draw {n : Nat} {t : W} {wide : Int} {rest : CH} (ht : Tape n t) (hn : n < 2 ^ 40) (hw : wide.natAbs < 18446744073709551616)
    (k : ∀ (v : Int) t', 0 ≤ v → v < max wide 1 → Tape (n + 1) t' → Q (.int v) (t' :: rest)) : wpC (codeT Ds) (d + 1) f_law_draw [.ob 0, .int wide] (t :: rest) Q := w_draw rfl ht hn hw k
theorem p_pick {n : Nat} {t : W} {xs : List W} {rest : CH} (ht : Tape n t) (hn : n < 2 ^ 40) (h0 : xs ≠ []) (hl : xs.length ≤ sizeLine)
    (k : ∀ x t', x ∈ xs → Tape (n + 1) t' → Q x (t' :: rest)) : wpC (codeT Ds) (d + 2) f_law_pick [.ob 0, .lst xs] (t :: rest) Q := w_pick (j := f_law_draw) rfl rfl ht hn h0 hl k
theorem p_put {xs : List W} {p : Nat} {v : W} {g : CH} (hp : p < xs.length) (hl : xs.length < 2 ^ 20)
    (k : Q (.tup (xs.set p v)) g) : wpC (codeT Ds) (d + 1) f_law_put [.tup xs, .int p, v] g Q := w_put rfl hp hl k
theorem p_putZ {xs : List W} {q : Int} {v : W} {g : CH} (h0 : 0 ≤ q) (hp : q < xs.length) (hl : xs.length < 2 ^ 20)
    (k : Q (.tup (xs.set q.toNat v)) g) : wpC (codeT Ds) (d + 1) f_law_put [.tup xs, .int q, v] g Q := w_putI (p := q.toNat) rfl (by omega) (by omega) hl k
theorem p_same (n : Nat) {x : W} {g : CH} (h : plain n x = true) (k : Q (.bl true) g) : wpC (codeT Ds) (d + n + 1) f_law_same [x, x] g Q := w_same rfl n x g Q h k
/-! ### amplitudes -/
structure Amp where
  a : Int
  b : Int
  c : Int
  d : Int
  deriving DecidableEq
def Amp.w (x : Amp) : W := .tup [.int x.a, .int x.b, .int x.c, .int x.d]
def az : Amp := ⟨0, 0, 0, 0⟩
def Amp.add (x y : Amp) : Amp := ⟨x.a + y.a, x.b + y.b, x.c + y.c, x.d + y.d⟩
/-- turned once -/
def r1 (x : Amp) : Amp := ⟨-x.d, x.a, x.b, x.c⟩
def trn : Nat → Amp → Amp
  | 0, x => x
  | n + 1, x => r1 (trn n x)
def tn (k : Int) (x : Amp) : Amp := trn (k % 8).toNat x
def root (x : Amp) : Amp := ⟨x.b - x.d, x.a + x.c, x.b + x.d, x.c - x.a⟩
def hr (x : Amp) : Amp := ⟨(x.b - x.d) / 2, (x.a + x.c) / 2, (x.b + x.d) / 2, (x.c - x.a) / 2⟩
def ok (x : Amp) : Prop := (x.a + x.c) % 2 = 0 ∧ (x.b + x.d) % 2 = 0
instance (x : Amp) : Decidable (ok x) := by unfold ok; infer_instance
def sqp (x : Amp) : Int := x.a * x.a + x.b * x.b + x.c * x.c + x.d * x.d
def sqq (x : Amp) : Int := x.a * x.b + x.b * x.c + x.c * x.d - x.d * x.a
/-- of a size -/
def Sz (m : Int) (x : Amp) : Prop := (-m ≤ x.a ∧ x.a ≤ m) ∧ (-m ≤ x.b ∧ x.b ≤ m) ∧ (-m ≤ x.c ∧ x.c ≤ m) ∧ -m ≤ x.d ∧ x.d ≤ m
theorem Amp.ext' {x y : Amp} (h1 : x.a = y.a) (h2 : x.b = y.b) (h3 : x.c = y.c) (h4 : x.d = y.d) : x = y := by
  cases x; cases y; simp_all
theorem trn_add (m : Nat) : ∀ (n : Nat) (x : Amp), trn (m + n) x = trn m (trn n x) := by
  induction m with
  | zero => intro n x; rw [Nat.zero_add]; rfl
  | succ m ih => intro n x; rw [show m + 1 + n = (m + n) + 1 by omega]; show r1 _ = r1 _; rw [ih]
theorem trn8 (x : Amp) : trn 8 x = x := by
  refine Amp.ext' ?_ ?_ ?_ ?_ <;> simp [trn, r1]
theorem trn_mul8 (n : Nat) (x : Amp) : trn (8 * n) x = x := by
  induction n with
  | zero => rfl
  | succ n ih => rw [show 8 * (n + 1) = 8 + 8 * n by omega, trn_add, ih, trn8]
theorem trn_mod (n : Nat) (x : Amp) : trn (n % 8) x = trn n x := by
  conv => rhs; rw [← Nat.mod_add_div n 8, trn_add, trn_mul8]
theorem tn_tn (j k : Int) (x : Amp) : tn j (tn k x) = tn (j + k) x := by
  unfold tn
  rw [← trn_add, ← trn_mod ((j % 8).toNat + (k % 8).toNat)]
  congr 1
  omega
theorem tn_congr {j k : Int} (h : j % 8 = k % 8) (x : Amp) : tn j x = tn k x := by unfold tn; rw [h]
theorem tn_zero (x : Amp) : tn 0 x = x := rfl
/-- what every turn keeps -/
theorem trn_ind {P : Amp → Prop} (h : ∀ x, P x → P (r1 x)) : ∀ (n : Nat) (x : Amp), P x → P (trn n x)
  | 0, _, p => p
  | n + 1, x, p => h _ (trn_ind h n x p)
theorem ok_r1 {x : Amp} : ok (r1 x) ↔ ok x := by unfold ok r1; dsimp only; omega
theorem ok_trn (n : Nat) (x : Amp) : ok (trn n x) ↔ ok x := by
  induction n with
  | zero => exact Iff.rfl
  | succ n ih => exact ok_r1.trans ih
theorem ok_tn (k : Int) (x : Amp) : ok (tn k x) ↔ ok x := ok_trn _ x
theorem hr_r1 {x : Amp} (h : ok x) : hr (r1 x) = r1 (hr x) := by
  unfold ok at h
  refine Amp.ext' ?_ ?_ ?_ ?_ <;> simp only [hr, r1] <;> omega
theorem hr_trn {x : Amp} (h : ok x) (n : Nat) : hr (trn n x) = trn n (hr x) := by
  induction n with
  | zero => rfl
  | succ n ih => show hr (r1 _) = r1 _; rw [hr_r1 ((ok_trn n x).mpr h), ih]
theorem hr_tn {x : Amp} (h : ok x) (k : Int) : hr (tn k x) = tn k (hr x) := hr_trn h _
theorem r1_az {x : Amp} : r1 x = az ↔ x = az := by
  constructor
  · intro h
    have h1 := congrArg Amp.a h
    have h2 := congrArg Amp.b h
    have h3 := congrArg Amp.c h
    have h4 := congrArg Amp.d h
    simp only [r1, az] at h1 h2 h3 h4
    exact Amp.ext' h2 h3 h4 (by show x.d = 0; omega)
  · rintro rfl; rfl
theorem tn_az (k : Int) {x : Amp} : tn k x = az ↔ x = az := by
  unfold tn
  induction (k % 8).toNat with
  | zero => exact Iff.rfl
  | succ n ih => exact r1_az.trans ih
theorem ok_az : ok az := ⟨rfl, rfl⟩
theorem root_hr {x : Amp} (h : ok x) : root (hr x) = x := by
  unfold ok at h
  refine Amp.ext' ?_ ?_ ?_ ?_ <;> simp only [hr, root] <;> omega
theorem hr_az {x : Amp} (h : ok x) : hr x = az ↔ x = az := by
  constructor
  · intro e
    rw [← root_hr h, e]; rfl
  · rintro rfl; rfl
theorem sqp_root (x : Amp) : sqp (root x) = 2 * sqp x := by
  unfold sqp root
  dsimp only
  grind
theorem sqq_root (x : Amp) : sqq (root x) = 2 * sqq x := by
  unfold sqq root
  dsimp only
  grind
theorem sqp_hr {x : Amp} (h : ok x) : sqp x = 2 * sqp (hr x) := by
  rw [← sqp_root, root_hr h]
theorem sqq_hr {x : Amp} (h : ok x) : sqq x = 2 * sqq (hr x) := by
  rw [← sqq_root, root_hr h]
theorem add_az (x : Amp) : az.add x = x := by
  refine Amp.ext' ?_ ?_ ?_ ?_ <;> simp only [Amp.add, az] <;> omega
theorem Sz.mono {m n : Int} {x : Amp} (h : Sz m x) (l : m ≤ n) : Sz n x := by unfold Sz at *; omega
theorem Sz.tn {m : Int} {x : Amp} (h : Sz m x) (k : Int) : Sz m (tn k x) := trn_ind (P := Sz m) (fun x h => by unfold Sz r1 at *; dsimp only; omega) _ x h
theorem Sz.add {m n : Int} {x y : Amp} (h : Sz m x) (h2 : Sz n y) : Sz (m + n) (x.add y) := by unfold Sz Amp.add at *; dsimp only; omega
theorem Sz.hr {m : Int} {x : Amp} (h : Sz m x) : Sz m (hr x) := by unfold Sz Z.K07.hr at *; dsimp only; omega
theorem Sz.root {m : Int} {x : Amp} (h : Sz m x) : Sz (m + m) (root x) := by unfold Sz Z.K07.root at *; dsimp only; omega
theorem Sz.az {m : Int} (h : 0 ≤ m) : Sz m az := by unfold Sz Z.K07.az; dsimp only; omega
theorem Amp.pln (x : Amp) : pln 1 x.w = true := rfl
theorem Amp.wf {n : Nat} (x : Amp) : Z.wf n x.w = true := rfl
theorem Amp.beq (x y : Amp) : W.beq x.w y.w = decide (x = y) := by
  by_cases h : x = y
  · subst h; rw [W.beq_refl]; simp
  · rw [decide_eq_false h]
    cases q : W.beq x.w y.w with
    | false => rfl
    | true =>
      exfalso
      have e := W.beq_ok q
      unfold Amp.w at e
      injection e with e
      simp only [List.cons.injEq, W.int.injEq] at e
      exact h (Amp.ext' e.1 e.2.1 e.2.2.1 e.2.2.2.1)
/-! ### the program's numbers -/
theorem w_plus {x y : Amp} (k : Q (x.add y).w g) : wpC (codeT Ds) (d + 1) fplus [x.w, y.w] g Q := by
  unfold Amp.w at *
  walk_at "zf"
  repeat walk_at "z1"
  exact k
theorem w_lplus {x y : Amp} (k : Q (x.add y).w g) : wpC (codeT Ds) (d + 1) f_law_amp_plus [x.w, y.w] g Q := by
  unfold Amp.w at *
  walk_at "zf"
  repeat walk_at "z1"
  exact k
theorem tn_at {k : Int} {j : Nat} (h : k % 8 = j) (x : Amp) : tn k x = trn j x := by
  unfold tn
  rw [h]; rfl
theorem w_turned {x : Amp} {n : Int} (k : Q (tn n x).w g) : wpC (codeT Ds) (d + 1) fturned [x.w, .int n] g Q := by
  obtain ⟨j, hj, hj2⟩ : ∃ j : Nat, n % 8 = j ∧ j < 8 := ⟨(n % 8).toNat, by omega, by omega⟩
  rw [tn_at hj] at k
  unfold Amp.w at *
  obtain rfl | rfl | rfl | rfl | rfl | rfl | rfl | rfl : j = 0 ∨ j = 1 ∨ j = 2 ∨ j = 3 ∨ j = 4 ∨ j = 5 ∨ j = 6 ∨ j = 7 := by omega
  all_goals simp only [trn, r1, Int.neg_neg] at k
  all_goals walk_at "zf"
  all_goals walk_at "zz"
  all_goals try simp only [Int.neg_neg]
  all_goals exact k
theorem w_lturn {x : Amp} {n : Int} (k : Q (tn n x).w g) : wpC (codeT Ds) (d + 1) f_law_amp_turn [x.w, .int n] g Q := by
  obtain ⟨j, hj, hj2⟩ : ∃ j : Nat, n % 8 = j ∧ j < 8 := ⟨(n % 8).toNat, by omega, by omega⟩
  rw [tn_at hj] at k
  unfold Amp.w at *
  obtain rfl | rfl | rfl | rfl | rfl | rfl | rfl | rfl : j = 0 ∨ j = 1 ∨ j = 2 ∨ j = 3 ∨ j = 4 ∨ j = 5 ∨ j = 6 ∨ j = 7 := by omega
  all_goals simp only [trn, r1, Int.neg_neg] at k
  all_goals walk_at "zf"
  all_goals walk_at "zz"
  all_goals try simp only [Int.zero_sub, Int.neg_neg]
  all_goals exact k
theorem w_lroot {x : Amp} (k : Q (root x).w g) : wpC (codeT Ds) (d + 2) f_law_amp_root [x.w] g Q := by
  walk_at "zf"
  walk_at "z"
  refine w_lturn ?_
  walk_at "z"
  refine w_lturn ?_
  walk_at "z"
  refine w_lplus ?_
  walk_at "z"
  have e : (tn 1 x).add (tn 7 x) = root x := by
    refine Amp.ext' ?_ ?_ ?_ ?_ <;> simp [tn, trn, r1, Amp.add, root] <;> omega
  rw [e]
  exact k
theorem w_unrooted {x : Amp} (k1 : ¬ ok x → Q .non g) (k2 : ok x → Q (hr x).w g) : wpC (codeT Ds) (d + 1) funrooted [x.w] g Q := by
  unfold ok at *
  unfold Amp.w hr at *
  walk_at "zf"
  walk_at "zz"
  · exact k1 (by omega)
  · exact k1 (by omega)
  · exact k2 (by omega)
def Amp.sub (x y : Amp) : Amp := ⟨x.a - y.a, x.b - y.b, x.c - y.c, x.d - y.d⟩
theorem w_minus {x y : Amp} (k : Q (x.sub y).w g) : wpC (codeT Ds) (d + 1) fminus [x.w, y.w] g Q := by
  unfold Amp.w at *
  walk_at "zf"
  repeat walk_at "z1"
  exact k
theorem w_rooted {x : Amp} (k : Q (root x).w g) : wpC (codeT Ds) (d + 1) frooted [x.w] g Q := by
  unfold Amp.w root at *
  walk_at "zf"
  repeat walk_at "z1"
  exact k
theorem w_two {n : Nat} (hn : n ≤ 64) (k : Q (.int (2 ^ n)) g) : wpC (codeT Ds) (d + 1) f_law_two [.int n] g Q := by
  walk_at "zf"
  walk_at "z"
  rw [show ((n : Int) - 0).toNat = n by omega]
  refine for_rng (fun i e g' => g' = g ∧ ∃ y, e = [some (.int n), some (.int (2 ^ i)), y]) ?_ ?_ ⟨rfl, none, rfl⟩
  · rintro i k' hi hk _ _ ⟨rfl, y, rfl⟩
    walk_at "z"
    have hb : Bt 65 ((2 : Int) ^ i) := by
      unfold Bt
      rw [Int.natAbs_pow]
      exact Nat.pow_lt_pow_right (by decide) (by omega)
    refine opt_mul (hb.mulOk (m := 2) (j := 2) (by unfold Bt; decide) (by decide)) ?_
    walk_at "z"
    exact hk _ _ ⟨rfl, _, by rw [Int.pow_succ]⟩
  · rintro _ _ ⟨rfl, y, rfl⟩
    walk_at "z"
    exact k
end
end Z.K07
namespace Z.K07
open PySem PySem.Spec L2
open PyProof.Rows hiding St
section
variable {d : Nat} {g : CH} {Q : WK} {t : W}
local macro_rules | `(tactic| walk_at "zn") => `(tactic| dsimp only [List.set_cons_zero, List.set_cons_succ, zwipe0, zwipeS, zmap_cons, zmap_nil, zcons_app, znil_app, List.replicate_succ, List.replicate_zero, Nat.reduceSub, Int.reduceAdd, Int.reduceSub, Int.reduceNeg, Int.reduceMul, Int.reduceToNat, Int.reducePow, List.length_cons, List.length_nil, Nat.reduceAdd])
local macro_rules | `(tactic| walk_at "z0") => `(tactic| first
  | with_reducible refine nx_seq ?_
  | with_reducible refine nop_i ?_
  | with_reducible refine k_i ?_
  | with_reducible refine seq_i ?_
  | with_reducible refine reti ?_
  | with_reducible refine gl_i ?_
  | with_reducible refine anil_i ?_
  | with_reducible refine tnil_i ?_
  | with_reducible refine rt_seq ?_
  | with_reducible refine nx_turn ?_
  | with_reducible refine rt_turn ?_
  | with_reducible refine fn_rt ?_
  | with_reducible refine bk_seq ?_
  | with_reducible refine ct_seq ?_
  | with_reducible refine bk_turn ?_
  | with_reducible refine ct_turn ?_
  | with_reducible refine fn_nx ?_
  | ((with_reducible refine turn_id ?_); refine turn_ng ?_)
  | ((with_reducible refine ret_id ?_); refine ret_ng ?_)
  | ((with_reducible refine ite_id ?_); first | refine if_t rfl ?_ | refine if_f rfl ?_)
  | (refine opt_id ?_; first
    | (refine opt_asg rfl ?_; walk_at "zn")
    | (refine put_i ?_; walk_at "zn")
    | (refine add_i ?_; walk_at "zn")
    | with_reducible refine opt_eq ?_
    | ((with_reducible refine opt_pow ⟨by omega, by omega, by omega⟩ ?_); walk_at "zn")
    | with_reducible refine opt_ne ?_
    | with_reducible refine opt_slTo (by omega) ?_
    | with_reducible refine opt_slFrom (by omega) ?_
    | with_reducible refine opt_lslTo (by omega) ?_
    | refine opt_i rfl ?_
    | refine opt_mul (mulOk64 ⟨by omega, by omega⟩ ⟨by omega, by omega⟩) ?_
    | refine opt_mod (by omega) ?_
    | refine opt_shr (by omega) ?_
    | refine opt_fdiv (by constructor <;> first | decide | omega) ?_
    | refine opt_rng (by unfold rngOk; omega) ?_)
  | refine And.intro (Nat.le_of_ble_eq_true rfl) ?_
  | refine And.intro (by decide) ?_
  | refine And.intro (small (by first | omega | (dsimp only; omega))) ?_)
local macro_rules | `(tactic| walk_at "z1") => `(tactic| first
  | walk_at "z0"
  | ((with_reducible refine forL_id ?_); first | refine forL_cons ?_ | refine forL_nil ?_)
  | ((with_reducible refine lcL_id ?_); first | refine lcL_cons ?_ | refine lcL_nil ?_))
local macro_rules | `(tactic| walk_at "zs") => `(tactic| ((repeat walk_at "z0"); try (first | with_reducible refine forL_id ?_ | with_reducible refine lcL_id ?_)))
local macro_rules | `(tactic| walk_at "zf") => `(tactic| (refine fn_i rfl rfl rfl ?_; walk_at "zn"))
local macro_rules | `(tactic| walk_at "zi") => `(tactic| ((with_reducible refine ite_id ?_); first | refine if_d ?_ ?_ | refine if_n ?_ ?_))
local macro_rules | `(tactic| walk_at "zz") => `(tactic| (repeat walk_at "z1"; try ((walk_at "zi"; (all_goals intro _); (all_goals try (exfalso; omega)); (all_goals walk_at "zz")))))
local macro_rules | `(tactic| walk_at "z") => `(tactic| ((repeat walk_at "z1"); try (first | with_reducible refine forL_id ?_ | with_reducible refine ret_id ?_ | with_reducible refine turn_id ?_ | with_reducible refine lcL_id ?_ | with_reducible refine ite_id ?_ | refine call_id ?_ | with_reducible refine opt_id ?_)))
local macro_rules | `(tactic| walk_at "zh") => `(tactic| first | rfl | assumption | omega | decide)
/-! ### a heap's last object -/
theorem nth_g {g : CH} {w : W} : nth (g ++ [w]) g.length = some w := by rw [nth_eq]; simp
theorem dr_g {g : CH} {w : W} : dr (g ++ [w]) (.ob g.length) = w := by unfold dr; dsimp only; rw [nth_g]
theorem ob_g {g : CH} {ws : List W} : obOf (g ++ [.lst ws]) (.ob g.length) = some (g.length, ws) := by
  unfold obOf
  dsimp only
  rw [nth_g]
theorem set_g {g : CH} {a w : W} : (g ++ [a]).set g.length w = g ++ [w] := by simp
/-- what can be walked, whatever comes behind -/
def Src (g : CH) (x : W) (as : List W) : Prop := ∃ o, ∀ more, iterW (g ++ more) x = some (o, as) ∧ stays (g ++ more) o as
theorem src_tup {g : CH} {as : List W} : Src g (.tup as) as := ⟨none, fun _ => ⟨rfl, trivial⟩⟩
theorem src_lst {g : CH} {as : List W} : Src g (.lst as) as := ⟨none, fun _ => ⟨rfl, trivial⟩⟩
theorem src_ob {g : CH} {as : List W} {n : Nat} (h : nth g n = some (.lst as)) : Src g (.ob n) as := ⟨some n, fun more => by
  have h2 : nth (g ++ more) n = some (.lst as) := by
    rw [nth_eq] at h ⊢
    obtain ⟨hl, e⟩ := List.getElem?_eq_some_iff.mp h
    rw [List.getElem?_append_left hl]; exact h
  refine ⟨?_, h2⟩
  unfold iterW
  simp only [h2]⟩
theorem src_g {g : CH} {as : List W} : Src (g ++ [.lst as]) (.ob g.length) as := src_ob nth_g
/-- a for over what may be tracked -/
theorem for_listO {α : Type} {gc : Bool} {e0 env : Env} {g0 : CH} {tt : T} {o : Option Nat} {body : Env → CH → Post → Prop} {as : List α} {wi : α → W} {P : Post} (I : Nat → Env → CH → Prop)
    (st : ∀ i e g, I i e g → stays g o (as.map wi))
    (hs : ∀ (i : Nat) (a : α) (k : Env → CH → Prop), as[i]? = some a → (∀ e g, I (i + 1) e g → k e g) → ∀ e g, I i e g → opt (asg tt (wi a) e) fun e1 => body e1 g (P.turn (turnEnd gc e0 g0 k)))
    (he : ∀ e g, I as.length e g → P.nx e g) (h0 : I 0 env g) : forL gc e0 g0 tt body o (as.map wi) (as.map wi) env g P := by
  refine for_inv I (fun i x k hx hk e g' h => ⟨st i e g' h, ?_⟩) (fun e g' h => ?_) h0
  · obtain ⟨a, ha, rfl⟩ := at_map hx
    exact hs i a k ha hk e g' h
  · rw [List.length_map] at h
    exact ⟨st _ e g' h, he e g' h⟩
theorem stays_none {g : CH} {xs : List W} : stays g none xs := trivial
/-! ### rows -/
def rows (n : Nat) (D : Nat → Amp) : List W := (List.range n).map fun y => (D y).w
def allOk (n : Nat) (D : Nat → Amp) : Prop := ∀ y, y < n → ok (D y)
instance {n : Nat} {D : Nat → Amp} : Decidable (allOk n D) := by unfold allOk; infer_instance
/-- divided by root 2 as often as it goes, s times at most -/
def red (n : Nat) : Nat → (Nat → Amp) → Nat × (Nat → Amp)
  | 0, D => (0, D)
  | s + 1, D => if allOk n D then red n s (fun y => hr (D y)) else (s + 1, D)
def keys (n : Nat) (D : Nat → Amp) : List Nat := (List.range n).filter fun y => decide (D y ≠ az)
def termW (D : Nat → Amp) (y : Nat) : W := .tup [.int y, (D y).w]
def terms (n : Nat) (D : Nat → Amp) : List W := (keys n D).map (termW D)
def vecW (n : Nat) (v : Nat × (Nat → Amp)) : W := .tup [.int v.1, .tup (terms n v.2)]
abbrev Pr := Nat × Amp
def pairW (p : Pr) : W := .tup [.int p.1, p.2.w]
def dstep (D : Nat → Amp) (p : Pr) : Nat → Amp := fun y => if y = p.1 then (D y).add p.2 else D y
/-- the rows that some pairs add up to -/
def dn (ps : List Pr) : Nat → Amp := ps.foldl dstep fun _ => az
theorem dn_snoc (ps : List Pr) (p : Pr) : dn (ps ++ [p]) = dstep (dn ps) p := by unfold dn; rw [List.foldl_append]; rfl
theorem dn_take {ps : List Pr} {i : Nat} {p : Pr} (h : ps[i]? = some p) : dn (ps.take (i + 1)) = dstep (dn (ps.take i)) p := by
  rw [List.take_succ, h]; exact dn_snoc _ _
theorem keys_mem {n y : Nat} {D : Nat → Amp} : y ∈ keys n D ↔ y < n ∧ D y ≠ az := by
  unfold keys
  rw [List.mem_filter, List.mem_range, decide_eq_true_eq]
theorem keys_congr {n : Nat} {D D' : Nat → Amp} (h : ∀ y, y < n → (D y = az ↔ D' y = az)) : keys n D = keys n D' := by
  unfold keys
  refine List.filter_congr fun y hy => ?_
  rw [decide_eq_decide]
  exact not_congr (h y (List.mem_range.mp hy))
theorem terms_congr {n : Nat} {D D' : Nat → Amp} (h : ∀ y, y < n → D y = D' y) : terms n D = terms n D' := by
  unfold terms
  rw [keys_congr (D' := D') fun y hy => by rw [h y hy]]
  refine List.map_congr_left fun y hy => ?_
  unfold termW
  rw [h y (keys_mem.mp hy).1]
theorem keys_hr {n : Nat} {D : Nat → Amp} (h : allOk n D) : keys n (fun y => hr (D y)) = keys n D := keys_congr fun y hy => hr_az (h y hy)
theorem allOk_keys {n : Nat} {D : Nat → Amp} (h : ∀ y ∈ keys n D, ok (D y)) : allOk n D := fun y hy => by
  by_cases e : D y = az
  · rw [e]; exact ok_az
  · exact h y (keys_mem.mpr ⟨hy, e⟩)
theorem keys_len (n : Nat) (D : Nat → Amp) : (keys n D).length ≤ n := by
  unfold keys
  exact Nat.le_trans (List.length_filter_le _ _) (by simp)
theorem termW_wf {m : Nat} {D : Nat → Amp} {y : Nat} : wf m (termW D y) = true := rfl
theorem terms_wf {m n : Nat} {D : Nat → Amp} : wfs m (terms n D) = true := wfs_mem fun x hx => by
  unfold terms at hx
  obtain ⟨y, _, rfl⟩ := List.mem_map.mp hx
  rfl
theorem red_zero {n : Nat} : ∀ {s : Nat} {D : Nat → Amp}, keys n D = [] → vecW n (red n s D) = .tup [.int 0, .tup []]
  | 0, D, h => by
    unfold vecW red terms
    rw [h]; rfl
  | s + 1, D, h => by
    have ha : allOk n D := allOk_keys (by rw [h]; intro y hy; cases hy)
    rw [red, if_pos ha]
    exact red_zero (by rw [keys_hr ha]; exact h)
theorem red_le {n : Nat} : ∀ {s : Nat} {D : Nat → Amp}, (red n s D).1 ≤ s
  | 0, D => Nat.le_refl _
  | s + 1, D => by
    rw [red]
    split
    · exact Nat.le_trans red_le (Nat.le_succ s)
    · exact Nat.le_refl _
theorem red_sz {n : Nat} {m : Int} : ∀ {s : Nat} {D : Nat → Amp}, (∀ y, Sz m (D y)) → ∀ y, Sz m ((red n s D).2 y)
  | 0, D, h => h
  | s + 1, D, h => by
    rw [red]
    split
    · exact red_sz fun y => (h y).hr
    · exact h
theorem nd_len {n : Nat} {B : List Nat} (nd : B.Nodup) (hn : ∀ y ∈ B, y < n) : B.length ≤ n := by
  have h : ((List.range n).filter fun y => decide (y ∈ B)).Perm B := by
    refine (List.perm_ext_iff_of_nodup (List.Pairwise.filter _ List.nodup_range) nd).mpr fun y => ?_
    rw [List.mem_filter, List.mem_range, decide_eq_true_eq]
    exact ⟨fun z => z.2, fun z => ⟨hn y z, z⟩⟩
  rw [← h.length_eq]
  exact Nat.le_trans (List.length_filter_le _ _) (by simp)
theorem ret_fzg {g rest : CH} {xs : List W} (hv : wfs g.length xs = true) (q : Q (.lst xs) g) : retEnd true g Q (.ob g.length) (g ++ (.lst xs :: rest)) :=
  ⟨.lst xs, g, .ob (Nat.le_refl _) (by rw [nth_eq]; simp) (fzs_same hv), ⟨rfl, by simp, fun i hi => .inl ⟨nth_app g _ i hi, rfl⟩⟩, q⟩
theorem eqv_amp (x y : Amp) : PyData.eqv (.tuple [.int x.a, .int x.b, .int x.c, .int x.d]) (.tuple [.int y.a, .int y.b, .int y.c, .int y.d]) = decide (x = y) := by
  have h := eqD_pln (g := []) (x := x.w) (y := y.w) rfl rfl x.pln y.pln (by decide)
  rw [Amp.beq] at h
  exact Option.some.inj (show some _ = some _ from h)
theorem eqv_az (x : Amp) : PyData.eqv (.tuple [.int x.a, .int x.b, .int x.c, .int x.d]) (.tuple [.int 0, .int 0, .int 0, .int 0]) = decide (x = az) := eqv_amp x az
/-! ### the program's vectors -/
theorem w_summed {n : Nat} {ps : List Pr} {x : W} (hx : Src g x (ps.map pairW)) (hn : n ≤ 32) (hp : ∀ p ∈ ps, p.1 < n) (k : Q (.lst (terms n (dn ps))) g) : wpC (codeT Ds) (d + 2) fsummed_up [x] g Q := by
  obtain ⟨o, hx⟩ := hx
  walk_at "zf"
  walk_at "zs"
  refine opt_i (hx _).1 ?_
  walk_at "zs"
  refine for_listO (fun i e g' => ∃ B y z, g' = g ++ [dctN B fun y => (dn (ps.take i) y).w] ∧ B.Nodup ∧ (∀ y ∈ B, y < n) ∧ (∀ y, y ∉ B → dn (ps.take i) y = az) ∧ e = [some x, some (.ob g.length), y, z]) (fun i e g' h => ?_) ?_ ?_ ⟨[], none, none, rfl, .nil, by simp, fun y _ => rfl, rfl⟩
  · obtain ⟨B, y, z, rfl, _⟩ := h
    exact (hx _).2
  · rintro i ⟨b, a⟩ k' hi hk _ _ ⟨B, y, z, rfl, nd, hB, hz, rfl⟩
    have hb : b < n := hp _ (List.mem_of_getElem? hi)
    have hl := nd_len nd hB
    have fin : ∀ w : Amp, (dn (ps.take i) b).add a = w → k' [some x, some (.ob g.length), some (.int b), some a.w] (g ++ [dctN (addK B b) fun y => if y = b then w.w else (dn (ps.take i) y).w]) := fun w hw => by
      refine hk _ _ ⟨addK B b, _, _, ?_, addK_nodup nd, fun y hy => ?_, fun y hy => ?_, rfl⟩
      · have e : (fun y => if y = b then w.w else (dn (ps.take i) y).w) = fun y => (dn (ps.take (i + 1)) y).w := by
          funext y
          rw [dn_take hi]
          unfold dstep
          dsimp only
          by_cases e : y = b
          · subst e; rw [if_pos rfl, if_pos rfl, hw]
          · rw [if_neg e, if_neg e]
        rw [e]
      · rcases addK_mem.mp hy with e | hy
        · rw [e]; exact hb
        · exact hB y hy
      · rw [dn_take hi]
        unfold dstep
        dsimp only
        rw [if_neg (fun e => hy (addK_mem.mpr (.inl e)))]
        exact hz y fun q => hy (addK_mem.mpr (.inr q))
    unfold pairW
    walk_at "zs"
    refine din_nat dr_g ?_
    rw [if_neg (by decide : ¬ false = true)]
    refine if_d (fun h => ?_) (fun h => ?_)
    · walk_at "zs"
      refine dix_nat dr_g h ?_
      walk_at "zs"
      refine w_plus ?_
      walk_at "zs"
      refine dob_nat nth_g ?_
      walk_at "zs"
      refine ⟨small (by rw [List.length_map]; omega), ?_⟩
      refine put_nat ?_
      walk_at "zs"
      rw [set_g]
      exact fin _ rfl
    · walk_at "zs"
      refine dob_nat nth_g ?_
      walk_at "zs"
      refine ⟨small (by rw [List.length_map]; omega), ?_⟩
      refine put_nat ?_
      walk_at "zs"
      rw [set_g]
      exact fin a (by rw [hz b h, add_az])
  · rintro _ _ ⟨B, y, z, rfl, nd, hB, hz, rfl⟩
    have hl := nd_len nd hB
    rw [List.take_length] at *
    walk_at "zs"
    refine opt_i (dctOf_nat dr_g) ?_
    refine opt_i (inlsOf_nat B) ?_
    refine ⟨by rw [List.length_map]; omega, ?_⟩
    rw [sort_nat nd hB]
    walk_at "zs"
    rw [List.map_map]
    refine lc_fm (wi := fun y : Nat => W.int y) (fun y => decide (dn ps y ≠ az)) (termW (dn ps)) (fun y hy acc kk h1 h2 => ?_) ?_
    · have hyB : y ∈ B := of_decide_eq_true (List.mem_filter.mp hy).2
      walk_at "zs"
      refine dix_nat dr_g hyB ?_
      walk_at "zs"
      rw [eqv_az (dn ps y)]
      refine if_n (fun h => ?_) (fun h => ?_)
      · walk_at "zs"
        refine dix_nat dr_g hyB ?_
        walk_at "zs"
        exact h1 (decide_eq_true h)
      · exact h2 (decide_eq_false fun z => z h)
    · walk_at "zs"
      have e : ((List.range n).filter fun y => decide (y ∈ B)).filter (fun y => decide (dn ps y ≠ az)) = keys n (dn ps) := by
        unfold keys
        rw [List.filter_filter]
        refine List.filter_congr fun y _ => ?_
        by_cases h : y ∈ B
        · simp [h]
        · simp [h, hz y h]
      rw [e]
      exact ret_gc0 (rest := [_]) (by show wfs _ _ = true; exact terms_wf (n := n) (D := dn ps)) k
theorem w_divided {n : Nat} {D : Nat → Amp} (hn : n ≤ 1000) (k : Q (if allOk n D then .lst (terms n fun y => hr (D y)) else .non) g) : wpC (codeT Ds) (d + 2) fdivided [.lst (terms n D)] g Q := by
  have hl := keys_len n D
  walk_at "zf"
  walk_at "zs"
  refine for_list (as := keys n D) (wi := termW D) (fun i e g' => ∃ y z v, g' = g ++ [.lst (((keys n D).take i).map (termW fun y => hr (D y)))] ∧ (∀ y ∈ (keys n D).take i, ok (D y)) ∧ e = [some (.lst (terms n D)), some (.ob g.length), y, z, v]) ?_ ?_ ⟨none, none, none, rfl, by simp, rfl⟩
  · rintro i b k' hi hk _ _ ⟨y, z, v, rfl, ho, rfl⟩
    have hlt : i < (keys n D).length := (List.getElem?_eq_some_iff.mp hi).1
    have e1 : (keys n D).take (i + 1) = (keys n D).take i ++ [b] := by rw [List.take_succ, hi]; rfl
    unfold termW
    walk_at "zs"
    refine w_unrooted (fun h => ?_) (fun h => ?_)
    · walk_at "zs"
      rw [if_neg (fun z : allOk n D => h (z b (keys_mem.mp (List.mem_of_getElem? hi)).1))] at k
      exact ret_gc0 (rest := [_]) rfl k
    · unfold Amp.w at *
      walk_at "zs"
      refine opt_i ob_g ?_
      walk_at "zs"
      refine opt_i ob_g ?_
      walk_at "zs"
      refine ⟨small (by rw [List.length_map, List.length_take]; omega), ?_⟩
      walk_at "zs"
      rw [set_g]
      refine hk _ _ ⟨_, _, _, ?_, fun y hy => ?_, rfl⟩
      · rw [e1, List.map_append]; rfl
      · rw [e1] at hy
        rcases List.mem_append.mp hy with hy | hy
        · exact ho y hy
        · rw [List.mem_singleton.mp hy]; exact h
  · rintro _ _ ⟨y, z, v, rfl, ho, rfl⟩
    rw [List.take_length] at *
    have ha : allOk n D := allOk_keys ho
    rw [if_pos ha] at k
    walk_at "zs"
    refine ret_fzg (rest := []) ?_ ?_
    · exact wfs_mem fun x hx => by
        obtain ⟨y, _, rfl⟩ := List.mem_map.mp hx
        rfl
    · unfold terms at k
      rw [keys_hr ha] at k
      exact k
end
end Z.K07
namespace Z.K07
open PySem PySem.Spec L2
open PyProof.Rows hiding St
section
variable {d : Nat} {g : CH} {Q : WK} {t : W}
local macro_rules | `(tactic| walk_at "zn") => `(tactic| dsimp only [List.set_cons_zero, List.set_cons_succ, zwipe0, zwipeS, zmap_cons, zmap_nil, zcons_app, znil_app, List.replicate_succ, List.replicate_zero, Nat.reduceSub, Int.reduceAdd, Int.reduceSub, Int.reduceNeg, Int.reduceMul, Int.reduceToNat, Int.reducePow, List.length_cons, List.length_nil, Nat.reduceAdd])
local macro_rules | `(tactic| walk_at "z0") => `(tactic| first
  | with_reducible refine nx_seq ?_
  | with_reducible refine nop_i ?_
  | with_reducible refine k_i ?_
  | with_reducible refine seq_i ?_
  | with_reducible refine reti ?_
  | with_reducible refine gl_i ?_
  | with_reducible refine anil_i ?_
  | with_reducible refine tnil_i ?_
  | with_reducible refine rt_seq ?_
  | with_reducible refine nx_turn ?_
  | with_reducible refine rt_turn ?_
  | with_reducible refine fn_rt ?_
  | with_reducible refine bk_seq ?_
  | with_reducible refine ct_seq ?_
  | with_reducible refine bk_turn ?_
  | with_reducible refine ct_turn ?_
  | with_reducible refine fn_nx ?_
  | ((with_reducible refine turn_id ?_); refine turn_ng ?_)
  | ((with_reducible refine ret_id ?_); refine ret_ng ?_)
  | ((with_reducible refine ite_id ?_); first | refine if_t rfl ?_ | refine if_f rfl ?_)
  | (refine opt_id ?_; first
    | (refine opt_asg rfl ?_; walk_at "zn")
    | (refine put_i ?_; walk_at "zn")
    | (refine add_i ?_; walk_at "zn")
    | with_reducible refine opt_eq ?_
    | ((with_reducible refine opt_pow ⟨by omega, by omega, by omega⟩ ?_); walk_at "zn")
    | with_reducible refine opt_ne ?_
    | with_reducible refine opt_slTo (by omega) ?_
    | with_reducible refine opt_slFrom (by omega) ?_
    | with_reducible refine opt_lslTo (by omega) ?_
    | refine opt_i rfl ?_
    | refine opt_mul (mulOk64 ⟨by omega, by omega⟩ ⟨by omega, by omega⟩) ?_
    | refine opt_mod (by omega) ?_
    | refine opt_shr (by omega) ?_
    | refine opt_fdiv (by constructor <;> first | decide | omega) ?_
    | refine opt_rng (by unfold rngOk; omega) ?_)
  | refine And.intro (Nat.le_of_ble_eq_true rfl) ?_
  | refine And.intro (by decide) ?_
  | refine And.intro (small (by first | omega | (dsimp only; omega))) ?_)
local macro_rules | `(tactic| walk_at "z1") => `(tactic| first
  | walk_at "z0"
  | ((with_reducible refine forL_id ?_); first | refine forL_cons ?_ | refine forL_nil ?_)
  | ((with_reducible refine lcL_id ?_); first | refine lcL_cons ?_ | refine lcL_nil ?_))
local macro_rules | `(tactic| walk_at "zs") => `(tactic| ((repeat walk_at "z0"); try (first | with_reducible refine forL_id ?_ | with_reducible refine lcL_id ?_)))
local macro_rules | `(tactic| walk_at "zf") => `(tactic| (refine fn_i rfl rfl rfl ?_; walk_at "zn"))
local macro_rules | `(tactic| walk_at "zi") => `(tactic| ((with_reducible refine ite_id ?_); first | refine if_d ?_ ?_ | refine if_n ?_ ?_))
local macro_rules | `(tactic| walk_at "zz") => `(tactic| (repeat walk_at "z1"; try ((walk_at "zi"; (all_goals intro _); (all_goals try (exfalso; omega)); (all_goals walk_at "zz")))))
local macro_rules | `(tactic| walk_at "z") => `(tactic| ((repeat walk_at "z1"); try (first | with_reducible refine forL_id ?_ | with_reducible refine ret_id ?_ | with_reducible refine turn_id ?_ | with_reducible refine lcL_id ?_ | with_reducible refine ite_id ?_ | refine call_id ?_ | with_reducible refine opt_id ?_)))
local macro_rules | `(tactic| walk_at "zh") => `(tactic| first | rfl | assumption | omega | decide)
/-! ### products -/
inductive Lt where | X | Y | Z
  deriving DecidableEq
def Lt.s : Lt → Str
  | .X => "X" | .Y => "Y" | .Z => "Z"
abbrev Prod := List (Nat × Lt)
def facW (f : Nat × Lt) : W := .tup [.int f.1, .str f.2.s]
def prodW (p : Prod) : W := .tup (p.map facW)
def flip (b q : Nat) : Nat := b ^^^ 2 ^ q
/-- where a product leads -/
def pl : Prod → Nat → Nat
  | [], b => b
  | (_, .Z) :: p, b => pl p b
  | (q, .X) :: p, b => pl p (flip b q)
  | (q, .Y) :: p, b => pl p (flip b q)
/-- how often it turns -/
def ta : Prod → Nat → Int
  | [], _ => 0
  | (q, .Z) :: p, b => (if b.testBit q then 4 else 0) + ta p b
  | (q, .X) :: p, b => 0 + ta p (flip b q)
  | (q, .Y) :: p, b => (if b.testBit q then 6 else 2) + ta p (flip b q)
def mask : Prod → Nat
  | [] => 0
  | (_, .Z) :: p => mask p
  | (q, .X) :: p => 2 ^ q ^^^ mask p
  | (q, .Y) :: p => 2 ^ q ^^^ mask p
theorem pl_eq : ∀ (p : Prod) (b : Nat), pl p b = b ^^^ mask p
  | [], b => by simp [pl, mask]
  | (q, .Z) :: p, b => by simp only [pl, mask]; exact pl_eq p b
  | (q, .X) :: p, b => by simp only [pl, mask, flip]; rw [pl_eq p, Nat.xor_assoc]
  | (q, .Y) :: p, b => by simp only [pl, mask, flip]; rw [pl_eq p, Nat.xor_assoc]
theorem pl_pl (p : Prod) (b : Nat) : pl p (pl p b) = b := by
  rw [pl_eq, pl_eq, Nat.xor_assoc, Nat.xor_self, Nat.xor_zero]
theorem pl_inj {p : Prod} {a b : Nat} (h : pl p a = pl p b) : a = b := by
  rw [← pl_pl p a, h, pl_pl]
theorem mask_lt {m : Nat} : ∀ {p : Prod}, (∀ f ∈ p, f.1 < m) → mask p < 2 ^ m
  | [], _ => Nat.pow_pos (by decide)
  | (q, .Z) :: p, h => by simp only [mask]; exact mask_lt fun f hf => h f (List.mem_cons_of_mem _ hf)
  | (q, .X) :: p, h => by
    simp only [mask]
    exact Nat.xor_lt_two_pow (Nat.pow_lt_pow_right (by decide) (h _ List.mem_cons_self)) (mask_lt fun f hf => h f (List.mem_cons_of_mem _ hf))
  | (q, .Y) :: p, h => by
    simp only [mask]
    exact Nat.xor_lt_two_pow (Nat.pow_lt_pow_right (by decide) (h _ List.mem_cons_self)) (mask_lt fun f hf => h f (List.mem_cons_of_mem _ hf))
theorem pl_lt {m : Nat} {p : Prod} {b : Nat} (h : ∀ f ∈ p, f.1 < m) (hb : b < 2 ^ m) : pl p b < 2 ^ m := by
  rw [pl_eq]
  exact Nat.xor_lt_two_pow hb (mask_lt h)
/-- what a product makes of rows, with some turns more -/
def act (s : Int) (p : Prod) (D : Nat → Amp) : Nat → Amp := fun y => tn (s + ta p (pl p y)) (D (pl p y))
/-! ### adding up pairs of unlike places -/
theorem fold_out {y : Nat} : ∀ {ps : List Pr} {D : Nat → Amp}, y ∉ ps.map (·.1) → ps.foldl dstep D y = D y
  | [], D, _ => rfl
  | p :: ps, D, h => by
    rw [List.map_cons, List.mem_cons, not_or] at h
    rw [List.foldl_cons, fold_out h.2]
    unfold dstep
    rw [if_neg h.1]
theorem fold_in {y : Nat} {x : Amp} : ∀ {ps : List Pr} {D : Nat → Amp}, (ps.map (·.1)).Nodup → (y, x) ∈ ps → ps.foldl dstep D y = (D y).add x
  | p :: ps, D, nd, h => by
    rw [List.map_cons, List.nodup_cons] at nd
    rw [List.foldl_cons]
    rcases List.mem_cons.mp h with e | h
    · rw [← e] at nd ⊢
      rw [fold_out nd.1]
      unfold dstep
      rw [if_pos rfl]
    · rw [fold_in nd.2 h]
      unfold dstep
      rw [if_neg (fun e => nd.1 (by rw [← e]; exact List.mem_map.mpr ⟨_, h, rfl⟩))]
def moved (n : Nat) (s : Int) (p : Prod) (D : Nat → Amp) : List Pr := (keys n D).map fun b => (pl p b, tn (s + ta p b) (D b))
theorem keys_nodup {n : Nat} {D : Nat → Amp} : (keys n D).Nodup := List.Pairwise.filter _ List.nodup_range
theorem dn_moved {m : Nat} {s : Int} {p : Prod} {D : Nat → Amp} (hp : ∀ f ∈ p, f.1 < m) {y : Nat} (hy : y < 2 ^ m) : dn (moved (2 ^ m) s p D) y = act s p D y := by
  have nd : ((moved (2 ^ m) s p D).map (·.1)).Nodup := by
    unfold moved
    rw [List.map_map]
    exact List.Pairwise.map _ (fun a b h e => h (pl_inj e)) keys_nodup
  unfold dn
  by_cases h : D (pl p y) = az
  · rw [fold_out]
    · unfold act
      exact ((tn_az _).mpr h).symm
    · intro hm
      unfold moved at hm
      rw [List.map_map] at hm
      obtain ⟨b, hb, e⟩ := List.mem_map.mp hm
      have e : pl p b = y := e
      rw [← e, pl_pl] at h
      exact (keys_mem.mp hb).2 h
  · have hk : pl p y ∈ keys (2 ^ m) D := keys_mem.mpr ⟨pl_lt hp hy, h⟩
    have := fold_in (D := fun _ => az) nd (y := y) (x := act s p D y) (by
      unfold moved
      refine List.mem_map.mpr ⟨pl p y, hk, ?_⟩
      rw [pl_pl]; rfl)
    rw [this, add_az]
theorem red_congr {n : Nat} : ∀ {s : Nat} {D D' : Nat → Amp}, (∀ y, y < n → D y = D' y) → (red n s D).1 = (red n s D').1 ∧ ∀ y, y < n → (red n s D).2 y = (red n s D').2 y
  | 0, D, D', h => ⟨rfl, h⟩
  | s + 1, D, D', h => by
    by_cases ha : allOk n D
    · have ha' : allOk n D' := fun y hy => by rw [← h y hy]; exact ha y hy
      rw [red, red, if_pos ha, if_pos ha']
      exact red_congr fun y hy => by rw [h y hy]
    · have ha' : ¬ allOk n D' := fun z => ha fun y hy => by rw [h y hy]; exact z y hy
      rw [red, red, if_neg ha, if_neg ha']
      exact ⟨rfl, h⟩
theorem vec_congr {n s : Nat} {D D' : Nat → Amp} (h : ∀ y, y < n → D y = D' y) : vecW n (red n s D) = vecW n (red n s D') := by
  obtain ⟨h1, h2⟩ := red_congr (s := s) h
  unfold vecW
  rw [h1, terms_congr h2]
/-! ### acting, then dividing -/
theorem act_ok {m : Nat} {s : Int} {p : Prod} {D : Nat → Amp} (hp : ∀ f ∈ p, f.1 < m) : allOk (2 ^ m) (act s p D) ↔ allOk (2 ^ m) D := by
  constructor
  · intro h y hy
    have := h (pl p y) (pl_lt hp hy)
    unfold act at this
    rw [ok_tn, pl_pl] at this
    exact this
  · intro h y hy
    unfold act
    rw [ok_tn]
    exact h _ (pl_lt hp hy)
theorem act_hr {m : Nat} {s : Int} {p : Prod} {D : Nat → Amp} (hp : ∀ f ∈ p, f.1 < m) (h : allOk (2 ^ m) D) : ∀ y, y < 2 ^ m → hr (act s p D y) = act s p (fun y => hr (D y)) y := fun y hy => by
  unfold act
  exact hr_tn (h _ (pl_lt hp hy)) _
/-- .. of what was divided, or of the whole: alike -/
theorem red_act {m : Nat} {s : Int} {p : Prod} (hp : ∀ f ∈ p, f.1 < m) : ∀ {k : Nat} {D : Nat → Amp}, vecW (2 ^ m) (red (2 ^ m) (red (2 ^ m) k D).1 (act s p (red (2 ^ m) k D).2)) = vecW (2 ^ m) (red (2 ^ m) k (act s p D))
  | 0, D => rfl
  | k + 1, D => by
    by_cases ha : allOk (2 ^ m) D
    · rw [show red (2 ^ m) (k + 1) D = red (2 ^ m) k (fun y => hr (D y)) from if_pos ha]
      rw [red_act hp, show red (2 ^ m) (k + 1) (act s p D) = red (2 ^ m) k (fun y => hr (act s p D y)) from if_pos ((act_ok hp).mpr ha)]
      exact vec_congr fun y hy => (act_hr hp ha y hy).symm
    · rw [show red (2 ^ m) (k + 1) D = (k + 1, D) from if_neg ha]
/-! ### the program: reduced, with_letter, moved_terms, apply_product -/
theorem w_reduced {n s : Nat} {ps : List Pr} {x : W} (hx : Src g x (ps.map pairW)) (hn : n ≤ 32) (hp : ∀ p ∈ ps, p.1 < n) (k : Q (vecW n (red n s (dn ps))) g) : wpC (codeT Ds) (d + 3) freduced [.int s, x] g Q := by
  walk_at "zf"
  walk_at "zs"
  refine w_summed hx hn hp ?_
  walk_at "zs"
  generalize dn ps = D at *
  refine if_b (fun h => ?_) (fun h => ?_)
  · walk_at "zs"
    have e : keys n D = [] := by
      cases hk : keys n D with
      | nil => rfl
      | cons a l => exact absurd h (by unfold terms; rw [hk]; simp)
    rw [red_zero e] at k
    exact k
  · walk_at "zs"
    refine while_i (fun m e g' => ∃ D' y, g' = g ∧ e = [some (.int m), some x, some (.lst (terms n D')), y] ∧ red n s D = red n m D') (fun m k' hk e' g' => ?_) s ⟨D, none, rfl, rfl, rfl⟩
    rintro ⟨D', y, rfl, rfl, hr⟩
    rw [hr] at k
    walk_at "zs"
    refine if_d (fun h0 => ?_) (fun h0 => ?_)
    · obtain ⟨m, rfl⟩ : ∃ j, m = j + 1 := ⟨m - 1, by omega⟩
      walk_at "zs"
      refine w_divided (by omega) ?_
      by_cases ha : allOk n D'
      · rw [if_pos ha]
        walk_at "zs"
        rw [show ((m + 1 : Nat) : Int) - 1 = (m : Int) by omega]
        refine hk m rfl _ _ ⟨_, _, rfl, rfl, ?_⟩
        rw [hr, red, if_pos ha]
      · rw [if_neg ha]
        walk_at "zs"
        rw [red, if_neg ha] at k
        exact k
    · have : m = 0 := by omega
      subst this
      walk_at "zs"
      exact k
theorem and_bit (b q : Nat) : Builtin.bitAnd (b : Int) (1 * 2 ^ q) = 0 ↔ b.testBit q = false := by
  have e : Builtin.bitAnd (b : Int) (1 * 2 ^ q) = ((b &&& 2 ^ q : Nat) : Int) := by
    rw [Int.one_mul, show (2 : Int) ^ q = ((2 ^ q : Nat) : Int) by push_cast; rfl]
    rfl
  rw [e]
  constructor
  · intro h
    have h : b &&& 2 ^ q = 0 := by omega
    have := congrArg (fun z => Nat.testBit z q) h
    simpa [Nat.testBit_and, Nat.testBit_two_pow] using this
  · intro h
    have : b &&& 2 ^ q = 0 := by
      apply Nat.eq_of_testBit_eq
      intro i
      rw [Nat.testBit_and, Nat.testBit_two_pow]
      by_cases hi : q = i
      · subst hi; rw [h]; simp
      · simp [hi]
    omega
theorem xor_bit (b q : Nat) : Builtin.bitXor (b : Int) (1 * 2 ^ q) = ((flip b q : Nat) : Int) := by
  have e : (1 : Int) * 2 ^ q = ((2 ^ q : Nat) : Int) := by push_cast; rw [Int.one_mul]
  rw [e, Bits.bitXor_pp (Int.natCast_nonneg _) (Int.natCast_nonneg _)]
  rfl
theorem w_with {b q : Nat} {l : Lt} (hq : q < 1000) (k : Q (.tup [.int (match l with | .Z => (b : Nat) | _ => (flip b q : Nat)), .int (match l with | .X => 0 | .Y => if b.testBit q then 6 else 2 | .Z => if b.testBit q then 4 else 0)]) g) : wpC (codeT Ds) (d + 1) fwith_letter [.int b, .int q, .str l.s] g Q := by
  have hs : shlOk 1 q := by
    unfold shlOk
    exact ⟨by omega, by show ((Nat.log2 1 : Nat) : Int) + (q : Int) < _; rw [show Nat.log2 1 = 0 by decide]; omega⟩
  cases l
  all_goals
    walk_at "zf"
    walk_at "z"
    refine opt_shl hs ?_
    walk_at "z"
    rw [show ((q : Int)).toNat = q from Int.toNat_natCast q]
    try rw [xor_bit]
  · walk_at "z"
    exact k
  · refine if_n (fun h => ?_) (fun h => ?_)
    · have hb : b.testBit q = true := by
        cases hb : b.testBit q with
        | true => rfl
        | false => exact absurd ((and_bit b q).mpr hb) h
      rw [hb] at k
      walk_at "z"
      exact k
    · rw [(and_bit b q).mp h] at k
      walk_at "z"
      exact k
  · refine if_n (fun h => ?_) (fun h => ?_)
    · have hb : b.testBit q = true := by
        cases hb : b.testBit q with
        | true => rfl
        | false => exact absurd ((and_bit b q).mpr hb) h
      rw [hb] at k
      walk_at "z"
      exact k
    · rw [(and_bit b q).mp h] at k
      walk_at "z"
      exact k
end
end Z.K07
namespace Z.K07
open PySem PySem.Spec L2
open PyProof.Rows hiding St
section
variable {d : Nat} {g : CH} {Q : WK} {t : W}
local macro_rules | `(tactic| walk_at "zn") => `(tactic| dsimp only [List.set_cons_zero, List.set_cons_succ, zwipe0, zwipeS, zmap_cons, zmap_nil, zcons_app, znil_app, List.replicate_succ, List.replicate_zero, Nat.reduceSub, Int.reduceAdd, Int.reduceSub, Int.reduceNeg, Int.reduceMul, Int.reduceToNat, Int.reducePow, List.length_cons, List.length_nil, Nat.reduceAdd])
local macro_rules | `(tactic| walk_at "z0") => `(tactic| first
  | with_reducible refine nx_seq ?_
  | with_reducible refine nop_i ?_
  | with_reducible refine k_i ?_
  | with_reducible refine seq_i ?_
  | with_reducible refine reti ?_
  | with_reducible refine gl_i ?_
  | with_reducible refine anil_i ?_
  | with_reducible refine tnil_i ?_
  | with_reducible refine rt_seq ?_
  | with_reducible refine nx_turn ?_
  | with_reducible refine rt_turn ?_
  | with_reducible refine fn_rt ?_
  | with_reducible refine bk_seq ?_
  | with_reducible refine ct_seq ?_
  | with_reducible refine bk_turn ?_
  | with_reducible refine ct_turn ?_
  | with_reducible refine fn_nx ?_
  | ((with_reducible refine turn_id ?_); refine turn_ng ?_)
  | ((with_reducible refine ret_id ?_); refine ret_ng ?_)
  | ((with_reducible refine ite_id ?_); first | refine if_t rfl ?_ | refine if_f rfl ?_)
  | (refine opt_id ?_; first
    | (refine opt_asg rfl ?_; walk_at "zn")
    | (refine put_i ?_; walk_at "zn")
    | (refine add_i ?_; walk_at "zn")
    | with_reducible refine opt_eq ?_
    | ((with_reducible refine opt_pow ⟨by omega, by omega, by omega⟩ ?_); walk_at "zn")
    | with_reducible refine opt_ne ?_
    | with_reducible refine opt_slTo (by omega) ?_
    | with_reducible refine opt_slFrom (by omega) ?_
    | with_reducible refine opt_lslTo (by omega) ?_
    | refine opt_i rfl ?_
    | refine opt_mul (mulOk64 ⟨by omega, by omega⟩ ⟨by omega, by omega⟩) ?_
    | refine opt_mod (by omega) ?_
    | refine opt_shr (by omega) ?_
    | refine opt_fdiv (by constructor <;> first | decide | omega) ?_
    | refine opt_rng (by unfold rngOk; omega) ?_)
  | refine And.intro (Nat.le_of_ble_eq_true rfl) ?_
  | refine And.intro (by decide) ?_
  | refine And.intro (small (by first | omega | (dsimp only; omega))) ?_)
local macro_rules | `(tactic| walk_at "z1") => `(tactic| first
  | walk_at "z0"
  | ((with_reducible refine forL_id ?_); first | refine forL_cons ?_ | refine forL_nil ?_)
  | ((with_reducible refine lcL_id ?_); first | refine lcL_cons ?_ | refine lcL_nil ?_))
local macro_rules | `(tactic| walk_at "zs") => `(tactic| ((repeat walk_at "z0"); try (first | with_reducible refine forL_id ?_ | with_reducible refine lcL_id ?_)))
local macro_rules | `(tactic| walk_at "zf") => `(tactic| (refine fn_i rfl rfl rfl ?_; walk_at "zn"))
local macro_rules | `(tactic| walk_at "zi") => `(tactic| ((with_reducible refine ite_id ?_); first | refine if_d ?_ ?_ | refine if_n ?_ ?_))
local macro_rules | `(tactic| walk_at "zz") => `(tactic| (repeat walk_at "z1"; try ((walk_at "zi"; (all_goals intro _); (all_goals try (exfalso; omega)); (all_goals walk_at "zz")))))
local macro_rules | `(tactic| walk_at "z") => `(tactic| ((repeat walk_at "z1"); try (first | with_reducible refine forL_id ?_ | with_reducible refine ret_id ?_ | with_reducible refine turn_id ?_ | with_reducible refine lcL_id ?_ | with_reducible refine ite_id ?_ | refine call_id ?_ | with_reducible refine opt_id ?_)))
local macro_rules | `(tactic| walk_at "zh") => `(tactic| first | rfl | assumption | omega | decide)
def sg (s : Int) : Int := if s = 1 then 0 else 4
theorem drop_at {α : Type} {xs : List α} {i : Nat} {x : α} (h : xs[i]? = some x) : xs.drop i = x :: xs.drop (i + 1) := by
  obtain ⟨hl, e⟩ := List.getElem?_eq_some_iff.mp h
  rw [List.drop_eq_getElem_cons hl, e]
theorem w_moved {n : Nat} {s : Int} {p : Prod} {D : Nat → Amp} (hn : n ≤ 1000) (hp : ∀ f ∈ p, f.1 < 1000) (k : Q (.lst ((moved n (sg s) p D).map pairW)) g) : wpC (codeT Ds) (d + 2) fmoved_terms [.tup (terms n D), .int s, prodW p] g Q := by
  have hl := keys_len n D
  have hml : (moved n (sg s) p D).length = (keys n D).length := by unfold moved; rw [List.length_map]
  unfold prodW
  walk_at "zf"
  walk_at "zs"
  refine for_list (as := keys n D) (wi := termW D) (fun i e g' => ∃ y1 y2 y3 y4 y5 y6 y7, g' = g ++ [.lst (((moved n (sg s) p D).take i).map pairW)] ∧ e = [some (.tup (terms n D)), some (.int s), some (.tup (p.map facW)), some (.ob g.length), y1, y2, y3, y4, y5, y6, y7]) ?_ ?_ ⟨none, none, none, none, none, none, none, rfl, rfl⟩
  · rintro i b k' hi hk _ _ ⟨y1, y2, y3, y4, y5, y6, y7, rfl, rfl⟩
    have hlt : i < (keys n D).length := (List.getElem?_eq_some_iff.mp hi).1
    have e1 : (moved n (sg s) p D)[i]? = some (pl p b, tn (sg s + ta p b) (D b)) := by
      unfold moved
      rw [List.getElem?_map, hi]; rfl
    have e2 : (moved n (sg s) p D).take (i + 1) = (moved n (sg s) p D).take i ++ [(pl p b, tn (sg s + ta p b) (D b))] := by rw [List.take_succ, e1]; rfl
    unfold termW
    walk_at "zs"
    refine if_d (fun hs => ?_) (fun hs => ?_)
    all_goals
      walk_at "zs"
      refine for_list (as := p) (wi := facW) (fun j e g' => ∃ (pc : Nat) (tc : Int) (z1 z2 z3 : Option W), g' = g ++ [.lst (((moved n (sg s) p D).take i).map pairW)] ∧ pl (p.drop j) pc = pl p b ∧ tc + ta (p.drop j) pc = sg s + ta p b ∧ e = [some (.tup (terms n D)), some (.int s), some (.tup (p.map facW)), some (.ob g.length), some (.int b), some (D b).w, some (.int tc), some (.int pc), z1, z2, z3]) ?_ ?_ ⟨b, _, _, _, _, rfl, rfl, by simp [sg, hs], rfl⟩
      · rintro j ⟨q, l⟩ kk hj hkk _ _ ⟨pc, tc, z1, z2, z3, rfl, h1, h2, rfl⟩
        rw [drop_at hj] at h1 h2
        unfold facW
        walk_at "z"
        refine w_with (hp _ (List.mem_of_getElem? hj)) ?_
        walk_at "z"
        cases l
        · exact hkk _ _ ⟨_, _, _, _, _, rfl, h1, by simp only [ta] at h2; rw [← h2]; dsimp only; omega, rfl⟩
        · exact hkk _ _ ⟨_, _, _, _, _, rfl, h1, by simp only [ta] at h2; rw [← h2]; dsimp only; omega, rfl⟩
        · exact hkk _ _ ⟨_, _, _, _, _, rfl, h1, by simp only [ta] at h2; rw [← h2]; dsimp only; omega, rfl⟩
      · rintro _ _ ⟨pc, tc, z1, z2, z3, rfl, h1, h2, rfl⟩
        rw [List.drop_length] at h1 h2
        simp only [pl, ta, Int.add_zero] at h1 h2
        subst h1 h2
        walk_at "zs"
        refine opt_i ob_g ?_
        walk_at "zs"
        refine w_turned ?_
        walk_at "zs"
        refine opt_i ob_g ?_
        walk_at "zs"
        refine ⟨small (by rw [List.length_map, List.length_take]; omega), ?_⟩
        walk_at "zs"
        rw [set_g]
        exact hk _ _ ⟨_, _, _, _, _, _, _, by rw [e2, List.map_append]; rfl, rfl⟩
  · rintro _ _ ⟨y1, y2, y3, y4, y5, y6, y7, rfl, rfl⟩
    rw [← hml, List.take_length]
    walk_at "z"
    refine ret_fzg (rest := []) ?_ k
    exact wfs_mem fun x hx => by
      obtain ⟨y, _, rfl⟩ := List.mem_map.mp hx
      rfl
theorem moved_lt {m : Nat} {s : Int} {p : Prod} {D : Nat → Amp} (hp : ∀ f ∈ p, f.1 < m) : ∀ q ∈ moved (2 ^ m) s p D, q.1 < 2 ^ m := fun q hq => by
  unfold moved at hq
  obtain ⟨b, hb, rfl⟩ := List.mem_map.mp hq
  exact pl_lt hp (keys_mem.mp hb).1
theorem two5 {m : Nat} (h : m ≤ 5) : 2 ^ m ≤ 32 := Nat.pow_le_pow_right (n := 2) (by decide) h
/-! ### pairs one behind another -/
theorem add_assoc' (x y z : Amp) : (x.add y).add z = x.add (y.add z) := by refine Amp.ext' ?_ ?_ ?_ ?_ <;> simp only [Amp.add] <;> omega
theorem add_az' (x : Amp) : x.add az = x := by refine Amp.ext' ?_ ?_ ?_ ?_ <;> simp only [Amp.add, az] <;> omega
theorem fold_add {y : Nat} : ∀ {ps : List Pr} {D : Nat → Amp}, ps.foldl dstep D y = (D y).add (dn ps y)
  | [], D => (add_az' _).symm
  | p :: ps, D => by
    unfold dn
    rw [List.foldl_cons, List.foldl_cons, fold_add, fold_add (D := dstep _ p)]
    rw [← add_assoc']
    congr 1
    unfold dstep
    by_cases h : y = p.1
    · rw [if_pos h, if_pos h, add_az]
    · rw [if_neg h, if_neg h, add_az']
theorem dn_append {ps qs : List Pr} {y : Nat} : dn (ps ++ qs) y = (dn ps y).add (dn qs y) := by
  unfold dn
  rw [List.foldl_append]
  exact fold_add
theorem dn_at {ps : List Pr} {y : Nat} {x : Amp} (nd : (ps.map (·.1)).Nodup) (h : (y, x) ∈ ps) : dn ps y = x := by
  unfold dn
  rw [fold_in nd h, add_az]
theorem dn_out {ps : List Pr} {y : Nat} (h : y ∉ ps.map (·.1)) : dn ps y = az := fold_out h
/-- pairs made of the keys, each where it stands -/
theorem dn_here {n y : Nat} {D : Nat → Amp} {f : Nat → Amp} (hf : ∀ y, D y = az → f y = az) (hy : y < n) : dn ((keys n D).map fun b => (b, f b)) y = f y := by
  have e : ((keys n D).map fun b => (b, f b)).map (·.1) = keys n D := by rw [List.map_map]; exact List.map_id _
  by_cases h : D y = az
  · rw [dn_out (by rw [e]; exact fun z => (keys_mem.mp z).2 h), hf y h]
  · exact dn_at (by rw [e]; exact keys_nodup) (List.mem_map.mpr ⟨y, keys_mem.mpr ⟨hy, h⟩, rfl⟩)
/-- .. led elsewhere -/
theorem dn_led {m y : Nat} {p : Prod} {D : Nat → Amp} {f : Nat → Amp} (hp : ∀ q ∈ p, q.1 < m) (hf : ∀ y, D y = az → f y = az) (hy : y < 2 ^ m) : dn ((keys (2 ^ m) D).map fun b => (pl p b, f b)) y = f (pl p y) := by
  have nd : (((keys (2 ^ m) D).map fun b => (pl p b, f b)).map (·.1)).Nodup := by
    rw [List.map_map]
    exact List.Pairwise.map _ (fun a b h e => h (pl_inj e)) keys_nodup
  by_cases h : D (pl p y) = az
  · rw [hf _ h]
    refine dn_out fun z => ?_
    rw [List.map_map] at z
    obtain ⟨b, hb, e⟩ := List.mem_map.mp z
    have e : pl p b = y := e
    rw [← e, pl_pl] at h
    exact (keys_mem.mp hb).2 h
  · exact dn_at nd (List.mem_map.mpr ⟨pl p y, keys_mem.mpr ⟨pl_lt hp hy, h⟩, by rw [pl_pl]⟩)
/-- what keeps dividing: of what was divided, or of the whole -/
theorem red_lin {n e : Nat} {L : (Nat → Amp) → Nat → Amp} (h1 : ∀ D, allOk n D → allOk n (L D)) (h2 : ∀ D, allOk n D → ∀ y, y < n → hr (L D y) = L (fun y => hr (D y)) y) :
    ∀ {k : Nat} {D : Nat → Amp}, vecW n (red n ((red n k D).1 + e) (L (red n k D).2)) = vecW n (red n (k + e) (L D))
  | 0, D => rfl
  | k + 1, D => by
    by_cases ha : allOk n D
    · rw [show red n (k + 1) D = red n k (fun y => hr (D y)) from if_pos ha]
      rw [red_lin h1 h2, show k + 1 + e = (k + e) + 1 by omega, show red n (k + e + 1) (L D) = red n (k + e) (fun y => hr (L D y)) from if_pos (h1 D ha)]
      exact vec_congr fun y hy => (h2 D ha y hy).symm
    · rw [show red n (k + 1) D = (k + 1, D) from if_neg ha]
theorem ok_add {x y : Amp} (h : ok x) (h2 : ok y) : ok (x.add y) := by unfold ok Amp.add at *; dsimp only; omega
theorem hr_add {x y : Amp} (h : ok x) (h2 : ok y) : hr (x.add y) = (hr x).add (hr y) := by
  unfold ok at *
  refine Amp.ext' ?_ ?_ ?_ ?_ <;> simp only [hr, Amp.add] <;> omega
theorem sub_tn (x : Amp) (k : Int) : x.sub (tn k x) = x.add (tn (k + 4) x) := by
  rw [show tn (k + 4) x = tn 4 (tn k x) by rw [tn_tn, Int.add_comm]]
  refine Amp.ext' ?_ ?_ ?_ ?_ <;> simp [tn, trn, r1, Amp.add, Amp.sub] <;> omega
/-- a phase -/
def phD (k : Int) (p : Prod) (D : Nat → Amp) : Nat → Amp := fun y => ((D y).add (tn k (D y))).add ((act 0 p D y).add (tn (k + 4) (act 0 p D y)))
/-- a part -/
def prD (s : Int) (p : Prod) (D : Nat → Amp) : Nat → Amp := fun y => (D y).add (act (sg s) p D y)
theorem ph_lin {m c e : Nat} {k : Int} {p : Prod} {D : Nat → Amp} (hp : ∀ f ∈ p, f.1 < m) : vecW (2 ^ m) (red (2 ^ m) ((red (2 ^ m) c D).1 + e) (phD k p (red (2 ^ m) c D).2)) = vecW (2 ^ m) (red (2 ^ m) (c + e) (phD k p D)) := by
  refine red_lin (fun D h y hy => ?_) (fun D h y hy => ?_)
  · have := (act_ok (s := 0) hp).mpr h y hy
    exact ok_add (ok_add (h y hy) ((ok_tn _ _).mpr (h y hy))) (ok_add this ((ok_tn _ _).mpr this))
  · have := (act_ok (s := 0) hp).mpr h y hy
    unfold phD
    rw [hr_add (ok_add (h y hy) ((ok_tn _ _).mpr (h y hy))) (ok_add this ((ok_tn _ _).mpr this)), hr_add (h y hy) ((ok_tn _ _).mpr (h y hy)), hr_add this ((ok_tn _ _).mpr this),
      hr_tn (h y hy), hr_tn this, act_hr hp h y hy]
theorem pr_lin {m c e : Nat} {s : Int} {p : Prod} {D : Nat → Amp} (hp : ∀ f ∈ p, f.1 < m) : vecW (2 ^ m) (red (2 ^ m) ((red (2 ^ m) c D).1 + e) (prD s p (red (2 ^ m) c D).2)) = vecW (2 ^ m) (red (2 ^ m) (c + e) (prD s p D)) := by
  refine red_lin (fun D h y hy => ?_) (fun D h y hy => ?_)
  · exact ok_add (h y hy) ((act_ok (s := sg s) hp).mpr h y hy)
  · unfold prD
    rw [hr_add (h y hy) ((act_ok (s := sg s) hp).mpr h y hy), act_hr hp h y hy]
/-! ### the program: apply_phase, project -/
def here (n : Nat) (D : Nat → Amp) (f : Nat → Amp) : List Pr := (keys n D).map fun b => (b, f b)
theorem dn_here' {n y : Nat} {D : Nat → Amp} {f : Nat → Amp} (hf : ∀ y, D y = az → f y = az) (hy : y < n) : dn (here n D f) y = f y := dn_here hf hy
theorem here_lt {n : Nat} {D f : Nat → Amp} : ∀ p ∈ here n D f, p.1 < n := fun p hp => by
  unfold here at hp
  obtain ⟨b, hb, rfl⟩ := List.mem_map.mp hp
  exact (keys_mem.mp hb).1
theorem here_map {n : Nat} {D f : Nat → Amp} : (keys n D).map (fun b : Nat => W.tup [.int b, (f b).w]) = (here n D f).map pairW := by unfold here; rw [List.map_map]; rfl
theorem here_terms {n : Nat} {D : Nat → Amp} : terms n D = (here n D D).map pairW := by unfold here terms; rw [List.map_map]; rfl
theorem here_len {n : Nat} {D f : Nat → Amp} : (here n D f).length ≤ n := by unfold here; rw [List.length_map]; exact keys_len n D
/-- .. of what moved, less its turn -/
def less (k : Int) (q : Pr) : Pr := (q.1, q.2.add (tn (k + 4) q.2))
theorem dn_less {m y : Nat} {k : Int} {p : Prod} {D : Nat → Amp} (hp : ∀ q ∈ p, q.1 < m) (hy : y < 2 ^ m) : dn ((moved (2 ^ m) 0 p D).map (less k)) y = (act 0 p D y).add (tn (k + 4) (act 0 p D y)) := by
  have e : (moved (2 ^ m) 0 p D).map (less k) = (keys (2 ^ m) D).map fun b => (pl p b, (fun b => (tn (0 + ta p b) (D b)).add (tn (k + 4) (tn (0 + ta p b) (D b)))) b) := by
    unfold moved
    rw [List.map_map]; rfl
  rw [e, dn_led (f := fun b => (tn (0 + ta p b) (D b)).add (tn (k + 4) (tn (0 + ta p b) (D b)))) hp (fun y h => ?_) hy]
  · rfl
  · rw [h]
    rw [(tn_az _).mpr rfl, (tn_az _).mpr rfl]; rfl
theorem w_aphase {m c : Nat} {k : Int} {p : Prod} {D : Nat → Amp} (hm : m ≤ 5) (hp : ∀ f ∈ p, f.1 < m) (kk : Q (vecW (2 ^ m) (red (2 ^ m) (c + 2) (phD k p D))) g) : wpC (codeT Ds) (d + 4) fapply_phase [vecW (2 ^ m) (c, D), .int k, prodW p] g Q := by
  have h5 := two5 hm
  have hml : (moved (2 ^ m) 0 p D).length ≤ 2 ^ m := by unfold moved; rw [List.length_map]; exact keys_len _ D
  have hhl := here_len (n := 2 ^ m) (D := D) (f := fun y => (D y).add (tn k (D y)))
  rw [show vecW (2 ^ m) (c, D) = .tup [.int c, .tup ((keys (2 ^ m) D).map (termW D))] from rfl]
  walk_at "zf"
  walk_at "zs"
  refine lc_map (as := keys (2 ^ m) D) (wi := termW D) (fun b : Nat => W.tup [.int b, ((D b).add (tn k (D b))).w]) (fun y hy kk h1 => ?_) ?_
  · unfold termW
    walk_at "zs"
    refine w_turned ?_
    walk_at "zs"
    refine w_plus ?_
    walk_at "zs"
    exact h1
  rw [here_map (f := fun b => (D b).add (tn k (D b)))]
  walk_at "zs"
  refine w_moved (by omega) (fun f hf => Nat.lt_of_lt_of_le (hp f hf) (by omega)) ?_
  rw [show sg 1 = 0 from rfl]
  walk_at "zs"
  refine for_list (as := moved (2 ^ m) 0 p D) (wi := pairW) (fun i e g' => ∃ z1 z2, g' = g ++ [.lst ((here (2 ^ m) D (fun y => (D y).add (tn k (D y))) ++ ((moved (2 ^ m) 0 p D).take i).map (less k)).map pairW)] ∧ e = [some (.tup [.int c, .tup ((keys (2 ^ m) D).map (termW D))]), some (.int k), some (prodW p), some (.int c), some (.tup ((keys (2 ^ m) D).map (termW D))), some (.ob g.length), z1, z2]) ?_ ?_ ⟨none, none, by rw [List.take_zero, List.map_nil, List.append_nil], rfl⟩
  · rintro i ⟨b, a⟩ k' hi hk _ _ ⟨z1, z2, rfl, rfl⟩
    have hlt : i < (moved (2 ^ m) 0 p D).length := (List.getElem?_eq_some_iff.mp hi).1
    unfold pairW
    walk_at "zs"
    refine opt_i ob_g ?_
    walk_at "zs"
    refine w_turned ?_
    walk_at "zs"
    refine w_minus ?_
    rw [sub_tn]
    walk_at "zs"
    refine opt_i ob_g ?_
    walk_at "zs"
    refine ⟨small (by rw [List.length_map, List.length_append, List.length_map, List.length_take]; omega), ?_⟩
    walk_at "zs"
    rw [set_g]
    refine hk _ _ ⟨_, _, ?_, rfl⟩
    rw [List.take_succ, hi]
    simp only [List.map_append, List.append_assoc]
    rfl
  · rintro _ _ ⟨z1, z2, rfl, rfl⟩
    rw [List.take_length]
    walk_at "zs"
    rw [show ((c : Int) + 2) = ((c + 2 : Nat) : Int) by omega]
    refine w_reduced (n := 2 ^ m) src_g h5 (fun q hq => ?_) ?_
    · rcases List.mem_append.mp hq with hq | hq
      · exact here_lt q hq
      · obtain ⟨r, hr, rfl⟩ := List.mem_map.mp hq
        exact moved_lt hp r hr
    · walk_at "zs"
      have e : ∀ y, y < 2 ^ m → dn (here (2 ^ m) D (fun y => (D y).add (tn k (D y))) ++ (moved (2 ^ m) 0 p D).map (less k)) y = phD k p D y := fun y hy => by
        rw [dn_append, dn_here' (fun y h => by rw [h, (tn_az _).mpr rfl]; rfl) hy, dn_less hp hy]; rfl
      refine ret_gc0 (rest := [_]) ?_ ?_
      · simp only [vecW, wf, wfs]
        exact Bool.and_eq_true_iff.mpr ⟨rfl, Bool.and_eq_true_iff.mpr ⟨terms_wf (n := 2 ^ m), rfl⟩⟩
      · rw [vec_congr (s := c + 2) e]
        exact kk
theorem w_project {m c : Nat} {s : Int} {p : Prod} {D : Nat → Amp} (hm : m ≤ 5) (hp : ∀ f ∈ p, f.1 < m) (kk : Q (vecW (2 ^ m) (red (2 ^ m) (c + 2) (prD s p D))) g) : wpC (codeT Ds) (d + 4) fproject [vecW (2 ^ m) (c, D), .int s, prodW p] g Q := by
  have h5 := two5 hm
  have hml : (moved (2 ^ m) (sg s) p D).length ≤ 2 ^ m := by unfold moved; rw [List.length_map]; exact keys_len _ D
  have hhl := here_len (n := 2 ^ m) (D := D) (f := D)
  rw [show vecW (2 ^ m) (c, D) = .tup [.int c, .tup (terms (2 ^ m) D)] from rfl]
  walk_at "zf"
  walk_at "zs"
  refine w_moved (by omega) (fun f hf => Nat.lt_of_lt_of_le (hp f hf) (by omega)) ?_
  rw [here_terms (D := D)]
  walk_at "zs"
  refine ⟨Nat.le_of_lt (small (by rw [List.length_map, List.length_map]; omega)), ?_⟩
  rw [← List.map_append]
  walk_at "zs"
  rw [show ((c : Int) + 2) = ((c + 2 : Nat) : Int) by omega]
  refine w_reduced (n := 2 ^ m) src_lst h5 (fun q hq => ?_) ?_
  · rcases List.mem_append.mp hq with hq | hq
    · exact here_lt q hq
    · exact moved_lt hp q hq
  · walk_at "zs"
    have e : ∀ y, y < 2 ^ m → dn (here (2 ^ m) D D ++ moved (2 ^ m) (sg s) p D) y = prD s p D y := fun y hy => by
      rw [dn_append, dn_here' (fun y h => h) hy, dn_moved hp hy]; rfl
    rw [vec_congr (s := c + 2) e]
    exact kk
end
end Z.K07
namespace Z.K07
open PySem PySem.Spec L2
open PyProof.Rows hiding St
section
variable {d : Nat} {g : CH} {Q : WK} {t : W}
local macro_rules | `(tactic| walk_at "zn") => `(tactic| dsimp only [List.set_cons_zero, List.set_cons_succ, zwipe0, zwipeS, zmap_cons, zmap_nil, zcons_app, znil_app, List.replicate_succ, List.replicate_zero, Nat.reduceSub, Int.reduceAdd, Int.reduceSub, Int.reduceNeg, Int.reduceMul, Int.reduceToNat, Int.reducePow, List.length_cons, List.length_nil, Nat.reduceAdd])
local macro_rules | `(tactic| walk_at "z0") => `(tactic| first
  | with_reducible refine nx_seq ?_
  | with_reducible refine nop_i ?_
  | with_reducible refine k_i ?_
  | with_reducible refine seq_i ?_
  | with_reducible refine reti ?_
  | with_reducible refine gl_i ?_
  | with_reducible refine anil_i ?_
  | with_reducible refine tnil_i ?_
  | with_reducible refine rt_seq ?_
  | with_reducible refine nx_turn ?_
  | with_reducible refine rt_turn ?_
  | with_reducible refine fn_rt ?_
  | with_reducible refine bk_seq ?_
  | with_reducible refine ct_seq ?_
  | with_reducible refine bk_turn ?_
  | with_reducible refine ct_turn ?_
  | with_reducible refine fn_nx ?_
  | ((with_reducible refine turn_id ?_); refine turn_ng ?_)
  | ((with_reducible refine ret_id ?_); refine ret_ng ?_)
  | ((with_reducible refine ite_id ?_); first | refine if_t rfl ?_ | refine if_f rfl ?_)
  | (refine opt_id ?_; first
    | (refine opt_asg rfl ?_; walk_at "zn")
    | (refine put_i ?_; walk_at "zn")
    | (refine add_i ?_; walk_at "zn")
    | with_reducible refine opt_eq ?_
    | ((with_reducible refine opt_pow ⟨by omega, by omega, by omega⟩ ?_); walk_at "zn")
    | with_reducible refine opt_ne ?_
    | with_reducible refine opt_slTo (by omega) ?_
    | with_reducible refine opt_slFrom (by omega) ?_
    | with_reducible refine opt_lslTo (by omega) ?_
    | refine opt_i rfl ?_
    | refine opt_mul (mulOk64 ⟨by omega, by omega⟩ ⟨by omega, by omega⟩) ?_
    | refine opt_mod (by omega) ?_
    | refine opt_shr (by omega) ?_
    | refine opt_fdiv (by constructor <;> first | decide | omega) ?_
    | refine opt_rng (by unfold rngOk; omega) ?_)
  | refine And.intro (Nat.le_of_ble_eq_true rfl) ?_
  | refine And.intro (by decide) ?_
  | refine And.intro (small (by first | omega | (dsimp only; omega))) ?_)
local macro_rules | `(tactic| walk_at "z1") => `(tactic| first
  | walk_at "z0"
  | ((with_reducible refine forL_id ?_); first | refine forL_cons ?_ | refine forL_nil ?_)
  | ((with_reducible refine lcL_id ?_); first | refine lcL_cons ?_ | refine lcL_nil ?_))
local macro_rules | `(tactic| walk_at "zs") => `(tactic| ((repeat walk_at "z0"); try (first | with_reducible refine forL_id ?_ | with_reducible refine lcL_id ?_)))
local macro_rules | `(tactic| walk_at "zf") => `(tactic| (refine fn_i rfl rfl rfl ?_; walk_at "zn"))
local macro_rules | `(tactic| walk_at "zi") => `(tactic| ((with_reducible refine ite_id ?_); first | refine if_d ?_ ?_ | refine if_n ?_ ?_))
local macro_rules | `(tactic| walk_at "zz") => `(tactic| (repeat walk_at "z1"; try ((walk_at "zi"; (all_goals intro _); (all_goals try (exfalso; omega)); (all_goals walk_at "zz")))))
local macro_rules | `(tactic| walk_at "z") => `(tactic| ((repeat walk_at "z1"); try (first | with_reducible refine forL_id ?_ | with_reducible refine ret_id ?_ | with_reducible refine turn_id ?_ | with_reducible refine lcL_id ?_ | with_reducible refine ite_id ?_ | refine call_id ?_ | with_reducible refine opt_id ?_)))
local macro_rules | `(tactic| walk_at "zh") => `(tactic| first | rfl | assumption | omega | decide)
/-! ### bits -/
def bitI (y q : Nat) : Int := if y.testBit q then 1 else 0
theorem bit_val (y q : Nat) : ((y : Int) / ((2 ^ q : Nat) : Int)) % 2 = bitI y q := by
  unfold bitI
  rw [Nat.testBit_eq_decide_div_mod_eq]
  have h : ((y / 2 ^ q : Nat) : Int) = (y : Int) / ((2 ^ q : Nat) : Int) := by push_cast; rfl
  rw [← h]
  by_cases e : y / 2 ^ q % 2 = 1
  · rw [decide_eq_true e, if_pos rfl]; omega
  · rw [decide_eq_false e, if_neg (by decide)]; omega
theorem flip_val : ∀ b < 32, ∀ q < 5, (flip b q : Int) = (b : Int) + ((2 ^ q : Nat) : Int) * (1 - 2 * bitI b q) := by decide +kernel
theorem flip_bit (b q i : Nat) : (flip b q).testBit i = (b.testBit i != decide (q = i)) := by
  unfold flip
  rw [Nat.testBit_xor, Nat.testBit_two_pow]
theorem flip_up {b q : Nat} (hb : b < 32) (hq : q < 5) (h : b.testBit q = false) : (b : Int) + 1 * 2 ^ q = (flip b q : Int) := by
  have := flip_val b hb q hq
  unfold bitI at this
  rw [h, if_neg (by decide)] at this
  rw [this, Int.one_mul]
  push_cast
  omega
theorem flip_down {b q : Nat} (hb : b < 32) (hq : q < 5) (h : b.testBit q = true) : (b : Int) - 1 * 2 ^ q = (flip b q : Int) := by
  have := flip_val b hb q hq
  unfold bitI at this
  rw [h, if_pos rfl] at this
  rw [this, Int.one_mul]
  push_cast
  omega
theorem flip_lt {b q m : Nat} (hb : b < 2 ^ m) (hq : q < m) : flip b q < 2 ^ m := Nat.xor_lt_two_pow hb (Nat.pow_lt_pow_right (by decide) hq)
theorem sh1 {q : Nat} (h : q < 1000) : shlOk 1 q := by
  unfold shlOk
  exact ⟨by omega, by show ((Nat.log2 1 : Nat) : Int) + (q : Int) < _; rw [show Nat.log2 1 = 0 by decide]; omega⟩
/-! ### the first that is so -/
def ft (P : Nat → Prop) [DecidablePred P] : Nat → Nat → Option Nat
  | 0, _ => none
  | n + 1, i => if P i then some i else ft P n (i + 1)
def optW : Option Nat → W
  | none => .non
  | some k => .int k
theorem ft_some {P : Nat → Prop} [DecidablePred P] : ∀ {n i : Nat}, ft P n i ≠ none ↔ ∃ k, i ≤ k ∧ k < i + n ∧ P k
  | 0, i => ⟨fun h => absurd rfl h, fun ⟨k, h1, h2, _⟩ => by omega⟩
  | n + 1, i => by
    rw [ft]
    by_cases h : P i
    · rw [if_pos h]
      exact ⟨fun _ => ⟨i, Nat.le_refl _, by omega, h⟩, fun _ => by simp⟩
    · rw [if_neg h, ft_some]
      exact ⟨fun ⟨k, h1, h2, h3⟩ => ⟨k, by omega, by omega, h3⟩, fun ⟨k, h1, h2, h3⟩ => ⟨k, by
        have : k ≠ i := fun e => h (by rw [← e]; exact h3)
        omega, by omega, h3⟩⟩
theorem ft_head {P : Nat → Prop} [DecidablePred P] : ∀ {n i : Nat}, (((List.range' i n).filter fun k => decide (P k)).map (fun k : Nat => W.int k) ++ [W.non])[0]? = some (optW (ft P n i))
  | 0, i => rfl
  | n + 1, i => by
    rw [List.range'_succ, ft]
    by_cases h : P i
    · rw [if_pos h, List.filter_cons_of_pos (by simpa using h)]; rfl
    · rw [if_neg h, List.filter_cons_of_neg (by simpa using h)]
      exact ft_head
/-- the first is the second, turned so often -/
def Tn (n : Nat) (A B : Nat → Amp) (k : Nat) : Prop := ∀ y, y < n → tn k (A y) = B y
instance {n : Nat} {A B : Nat → Amp} : DecidablePred (Tn n A B) := fun k => by unfold Tn; infer_instance
def tb (n : Nat) (A B : Nat × (Nat → Amp)) : Option Nat := if A.1 = B.1 then ft (Tn n A.2 B.2) 8 0 else none
theorem hr_inj {x y : Amp} (hx : ok x) (hy : ok y) : hr x = hr y ↔ x = y := by
  constructor
  · intro h
    rw [← root_hr hx, ← root_hr hy, h]
  · rintro rfl; rfl
theorem tn_red {n k : Nat} : ∀ {s : Nat} {A B : Nat → Amp}, Tn n A B k ↔ ((red n s A).1 = (red n s B).1 ∧ Tn n (red n s A).2 (red n s B).2 k)
  | 0, A, B => ⟨fun h => ⟨rfl, h⟩, fun h => h.2⟩
  | s + 1, A, B => by
    by_cases ha : allOk n A
    · by_cases hb : allOk n B
      · rw [red, red, if_pos ha, if_pos hb, ← tn_red]
        constructor
        · intro h y hy
          rw [← hr_tn (ha y hy), h y hy]
        · intro h y hy
          have h := h y hy
          rw [← hr_tn (ha y hy)] at h
          exact (hr_inj ((ok_tn _ _).mpr (ha y hy)) (hb y hy)).mp h
      · constructor
        · intro h
          refine absurd (fun y hy => ?_) hb
          rw [← h y hy]
          exact (ok_tn _ _).mpr (ha y hy)
        · intro h
          rw [red, red, if_pos ha, if_neg hb] at h
          have := red_le (n := n) (s := s) (D := fun y => hr (A y))
          rw [h.1] at this
          exact absurd this (by simp)
    · by_cases hb : allOk n B
      · constructor
        · intro h
          refine absurd (fun y hy => ?_) ha
          have := hb y hy
          rw [← h y hy] at this
          exact (ok_tn _ _).mp this
        · intro h
          rw [red, red, if_neg ha, if_pos hb] at h
          have := red_le (n := n) (s := s) (D := fun y => hr (B y))
          rw [← h.1] at this
          exact absurd this (by simp)
      · rw [red, red, if_neg ha, if_neg hb]
        exact ⟨fun h => ⟨rfl, h⟩, fun h => h.2⟩
theorem tb_red {n s : Nat} {A B : Nat → Amp} : tb n (red n s A) (red n s B) ≠ none ↔ ∃ k, k < 8 ∧ Tn n A B k := by
  unfold tb
  constructor
  · intro h
    by_cases e : (red n s A).1 = (red n s B).1
    · rw [if_pos e] at h
      obtain ⟨k, _, h2, h3⟩ := ft_some.mp h
      exact ⟨k, by omega, tn_red.mpr ⟨e, h3⟩⟩
    · rw [if_neg e] at h
      exact absurd rfl h
  · rintro ⟨k, h1, h2⟩
    obtain ⟨h3, h4⟩ := (tn_red (s := s)).mp h2
    rw [if_pos h3]
    exact ft_some.mpr ⟨k, Nat.zero_le _, by omega, h4⟩
theorem tb_ft {n s : Nat} {A B : Nat → Amp} : tb n (red n s A) (red n s B) ≠ none ↔ ft (Tn n A B) 8 0 ≠ none := by
  rw [tb_red, ft_some]
  exact ⟨fun ⟨k, h1, h2⟩ => ⟨k, Nat.zero_le _, by omega, h2⟩, fun ⟨k, _, h1, h2⟩ => ⟨k, by omega, h2⟩⟩
theorem keys_red {n : Nat} : ∀ {s : Nat} {D : Nat → Amp}, keys n (red n s D).2 = keys n D
  | 0, D => rfl
  | s + 1, D => by
    rw [red]
    split
    · rename_i h
      rw [keys_red, keys_hr h]
    · rfl
theorem beq_dec {x y : W} {P : Prop} [Decidable P] (h : x = y ↔ P) : W.beq x y = decide P := by
  by_cases p : P
  · rw [decide_eq_true p, h.mpr p, W.beq_refl]
  · rw [decide_eq_false p]
    cases q : W.beq x y with
    | false => rfl
    | true => exact absurd (h.mp (W.beq_ok q)) p
theorem Tn.keys {n k : Nat} {A B : Nat → Amp} (h : Tn n A B k) : keys n A = keys n B := keys_congr fun y hy => by rw [← h y hy, tn_az]
theorem w_between {n c1 c2 : Nat} {A B : Nat → Amp} (nz : keys n A ≠ []) (kk : Q (optW (tb n (c1, A) (c2, B))) g) : wpC (codeT Ds) (d + 2) fturn_between [vecW n (c1, A), vecW n (c2, B)] g Q := by
  unfold vecW tb at *
  dsimp only at kk
  walk_at "zf"
  walk_at "zs"
  refine if_n (fun h => ?_) (fun h => ?_)
  · walk_at "zs"
    rw [if_neg (by omega)] at kk
    exact kk
  have h : c1 = c2 := by omega
  rw [if_pos h] at kk
  walk_at "zs"
  refine lc_map (as := keys n A) (wi := termW A) (fun y => .int y) (fun y hy kk h1 => ?_) ?_
  · unfold termW
    walk_at "zs"
    exact h1
  walk_at "zs"
  refine lc_map (as := keys n B) (wi := termW B) (fun y => .int y) (fun y hy kk h1 => ?_) ?_
  · unfold termW
    walk_at "zs"
    exact h1
  walk_at "zs"
  have pk : ∀ D : Nat → Amp, pln 2 (.lst ((keys n D).map fun y : Nat => W.int y)) = true := fun D => by
    simp only [pln, List.all_eq_true]
    intro x hx
    obtain ⟨y, _, rfl⟩ := List.mem_map.mp hx
    rfl
  refine opt_neD (n := 2) rfl rfl (pk A) (pk B) (by decide) ?_
  have pe : W.lst ((keys n A).map fun y : Nat => W.int y) = .lst ((keys n B).map fun y : Nat => W.int y) ↔ keys n A = keys n B := by
    rw [W.lst.injEq]
    exact List.map_inj_right (fun a b e => by injection e with e; omega)
  rw [beq_dec pe]
  by_cases hk : keys n A = keys n B
  · rw [decide_eq_true hk]
    refine if_f rfl ?_
    walk_at "zs"
    obtain ⟨b, bs, hb⟩ : ∃ b bs, keys n A = b :: bs := by
      cases h : keys n A with
      | nil => exact absurd h nz
      | cons b bs => exact ⟨b, bs, rfl⟩
    have hA : (terms n A)[((0 : Int)).toNat]? = some (termW A b) := by unfold terms; rw [hb]; rfl
    have hB : (terms n B)[((0 : Int)).toNat]? = some (termW B b) := by unfold terms; rw [← hk, hb]; rfl
    obtain ⟨r, hr⟩ : ∃ r, ft (Tn n A B) 8 0 = r := ⟨_, rfl⟩
    rw [hr] at kk
    refine for_rng (fun i e g' => ∃ z1 z2, i ≤ 8 ∧ g' = g ∧ r = ft (Tn n A B) (8 - i) i ∧ e = [some (.tup [.int c1, .tup (terms n A)]), some (.tup [.int c2, .tup (terms n B)]), z1, z2]) ?_ ?_ ⟨none, none, by omega, rfl, hr.symm, rfl⟩
    · rintro i k' hi hk2 _ g ⟨z1, z2, hi8, rfl, hf, rfl⟩
      have hi : i < 8 := hi
      obtain ⟨j, hj⟩ : ∃ j, 8 - i = j + 1 := ⟨7 - i, by omega⟩
      have hj2 : 8 - (i + 1) = j := by omega
      have zi : (0 : Int) + (i : Int) = i := Int.zero_add _
      rw [hj2] at hk2
      rw [hj, ft] at hf
      have no : ¬ Tn n A B i → ∀ z1 z2, k' [some (.tup [.int c1, .tup (terms n A)]), some (.tup [.int c2, .tup (terms n B)]), z1, z2] g := fun h z1 z2 => by
        rw [if_neg h] at hf
        exact hk2 _ _ ⟨z1, z2, by omega, rfl, hf, rfl⟩
      walk_at "zs"
      refine opt_ixt (by omega) hA ?_
      unfold termW
      walk_at "zs"
      refine w_turned ?_
      rw [zi]
      walk_at "zs"
      refine opt_ixt (by omega) hB ?_
      unfold termW
      walk_at "zs"
      rw [eqv_amp (tn i (A b)) (B b)]
      refine if_b (fun h1 => ?_) (fun h1 => ?_)
      · walk_at "zs"
        refine lc_map (as := keys n A) (wi := termW A) (fun y => (tn i (A y)).w) (fun y hy kk h1 => ?_) ?_
        · unfold termW
          walk_at "zs"
          refine w_turned ?_
          exact h1
        walk_at "zs"
        refine lc_map (as := keys n B) (wi := termW B) (fun y => (B y).w) (fun y hy kk h1 => ?_) ?_
        · unfold termW
          walk_at "zs"
          exact h1
        walk_at "zs"
        have pk : ∀ D : Nat → Amp, pln 2 (.lst ((keys n A).map fun y => (D y).w)) = true := fun D => by
          simp only [pln, List.all_eq_true]
          intro x hx
          obtain ⟨y, _, rfl⟩ := List.mem_map.mp hx
          rfl
        rw [← hk]
        refine opt_eqD (n := 2) rfl rfl (pk fun y => tn i (A y)) (pk B) (by decide) ?_
        have pe : W.lst ((keys n A).map fun y => (tn i (A y)).w) = .lst ((keys n A).map fun y => (B y).w) ↔ Tn n A B i := by
          rw [W.lst.injEq, List.map_inj_left]
          have ai : ∀ x y : Amp, x.w = y.w ↔ x = y := fun x y => ⟨fun e => by
            have := Amp.beq x y
            rw [e, W.beq_refl] at this
            exact of_decide_eq_true this.symm, fun e => by rw [e]⟩
          constructor
          · intro h y hy
            by_cases e : A y = az
            · have hy2 : ¬ y ∈ keys n B := by rw [← hk]; exact fun z => (keys_mem.mp z).2 e
              have e2 : B y = az := Classical.byContradiction fun z => hy2 (keys_mem.mpr ⟨hy, z⟩)
              rw [e, e2]
              exact (tn_az _).mpr rfl
            · exact (ai _ _).mp (h y (keys_mem.mpr ⟨hy, e⟩))
          · intro h y hy
            exact (ai _ _).mpr (h y (keys_mem.mp hy).1)
        rw [beq_dec pe]
        refine if_b (fun h2 => ?_) (fun h2 => ?_)
        · walk_at "zs"
          have h2 : Tn n A B i := of_decide_eq_true h2
          rw [hf, if_pos h2] at kk
          exact kk
        · walk_at "zs"
          exact no (of_decide_eq_false (by simpa using h2)) _ _
      · walk_at "zs"
        refine no (fun h => ?_) _ _
        have hbn : b < n := (keys_mem.mp (show b ∈ keys n A by rw [hb]; exact List.mem_cons_self)).1
        have : decide (tn i (A b) = B b) = false := by simpa using h1
        exact of_decide_eq_false this (h b hbn)
    · rintro _ _ ⟨z1, z2, hi8, rfl, hf, rfl⟩
      walk_at "zs"
      rw [hf] at kk
      exact kk
  · rw [decide_eq_false hk]
    refine if_t rfl ?_
    walk_at "zs"
    have e : ft (Tn n A B) 8 0 = none := Classical.byContradiction fun z => by
      obtain ⟨k, _, _, h⟩ := ft_some.mp z
      exact hk h.keys
    rw [e] at kk
    exact kk
end
end Z.K07
namespace Z.K07
open PySem PySem.Spec L2
open PyProof.Rows hiding St
section
variable {d : Nat} {g : CH} {Q : WK} {t : W}
local macro_rules | `(tactic| walk_at "zn") => `(tactic| dsimp only [List.set_cons_zero, List.set_cons_succ, zwipe0, zwipeS, zmap_cons, zmap_nil, zcons_app, znil_app, List.replicate_succ, List.replicate_zero, Nat.reduceSub, Int.reduceAdd, Int.reduceSub, Int.reduceNeg, Int.reduceMul, Int.reduceToNat, Int.reducePow, List.length_cons, List.length_nil, Nat.reduceAdd])
local macro_rules | `(tactic| walk_at "z0") => `(tactic| first
  | with_reducible refine nx_seq ?_
  | with_reducible refine nop_i ?_
  | with_reducible refine k_i ?_
  | with_reducible refine seq_i ?_
  | with_reducible refine reti ?_
  | with_reducible refine gl_i ?_
  | with_reducible refine anil_i ?_
  | with_reducible refine tnil_i ?_
  | with_reducible refine rt_seq ?_
  | with_reducible refine nx_turn ?_
  | with_reducible refine rt_turn ?_
  | with_reducible refine fn_rt ?_
  | with_reducible refine bk_seq ?_
  | with_reducible refine ct_seq ?_
  | with_reducible refine bk_turn ?_
  | with_reducible refine ct_turn ?_
  | with_reducible refine fn_nx ?_
  | ((with_reducible refine turn_id ?_); refine turn_ng ?_)
  | ((with_reducible refine ret_id ?_); refine ret_ng ?_)
  | ((with_reducible refine ite_id ?_); first | refine if_t rfl ?_ | refine if_f rfl ?_)
  | (refine opt_id ?_; first
    | (refine opt_asg rfl ?_; walk_at "zn")
    | (refine put_i ?_; walk_at "zn")
    | (refine add_i ?_; walk_at "zn")
    | with_reducible refine opt_eq ?_
    | ((with_reducible refine opt_pow ⟨by omega, by omega, by omega⟩ ?_); walk_at "zn")
    | with_reducible refine opt_ne ?_
    | with_reducible refine opt_slTo (by omega) ?_
    | with_reducible refine opt_slFrom (by omega) ?_
    | with_reducible refine opt_lslTo (by omega) ?_
    | refine opt_i rfl ?_
    | refine opt_mul (mulOk64 ⟨by omega, by omega⟩ ⟨by omega, by omega⟩) ?_
    | refine opt_mod (by omega) ?_
    | refine opt_shr (by omega) ?_
    | refine opt_fdiv (by constructor <;> first | decide | omega) ?_
    | refine opt_rng (by unfold rngOk; omega) ?_)
  | refine And.intro (Nat.le_of_ble_eq_true rfl) ?_
  | refine And.intro (by decide) ?_
  | refine And.intro (small (by first | omega | (dsimp only; omega))) ?_)
local macro_rules | `(tactic| walk_at "z1") => `(tactic| first
  | walk_at "z0"
  | ((with_reducible refine forL_id ?_); first | refine forL_cons ?_ | refine forL_nil ?_)
  | ((with_reducible refine lcL_id ?_); first | refine lcL_cons ?_ | refine lcL_nil ?_))
local macro_rules | `(tactic| walk_at "zs") => `(tactic| ((repeat walk_at "z0"); try (first | with_reducible refine forL_id ?_ | with_reducible refine lcL_id ?_)))
local macro_rules | `(tactic| walk_at "zf") => `(tactic| (refine fn_i rfl rfl rfl ?_; walk_at "zn"))
local macro_rules | `(tactic| walk_at "zi") => `(tactic| ((with_reducible refine ite_id ?_); first | refine if_d ?_ ?_ | refine if_n ?_ ?_))
local macro_rules | `(tactic| walk_at "zz") => `(tactic| (repeat walk_at "z1"; try ((walk_at "zi"; (all_goals intro _); (all_goals try (exfalso; omega)); (all_goals walk_at "zz")))))
local macro_rules | `(tactic| walk_at "z") => `(tactic| ((repeat walk_at "z1"); try (first | with_reducible refine forL_id ?_ | with_reducible refine ret_id ?_ | with_reducible refine turn_id ?_ | with_reducible refine lcL_id ?_ | with_reducible refine ite_id ?_ | refine call_id ?_ | with_reducible refine opt_id ?_)))
local macro_rules | `(tactic| walk_at "zh") => `(tactic| first | rfl | assumption | omega | decide)
/-! ### the halves -/
def loD (q : Nat) (D : Nat → Amp) : Nat → Amp := fun y => if y.testBit q then az else D y
def upD (q : Nat) (D : Nat → Amp) : Nat → Amp := fun y => if y.testBit q then D y else az
def hiD (q : Nat) (D : Nat → Amp) : Nat → Amp := fun y => if y.testBit q then az else D (flip y q)
theorem lo_terms {n q : Nat} {D : Nat → Amp} : ((keys n D).filter fun y => !y.testBit q).map (termW D) = terms n (loD q D) := by
  unfold terms
  have e : (keys n D).filter (fun y => !y.testBit q) = keys n (loD q D) := by
    unfold keys
    rw [List.filter_filter]
    refine List.filter_congr fun y _ => ?_
    unfold loD
    cases y.testBit q <;> simp
  rw [e]
  refine List.map_congr_left fun y hy => ?_
  have := (keys_mem.mp hy).2
  unfold termW
  congr 3
  unfold loD at this ⊢
  cases h : y.testBit q
  · rw [if_neg (by decide)]
  · rw [h, if_pos rfl] at this
    exact absurd rfl this
def led (n : Nat) (p : Prod) (D f : Nat → Amp) : List Pr := (keys n D).map fun b => (pl p b, f b)
theorem led_lt {m : Nat} {p : Prod} {D f : Nat → Amp} (hp : ∀ q ∈ p, q.1 < m) : ∀ q ∈ led (2 ^ m) p D f, q.1 < 2 ^ m := fun q hq => by
  unfold led at hq
  obtain ⟨b, hb, rfl⟩ := List.mem_map.mp hq
  exact pl_lt hp (keys_mem.mp hb).1
theorem hi_terms {n q : Nat} {D : Nat → Amp} : ((keys n D).filter fun y => y.testBit q).map (fun y => W.tup [.int (flip y q), (D y).w]) = (led n [(q, .X)] (upD q D) (upD q D)).map pairW := by
  unfold led
  have e : (keys n D).filter (fun y => y.testBit q) = keys n (upD q D) := by
    unfold keys
    rw [List.filter_filter]
    refine List.filter_congr fun y _ => ?_
    unfold upD
    cases y.testBit q <;> simp
  rw [e, List.map_map]
  refine List.map_congr_left fun y hy => ?_
  have := (keys_mem.mp hy).2
  unfold upD at this
  have h : y.testBit q = true := Classical.byContradiction fun z => by
    rw [if_neg z] at this
    exact this rfl
  show _ = W.tup [.int (pl [(q, .X)] y), (upD q D y).w]
  unfold upD
  rw [if_pos h]; rfl
theorem hi_dn {m q y : Nat} {D : Nat → Amp} (hq : q < m) (hy : y < 2 ^ m) : dn (led (2 ^ m) [(q, .X)] (upD q D) (upD q D)) y = hiD q D y := by
  unfold led
  rw [dn_led (fun f hf => by rw [List.mem_singleton.mp hf]; exact hq) (fun y h => h) hy]
  show upD q D (flip y q) = _
  unfold upD hiD
  rw [flip_bit]
  cases y.testBit q <;> simp
/-- the one or two parts -/
def clrs (n q : Nat) (D : Nat → Amp) : List (Nat → Amp) :=
  if keys n (loD q D) = [] then [hiD q D] else
  if keys n (hiD q D) = [] then [loD q D] else
  if ft (Tn n (loD q D) (hiD q D)) 8 0 ≠ none then [fun y => root (loD q D y)] else
  [loD q D, hiD q D]
def clr (n s q : Nat) (D : Nat → Amp) : W := .tup ((clrs n q D).map fun D => vecW n (red n s D))
theorem lo_lin {n c q : Nat} {D : Nat → Amp} : vecW n (red n (red n c D).1 (loD q (red n c D).2)) = vecW n (red n c (loD q D)) := by
  refine red_lin (e := 0) (fun D h y hy => ?_) (fun D h y hy => ?_)
  · unfold loD
    split
    · exact ok_az
    · exact h y hy
  · unfold loD
    split
    · rfl
    · rfl
theorem hi_lin {m c q : Nat} {D : Nat → Amp} (hq : q < m) : vecW (2 ^ m) (red (2 ^ m) (red (2 ^ m) c D).1 (hiD q (red (2 ^ m) c D).2)) = vecW (2 ^ m) (red (2 ^ m) c (hiD q D)) := by
  refine red_lin (e := 0) (fun D h y hy => ?_) (fun D h y hy => ?_)
  · unfold hiD
    split
    · exact ok_az
    · exact h _ (flip_lt hy hq)
  · unfold hiD
    split
    · rfl
    · rfl
theorem ok_root (x : Amp) : ok (root x) := by unfold ok root; dsimp only; omega
theorem hr_root (x : Amp) : hr (root x) = x := by
  refine Amp.ext' ?_ ?_ ?_ ?_ <;> simp only [hr, root] <;> omega
theorem root_lin {n c : Nat} {D : Nat → Amp} : vecW n (red n (red n c D).1 (fun y => root ((red n c D).2 y))) = vecW n (red n c fun y => root (D y)) := by
  refine red_lin (e := 0) (L := fun D y => root (D y)) (fun D h y hy => ok_root _) (fun D h y hy => ?_)
  dsimp only
  rw [hr_root, root_hr (h y hy)]
theorem root_az {x : Amp} : root x = az ↔ x = az := by
  constructor
  · intro h
    rw [← hr_root x, h]; rfl
  · rintro rfl; rfl
theorem vec_eta {n : Nat} {v : Nat × (Nat → Amp)} : vecW n v = vecW n (v.1, v.2) := rfl
theorem w_cleared {m s q : Nat} {D : Nat → Amp} (hm : m ≤ 5) (hq : q < m) (kk : Q (clr (2 ^ m) s q D) g) : wpC (codeT Ds) (d + 4) fcleared [vecW (2 ^ m) (red (2 ^ m) s D), .int q] g Q := by
  have h5 := two5 hm
  have ll := lo_lin (n := 2 ^ m) (c := s) (q := q) (D := D)
  have hl := hi_lin (m := m) (c := s) (q := q) (D := D) hq
  generalize hcD : red (2 ^ m) s D = cD at *
  obtain ⟨c, D'⟩ := cD
  dsimp only at ll hl
  have hll := keys_len (2 ^ m) D'
  rw [show vecW (2 ^ m) (c, D') = .tup [.int c, .tup (terms (2 ^ m) D')] from rfl]
  walk_at "zf"
  walk_at "zs"
  refine opt_shl (sh1 (by omega)) ?_
  rw [show ((q : Int)).toNat = q from Int.toNat_natCast q]
  walk_at "zs"
  refine lc_fm (as := keys (2 ^ m) D') (wi := termW D') (fun y => !y.testBit q) (termW D') (fun y hy acc kk h1 h2 => ?_) ?_
  · unfold termW
    walk_at "zs"
    refine if_d (fun h => ?_) (fun h => ?_)
    · walk_at "zs"
      exact h1 (by rw [(and_bit y q).mp h]; rfl)
    · refine h2 ?_
      cases hb : y.testBit q
      · exact absurd ((and_bit y q).mpr hb) h
      · rfl
  rw [lo_terms, here_terms (D := loD q D')]
  walk_at "zs"
  refine w_reduced (n := 2 ^ m) src_lst h5 here_lt ?_
  rw [vec_congr (D' := loD q D') fun y hy => dn_here' (fun y h => h) hy, ll]
  walk_at "zs"
  refine lc_fm (as := keys (2 ^ m) D') (wi := termW D') (fun y => y.testBit q) (fun y => W.tup [.int (flip y q), (D' y).w]) (fun y hy acc kk h1 h2 => ?_) ?_
  · have hy2 := (keys_mem.mp hy).1
    unfold termW
    walk_at "zs"
    refine if_n (fun h => ?_) (fun h => ?_)
    · have hb : y.testBit q = true := by
        cases hb : y.testBit q
        · exact absurd ((and_bit y q).mpr hb) h
        · rfl
      walk_at "zs"
      rw [flip_down (by omega) (by omega) hb]
      exact h1 hb
    · exact h2 ((and_bit y q).mp h)
  rw [hi_terms]
  walk_at "zs"
  refine w_reduced (n := 2 ^ m) src_lst h5 (led_lt fun f hf => by rw [List.mem_singleton.mp hf]; exact hq) ?_
  rw [vec_congr (D' := hiD q D') fun y hy => hi_dn hq hy, hl]
  walk_at "zs"
  unfold clr clrs at kk
  have ee : ∀ A : Nat → Amp, (terms (2 ^ m) (red (2 ^ m) s A).2).isEmpty = (keys (2 ^ m) A).isEmpty := fun A => by
    unfold terms
    rw [List.isEmpty_map, keys_red]
  have ef : ∀ A : Nat → Amp, keys (2 ^ m) A ≠ [] → (keys (2 ^ m) A).isEmpty = false := fun A h => by
    cases hk : keys (2 ^ m) A with
    | nil => exact absurd hk h
    | cons => rfl
  by_cases h1 : keys (2 ^ m) (loD q D) = []
  · refine if_t (by rw [ee, h1]; rfl) ?_
    walk_at "zs"
    rw [if_pos h1] at kk
    exact kk
  refine if_f (by rw [ee, ef _ h1]; rfl) ?_
  rw [if_neg h1] at kk
  walk_at "zs"
  by_cases h2 : keys (2 ^ m) (hiD q D) = []
  · refine if_t (by rw [ee, h2]; rfl) ?_
    walk_at "zs"
    rw [if_pos h2] at kk
    exact kk
  refine if_f (by rw [ee, ef _ h2]; rfl) ?_
  rw [if_neg h2] at kk
  walk_at "zs"
  refine w_between (A := (red (2 ^ m) s (loD q D)).2) (B := (red (2 ^ m) s (hiD q D)).2) (c1 := (red (2 ^ m) s (loD q D)).1) (c2 := (red (2 ^ m) s (hiD q D)).1) (by rw [keys_red]; exact h1) ?_
  have tf := tb_ft (n := 2 ^ m) (s := s) (A := loD q D) (B := hiD q D)
  cases ht : tb (2 ^ m) ((red (2 ^ m) s (loD q D)).1, (red (2 ^ m) s (loD q D)).2) ((red (2 ^ m) s (hiD q D)).1, (red (2 ^ m) s (hiD q D)).2) with
  | none =>
    rw [if_neg (fun z => tf.mpr z ht)] at kk
    walk_at "zs"
    exact kk
  | some k =>
    rw [if_pos (tf.mp (fun z => by rw [show tb (2 ^ m) (red (2 ^ m) s (loD q D)) (red (2 ^ m) s (hiD q D)) = some k from ht] at z; cases z))] at kk
    walk_at "zs"
    refine lc_map (as := keys (2 ^ m) (red (2 ^ m) s (loD q D)).2) (wi := termW (red (2 ^ m) s (loD q D)).2) (fun b : Nat => W.tup [.int b, (root ((red (2 ^ m) s (loD q D)).2 b)).w]) (fun y hy kk h1 => ?_) ?_
    · unfold termW
      walk_at "zs"
      refine w_rooted ?_
      walk_at "zs"
      exact h1
    rw [here_map (f := fun b => root ((red (2 ^ m) s (loD q D)).2 b))]
    walk_at "zs"
    refine w_reduced (n := 2 ^ m) src_lst h5 here_lt ?_
    rw [vec_congr (D := dn (here (2 ^ m) (red (2 ^ m) s (loD q D)).2 fun b => root ((red (2 ^ m) s (loD q D)).2 b))) (D' := fun b => root ((red (2 ^ m) s (loD q D)).2 b)) fun y hy => dn_here' (fun y h => by rw [h]; rfl) hy, root_lin]
    walk_at "zs"
    exact kk
theorem w_magic {m c q : Nat} {D : Nat → Amp} (hm : m ≤ 5) (hq : q < m) (hz : ∀ y, y < 2 ^ m → y.testBit q = true → D y = az) (kk : Q (vecW (2 ^ m) (red (2 ^ m) (c + 1) (fun y => (D y).add (tn 1 (act 0 [(q, .X)] D y))))) g) : wpC (codeT Ds) (d + 4) fmagic_made [vecW (2 ^ m) (c, D), .int q] g Q := by
  have h5 := two5 hm
  have hll := keys_len (2 ^ m) D
  have hp : ∀ f ∈ ([(q, .X)] : Prod), f.1 < m := fun f hf => by rw [List.mem_singleton.mp hf]; exact hq
  rw [show vecW (2 ^ m) (c, D) = .tup [.int c, .tup (terms (2 ^ m) D)] from rfl]
  walk_at "zf"
  walk_at "zs"
  refine opt_shl (sh1 (by omega)) ?_
  rw [show ((q : Int)).toNat = q from Int.toNat_natCast q]
  walk_at "zs"
  refine for_list (as := keys (2 ^ m) D) (wi := termW D) (fun i e g' => ∃ z1 z2, g' = g ++ [.lst ((here (2 ^ m) D D ++ (led (2 ^ m) [(q, .X)] D (fun y => tn 1 (D y))).take i).map pairW)] ∧ e = [some (.tup [.int c, .tup (terms (2 ^ m) D)]), some (.int q), some (.int c), some (.tup (terms (2 ^ m) D)), some (.int (1 * 2 ^ q)), some (.ob g.length), z1, z2]) ?_ ?_ ⟨none, none, by rw [List.take_zero, List.append_nil, ← here_terms], rfl⟩
  · rintro i b k' hi hk _ _ ⟨z1, z2, rfl, rfl⟩
    have hlt : i < (keys (2 ^ m) D).length := (List.getElem?_eq_some_iff.mp hi).1
    have hbk := keys_mem.mp (List.mem_of_getElem? hi)
    have hb : b.testBit q = false := by
      cases h : b.testBit q
      · rfl
      · exact absurd (hz b hbk.1 h) hbk.2
    have hle := here_len (n := 2 ^ m) (D := D) (f := D)
    unfold termW
    walk_at "zs"
    refine opt_i ob_g ?_
    walk_at "zs"
    refine w_turned ?_
    walk_at "zs"
    refine opt_i ob_g ?_
    walk_at "zs"
    refine ⟨small (by rw [List.length_map, List.length_append, List.length_take]; omega), ?_⟩
    walk_at "zs"
    rw [set_g, flip_up (by omega) (by omega) hb]
    refine hk _ _ ⟨_, _, ?_, rfl⟩
    have e : (led (2 ^ m) [(q, .X)] D fun y => tn 1 (D y))[i]? = some (flip b q, tn 1 (D b)) := by
      unfold led
      rw [List.getElem?_map, hi]; rfl
    rw [List.take_succ, e]
    simp only [List.map_append, List.append_assoc]
    rfl
  · rintro _ _ ⟨z1, z2, rfl, rfl⟩
    rw [show (keys (2 ^ m) D).length = (led (2 ^ m) [(q, .X)] D fun y => tn 1 (D y)).length by unfold led; rw [List.length_map], List.take_length]
    walk_at "zs"
    rw [show ((c : Int) + 1) = ((c + 1 : Nat) : Int) by omega]
    refine w_reduced (n := 2 ^ m) src_g h5 (fun q hq => ?_) ?_
    · rcases List.mem_append.mp hq with hq | hq
      · exact here_lt q hq
      · exact led_lt hp q hq
    · walk_at "zs"
      have e : ∀ y, y < 2 ^ m → dn (here (2 ^ m) D D ++ led (2 ^ m) [(q, .X)] D fun y => tn 1 (D y)) y = (D y).add (tn 1 (act 0 [(q, .X)] D y)) := fun y hy => by
        unfold led
        rw [dn_append, dn_here' (fun y h => h) hy, dn_led hp (fun y h => by rw [h]; rfl) hy]; rfl
      refine ret_gc0 (rest := [_]) ?_ ?_
      · simp only [vecW, wf, wfs]
        exact Bool.and_eq_true_iff.mpr ⟨rfl, Bool.and_eq_true_iff.mpr ⟨terms_wf (n := 2 ^ m), rfl⟩⟩
      · rw [vec_congr (s := c + 1) e]
        exact kk
end
end Z.K07
namespace Z.K07
open PySem PySem.Spec L2
open PyProof.Rows hiding St
section
variable {d : Nat} {g : CH} {Q : WK} {t : W}
local macro_rules | `(tactic| walk_at "zn") => `(tactic| dsimp only [List.set_cons_zero, List.set_cons_succ, zwipe0, zwipeS, zmap_cons, zmap_nil, zcons_app, znil_app, List.replicate_succ, List.replicate_zero, Nat.reduceSub, Int.reduceAdd, Int.reduceSub, Int.reduceNeg, Int.reduceMul, Int.reduceToNat, Int.reducePow, List.length_cons, List.length_nil, Nat.reduceAdd])
local macro_rules | `(tactic| walk_at "z0") => `(tactic| first
  | with_reducible refine nx_seq ?_
  | with_reducible refine nop_i ?_
  | with_reducible refine k_i ?_
  | with_reducible refine seq_i ?_
  | with_reducible refine reti ?_
  | with_reducible refine gl_i ?_
  | with_reducible refine anil_i ?_
  | with_reducible refine tnil_i ?_
  | with_reducible refine rt_seq ?_
  | with_reducible refine nx_turn ?_
  | with_reducible refine rt_turn ?_
  | with_reducible refine fn_rt ?_
  | with_reducible refine bk_seq ?_
  | with_reducible refine ct_seq ?_
  | with_reducible refine bk_turn ?_
  | with_reducible refine ct_turn ?_
  | with_reducible refine fn_nx ?_
  | ((with_reducible refine turn_id ?_); refine turn_ng ?_)
  | ((with_reducible refine ret_id ?_); refine ret_ng ?_)
  | ((with_reducible refine ite_id ?_); first | refine if_t rfl ?_ | refine if_f rfl ?_)
  | (refine opt_id ?_; first
    | (refine opt_asg rfl ?_; walk_at "zn")
    | (refine put_i ?_; walk_at "zn")
    | (refine add_i ?_; walk_at "zn")
    | with_reducible refine opt_eq ?_
    | ((with_reducible refine opt_pow ⟨by omega, by omega, by omega⟩ ?_); walk_at "zn")
    | with_reducible refine opt_ne ?_
    | with_reducible refine opt_slTo (by omega) ?_
    | with_reducible refine opt_slFrom (by omega) ?_
    | with_reducible refine opt_lslTo (by omega) ?_
    | refine opt_i rfl ?_
    | refine opt_mul (mulOk64 ⟨by omega, by omega⟩ ⟨by omega, by omega⟩) ?_
    | refine opt_mod (by omega) ?_
    | refine opt_shr (by omega) ?_
    | refine opt_fdiv (by constructor <;> first | decide | omega) ?_
    | refine opt_rng (by unfold rngOk; omega) ?_)
  | refine And.intro (Nat.le_of_ble_eq_true rfl) ?_
  | refine And.intro (by decide) ?_
  | refine And.intro (small (by first | omega | (dsimp only; omega))) ?_)
local macro_rules | `(tactic| walk_at "z1") => `(tactic| first
  | walk_at "z0"
  | ((with_reducible refine forL_id ?_); first | refine forL_cons ?_ | refine forL_nil ?_)
  | ((with_reducible refine lcL_id ?_); first | refine lcL_cons ?_ | refine lcL_nil ?_))
local macro_rules | `(tactic| walk_at "zs") => `(tactic| ((repeat walk_at "z0"); try (first | with_reducible refine forL_id ?_ | with_reducible refine lcL_id ?_)))
local macro_rules | `(tactic| walk_at "zf") => `(tactic| (refine fn_i rfl rfl rfl ?_; walk_at "zn"))
local macro_rules | `(tactic| walk_at "zi") => `(tactic| ((with_reducible refine ite_id ?_); first | refine if_d ?_ ?_ | refine if_n ?_ ?_))
local macro_rules | `(tactic| walk_at "zz") => `(tactic| (repeat walk_at "z1"; try ((walk_at "zi"; (all_goals intro _); (all_goals try (exfalso; omega)); (all_goals walk_at "zz")))))
local macro_rules | `(tactic| walk_at "z") => `(tactic| ((repeat walk_at "z1"); try (first | with_reducible refine forL_id ?_ | with_reducible refine ret_id ?_ | with_reducible refine turn_id ?_ | with_reducible refine lcL_id ?_ | with_reducible refine ite_id ?_ | refine call_id ?_ | with_reducible refine opt_id ?_)))
local macro_rules | `(tactic| walk_at "zh") => `(tactic| first | rfl | assumption | omega | decide)
/-! ### the law's vectors -/
def dvecW (n : Nat) (s : Nat) (D : Nat → Amp) : W := .tup [.int s, .lst (rows n D)]
theorem rows_len (n : Nat) (D : Nat → Amp) : (rows n D).length = n := by simp [rows]
theorem rows_at {n i : Nat} {D : Nat → Amp} (h : i < n) : (rows n D)[i]? = some (D i).w := by simp [rows, h]
theorem rows_wf {m n : Nat} {D : Nat → Amp} : wfs m (rows n D) = true := wfs_mem fun x hx => by
  unfold rows at hx
  obtain ⟨y, _, rfl⟩ := List.mem_map.mp hx
  rfl
theorem rows_congr {n : Nat} {D D' : Nat → Amp} (h : ∀ y, y < n → D y = D' y) : rows n D = rows n D' := by
  unfold rows
  exact List.map_congr_left fun y hy => by rw [h y (List.mem_range.mp hy)]
theorem opt_ixd {g : CH} {x : W} {xs : List W} {i : Int} {v : W} {R : W → Prop} (hx : dr g x = .lst xs) (h0 : 0 ≤ i) (h : xs[i.toNat]? = some v) (q : R v) : opt (ixW g x (.int i)) R := by
  refine ⟨v, ?_, q⟩
  unfold ixW
  rw [hx]
  exact atI_nat h0 h
theorem opt_lend {g : CH} {x : W} {xs : List W} {R : W → Prop} (hx : dr g x = .lst xs) (q : R (.int xs.length)) : opt (u1W g .len x) R := by
  refine ⟨_, ?_, q⟩
  show (match dr g x with | W.tup xs => some (W.int xs.length) | W.lst xs => some (W.int xs.length) | W.str x => some (.int x.length) | _ => none) = _
  rw [hx]
theorem opt_neNil {g : CH} {xs : List W} {R : Bool → Prop} (h : ∀ x ∈ xs, pln 1 x = true) (q : R (!xs.isEmpty)) : opt (cop g .ne (.lst xs) (.lst [])) R := by
  refine opt_neD (n := 2) rfl rfl ?_ rfl (by decide) ?_
  · simp only [pln, List.all_eq_true]
    exact h
  · have e : W.beq (.lst xs) (.lst []) = xs.isEmpty := by cases xs <;> rfl
    rw [e]
    exact q
theorem opt_eqNil {g : CH} {xs : List W} {R : Bool → Prop} (h : ∀ x ∈ xs, pln 1 x = true) (q : R xs.isEmpty) : opt (cop g .eq (.lst xs) (.lst [])) R := by
  refine opt_eqD (n := 2) rfl rfl ?_ rfl (by decide) ?_
  · simp only [pln, List.all_eq_true]
    exact h
  · have e : W.beq (.lst xs) (.lst []) = xs.isEmpty := by cases xs <;> rfl
    rw [e]
    exact q
theorem w_told {n s : Nat} {D : Nat → Amp} (hs : s ≤ 1000) (hn : n ≤ 1000) (k : Q (vecW n (red n s D)) g) : wpC (codeT Ds) (d + 4) f_law_vec_told [dvecW n s D] g Q := by
  unfold dvecW
  walk_at "zf"
  have fin : ∀ (c : Nat) (D' : Nat → Amp) (z1 z2 z3 z4 : Option W), vecW n (c, D') = vecW n (red n s D) → wpS (wpC (codeT Ds) (d + 3)) (tlN 2 m_law_vec_told.body) [some (.tup [.int s, .lst (rows n D)]), some (.int c), some (.lst (rows n D')), z1, z2, z3, z4] g (Post.fn (retEnd false g Q)) := fun c D' z1 z2 z3 z4 he => by
    have hl := rows_len n D'
    dsimp only [m_law_vec_told, tlN]
    walk_at "zs"
    rw [hl, show ((n : Int) - 0).toNat = n by omega, rangeW_map, List.map_map]
    refine lc_fm (wi := W.int ∘ fun k : Nat => (0 : Int) + (k : Int)) (fun y => decide (D' y ≠ az)) (termW D') (fun y hy acc kk h1 h2 => ?_) ?_
    · have hy := List.mem_range.mp hy
      have hat : ∀ v : W, (rows n D')[((0 : Int) + (y : Int)).toNat]? = some v ↔ (D' y).w = v := fun v => by
        rw [show ((0 : Int) + (y : Int)).toNat = y by omega, rows_at hy, Option.some.injEq]
      dsimp only [Function.comp]
      walk_at "zs"
      refine opt_ixl (by omega) ((hat _).mpr rfl) ?_
      walk_at "zs"
      rw [eqv_az (D' y)]
      refine if_n (fun h => ?_) (fun h => ?_)
      · walk_at "zs"
        refine opt_ixl (by omega) ((hat _).mpr rfl) ?_
        walk_at "zs"
        rw [zadd]
        exact h1 (decide_eq_true h)
      · exact h2 (decide_eq_false fun z => z h)
    · walk_at "zs"
      have e : vecW n (c, D') = .tup [.int c, .tup ((((List.range n).filter fun y => decide (D' y ≠ az))).map (termW D'))] := rfl
      rw [← e, he]
      exact k
  walk_at "zs"
  rw [show ((s : Int) - 0).toNat = s by omega]
  refine for_rng (fun i e g' => ∃ D' z1 z2 z3 z4, i ≤ s ∧ g' = g ∧ red n s D = red n (s - i) D' ∧ e = [some (.tup [.int s, .lst (rows n D)]), some (.int ((s - i : Nat) : Int)), some (.lst (rows n D')), z1, z2, z3, z4]) ?_ ?_ ⟨D, none, none, none, none, Nat.zero_le _, rfl, rfl, rfl⟩
  · rintro i k' hi hk _ g ⟨D', z1, z2, z3, z4, hle, rfl, hrd, rfl⟩
    obtain ⟨m, hm⟩ : ∃ m, s - i = m + 1 := ⟨s - i - 1, by omega⟩
    have hm2 : s - (i + 1) = m := by omega
    rw [hm] at hrd ⊢
    rw [hm2] at hk
    walk_at "zs"
    refine lc_map (fun y => (root (D' y)).w) (fun y hy kk h1 => ?_) ?_
    · walk_at "zs"
      refine w_lroot ?_
      exact h1
    walk_at "zs"
    refine lc_fm (fun y => decide (¬ ok (D' y))) (fun y => (root (D' y)).w) (fun y hy acc kk h1 h2 => ?_) ?_
    · walk_at "zs"
      refine if_d (fun h => ?_) (fun h => ?_)
      · walk_at "zs"
        refine h1 (decide_eq_true ?_)
        unfold ok
        simp only [root] at h
        omega
      · refine h2 (decide_eq_false ?_)
        unfold ok
        simp only [root] at h
        omega
    walk_at "zs"
    refine opt_neNil (fun x hx => ?_) ?_
    · obtain ⟨y, _, rfl⟩ := List.mem_map.mp hx
      exact Amp.pln _
    by_cases ha : allOk n D'
    · have e0 : ((List.range n).filter fun y => decide (¬ ok (D' y))) = [] := by
        rw [List.filter_eq_nil_iff]
        intro y hy
        simpa using ha y (List.mem_range.mp hy)
      rw [e0]
      refine if_f rfl ?_
      walk_at "zs"
      refine lc_map (fun y => (hr (D' y)).w) (fun y hy kk h1 => ?_) ?_
      · walk_at "zs"
        exact h1
      walk_at "zs"
      rw [show ((m + 1 : Nat) : Int) - 1 = (m : Int) by omega]
      exact hk _ _ ⟨_, _, _, _, _, by omega, rfl, by rw [hrd, red, if_pos ha], rfl⟩
    · have e0 : (!(((List.range n).filter fun y => decide (¬ ok (D' y))).map fun y => (root (D' y)).w).isEmpty) = true := by
        rw [Bool.not_eq_true', List.isEmpty_eq_false_iff]
        intro z
        refine ha fun y hy => ?_
        rw [List.map_eq_nil_iff, List.filter_eq_nil_iff] at z
        simpa using z y (List.mem_range.mpr hy)
      refine if_t e0 ?_
      have hf : vecW n (m + 1, D') = vecW n (red n s D) := by rw [hrd, red, if_neg ha]
      repeat first | exact fin (m + 1) D' _ _ _ _ hf | walk_at "z0"
  · rintro _ _ ⟨D', z1, z2, z3, z4, hle, rfl, hrd, rfl⟩
    rw [Nat.sub_self] at *
    exact fin 0 D' _ _ _ _ (by rw [hrd, red])
/-! ### bits -/
/-- the turns, seen from where it leads -/
def tl : Prod → Nat → Int
  | [], _ => 0
  | (q, .X) :: p, y => 0 + tl p y
  | (q, .Z) :: p, y => 4 * bitI y q + tl p y
  | (q, .Y) :: p, y => 6 - 4 * bitI y q + tl p y
def qs (p : Prod) : List Nat := p.map (·.1)
theorem pl_bit {i : Nat} : ∀ {p : Prod} {b : Nat}, i ∉ qs p → (pl p b).testBit i = b.testBit i
  | [], b, _ => rfl
  | (q, l) :: p, b, h => by
    simp only [qs, List.map_cons, List.mem_cons, not_or] at h
    have e : (flip b q).testBit i = b.testBit i := by
      rw [flip_bit, decide_eq_false (fun z => h.1 z.symm)]; simp
    cases l
    · simp only [pl]; rw [pl_bit h.2, e]
    · simp only [pl]; rw [pl_bit h.2, e]
    · simp only [pl]; exact pl_bit h.2
theorem ta_tl : ∀ {p : Prod} {b : Nat}, (qs p).Nodup → ta p b = tl p (pl p b)
  | [], b, _ => rfl
  | (q, l) :: p, b, h => by
    simp only [qs, List.map_cons, List.nodup_cons] at h
    have e : (flip b q).testBit q = !b.testBit q := by rw [flip_bit]; simp
    cases l
    · simp only [ta, tl, pl]; rw [ta_tl h.2]
    · simp only [ta, tl, pl]
      rw [ta_tl h.2]
      unfold bitI
      rw [pl_bit h.1, e]
      cases b.testBit q <;> rfl
    · simp only [ta, tl, pl]
      rw [ta_tl h.2]
      unfold bitI
      rw [pl_bit h.1]
      cases b.testBit q <;> rfl
theorem wts {q : Nat} (h : q < 5) : ([.int 1, .int 2, .int 4, .int 8, .int 16, .int 32] : List W)[((q : Int)).toNat]? = some (.int ((2 ^ q : Nat) : Int)) := by
  obtain rfl | rfl | rfl | rfl | rfl : q = 0 ∨ q = 1 ∨ q = 2 ∨ q = 3 ∨ q = 4 := by omega
  all_goals rfl
theorem p2 {q : Nat} (h : q < 5) : 0 < ((2 ^ q : Nat) : Int) ∧ ((2 ^ q : Nat) : Int) ≤ 16 := by
  obtain rfl | rfl | rfl | rfl | rfl : q = 0 ∨ q = 1 ∨ q = 2 ∨ q = 3 ∨ q = 4 := by omega
  all_goals decide
theorem p2l {q : Nat} (h : q < 5) : ((2 ^ q : Nat) : Int).natAbs.log2 < 9000 := by
  obtain rfl | rfl | rfl | rfl | rfl : q = 0 ∨ q = 1 ∨ q = 2 ∨ q = 3 ∨ q = 4 := by omega
  all_goals decide
theorem bitI_01 (y q : Nat) : 0 ≤ bitI y q ∧ bitI y q ≤ 1 := by unfold bitI; split <;> omega
/-! ### a heap's last object -/
/-- a row of amplitudes that stands, whatever comes behind -/
def Stands (g : CH) (x : W) (xs : List W) : Prop := ∀ more, dr (g ++ more) x = .lst xs
theorem stands_fz {g : CH} {xs : List W} : Stands g (.lst xs) xs := fun _ => rfl
theorem Stands.now {g : CH} {x : W} {xs : List W} (h : Stands g x xs) : dr g x = .lst xs := by
  have := h []
  rwa [List.append_nil] at this
structure PrOk (m : Nat) (p : Prod) : Prop where
  lt : ∀ f ∈ p, f.1 < m
  nd : (qs p).Nodup
theorem w_lact {m : Nat} {D : Nat → Amp} {p : Prod} {x : W} (hx : Stands g x (rows (2 ^ m) D)) (hm : m ≤ 5) (hp : PrOk m p) (k : Q (.lst (rows (2 ^ m) (act 0 p D))) g) : wpC (codeT Ds) (d + 2) f_law_vec_act [x, prodW p] g Q := by
  have h5 := two5 hm
  unfold prodW
  walk_at "zf"
  walk_at "zs"
  refine opt_lend (hx _) ?_
  rw [rows_len]
  generalize hn : 2 ^ m = n at *
  walk_at "zs"
  rw [show ((n : Int) - 0).toNat = n by omega]
  refine for_rng (fun i e g' => ∃ z1 z2 z3 z4 z5 z6, g' = g ++ [.lst ((rows n (act 0 p D)).take i)] ∧ e = [some x, some (.tup (p.map facW)), some (.lst [.int 1, .int 2, .int 4, .int 8, .int 16, .int 32]), some (.ob g.length), z1, z2, z3, z4, z5, z6]) ?_ ?_ ⟨none, none, none, none, none, none, rfl, rfl⟩
  · rintro y k' hy hk _ _ ⟨z1, z2, z3, z4, z5, z6, rfl, rfl⟩
    walk_at "zs"
    rw [zadd]
    refine for_list (as := p) (wi := facW) (fun j e g' => ∃ (at' : Nat) (tc : Int) (z1 z2 z3 : Option W), g' = g ++ [.lst ((rows n (act 0 p D)).take y)] ∧ at' < n ∧ (∀ i ∈ qs (p.drop j), at'.testBit i = y.testBit i) ∧ pl (p.drop j) at' = pl p y ∧ tc + tl (p.drop j) y = tl p y ∧
        e = [some x, some (.tup (p.map facW)), some (.lst [.int 1, .int 2, .int 4, .int 8, .int 16, .int 32]), some (.ob g.length), some (.int y), some (.int at'), some (.int tc), z1, z2, z3]) ?_ ?_ ⟨y, 0, _, _, _, rfl, hy, fun i _ => rfl, rfl, by rw [List.drop_zero]; omega, rfl⟩
    · rintro j ⟨q, l⟩ kk hj hkk _ _ ⟨at', tc, w1, w2, w3, rfl, hat, hb, h1, h2, rfl⟩
      have hq0 : q < m := hp.lt _ (List.mem_of_getElem? hj)
      have hq : q < 5 := by omega
      rw [drop_at hj] at h1 h2 hb
      have hb0 : at'.testBit q = y.testBit q := hb q (by simp [qs])
      have hbI : bitI at' q = bitI y q := by unfold bitI; rw [hb0]
      have hnd : q ∉ qs (p.drop (j + 1)) := by
        have := hp.nd
        rw [← List.take_append_drop j p, drop_at hj] at this
        unfold qs at this
        rw [List.map_append, List.nodup_append] at this
        have := this.2.1
        rw [List.map_cons, List.nodup_cons] at this
        exact this.1
      have hb1 : ∀ i ∈ qs (p.drop (j + 1)), at'.testBit i = y.testBit i := fun i hi => hb i (by simp only [qs, List.map_cons]; exact List.mem_cons_of_mem _ hi)
      have hb2 : ∀ i ∈ qs (p.drop (j + 1)), (flip at' q).testBit i = y.testBit i := fun i hi => by
        rw [flip_bit, hb1 i hi, decide_eq_false (fun z => hnd (by rw [z]; exact hi))]; simp
      have hfl : flip at' q < n := by
        rw [← hn] at hat ⊢
        exact Nat.xor_lt_two_pow hat (Nat.pow_lt_pow_right (by decide) hq0)
      have fv := flip_val at' (by omega) q hq
      rw [hbI] at fv
      have pw := p2 hq
      have b01 := bitI_01 y q
      have pl2 := p2l hq
      unfold facW
      cases l
      all_goals
        walk_at "zs"
        refine opt_ixl (by omega) (wts hq) ?_
        walk_at "zs"
      · refine opt_ixl (by omega) (wts hq) ?_
        walk_at "zs"
        rw [bit_val, ← fv]
        exact hkk _ _ ⟨_, _, _, _, _, rfl, hfl, hb2, h1, by simp only [tl] at h2; omega, rfl⟩
      · refine opt_ixl (by omega) (wts hq) ?_
        walk_at "zs"
        rw [bit_val, ← fv]
        exact hkk _ _ ⟨_, _, _, _, _, rfl, hfl, hb2, h1, by simp only [tl] at h2; omega, rfl⟩
      · rw [bit_val]
        exact hkk _ _ ⟨_, _, _, _, _, rfl, hat, hb1, h1, by simp only [tl] at h2; omega, rfl⟩
    · rintro _ _ ⟨at', tc, w1, w2, w3, rfl, hat, hb, h1, h2, rfl⟩
      rw [List.drop_length] at h1 h2
      simp only [pl, tl, Int.add_zero] at h1 h2
      have ht : tl p y = 0 + ta p (pl p y) := by rw [Int.zero_add, ta_tl hp.nd, pl_pl]
      walk_at "zs"
      refine opt_i ob_g ?_
      walk_at "zs"
      refine opt_ixd (hx _) (by omega) (rows_at (i := at') hat) ?_
      walk_at "zs"
      refine w_lturn ?_
      refine opt_i ob_g ?_
      walk_at "zs"
      refine ⟨small (by rw [List.length_take, rows_len]; omega), ?_⟩
      walk_at "zs"
      rw [set_g, h1, h2, ht]
      refine hk _ _ ⟨_, _, _, _, _, _, ?_, rfl⟩
      rw [List.take_succ, rows_at hy]; rfl
  · rintro _ _ ⟨z1, z2, z3, z4, z5, z6, rfl, rfl⟩
    rw [List.take_of_length_le (by rw [rows_len]; omega)]
    walk_at "zs"
    exact ret_fzg (rest := []) rows_wf k
end
end Z.K07
namespace Z.K07
open PySem PySem.Spec L2
open PyProof.Rows hiding St
section
variable {d : Nat} {g : CH} {Q : WK} {t : W}
local macro_rules | `(tactic| walk_at "zn") => `(tactic| dsimp only [List.set_cons_zero, List.set_cons_succ, zwipe0, zwipeS, zmap_cons, zmap_nil, zcons_app, znil_app, List.replicate_succ, List.replicate_zero, Nat.reduceSub, Int.reduceAdd, Int.reduceSub, Int.reduceNeg, Int.reduceMul, Int.reduceToNat, Int.reducePow, List.length_cons, List.length_nil, Nat.reduceAdd])
local macro_rules | `(tactic| walk_at "z0") => `(tactic| first
  | with_reducible refine nx_seq ?_
  | with_reducible refine nop_i ?_
  | with_reducible refine k_i ?_
  | with_reducible refine seq_i ?_
  | with_reducible refine reti ?_
  | with_reducible refine gl_i ?_
  | with_reducible refine anil_i ?_
  | with_reducible refine tnil_i ?_
  | with_reducible refine rt_seq ?_
  | with_reducible refine nx_turn ?_
  | with_reducible refine rt_turn ?_
  | with_reducible refine fn_rt ?_
  | with_reducible refine bk_seq ?_
  | with_reducible refine ct_seq ?_
  | with_reducible refine bk_turn ?_
  | with_reducible refine ct_turn ?_
  | with_reducible refine fn_nx ?_
  | ((with_reducible refine turn_id ?_); refine turn_ng ?_)
  | ((with_reducible refine ret_id ?_); refine ret_ng ?_)
  | ((with_reducible refine ite_id ?_); first | refine if_t rfl ?_ | refine if_f rfl ?_)
  | (refine opt_id ?_; first
    | (refine opt_asg rfl ?_; walk_at "zn")
    | (refine put_i ?_; walk_at "zn")
    | (refine add_i ?_; walk_at "zn")
    | with_reducible refine opt_eq ?_
    | ((with_reducible refine opt_pow ⟨by omega, by omega, by omega⟩ ?_); walk_at "zn")
    | with_reducible refine opt_ne ?_
    | with_reducible refine opt_slTo (by omega) ?_
    | with_reducible refine opt_slFrom (by omega) ?_
    | with_reducible refine opt_lslTo (by omega) ?_
    | refine opt_i rfl ?_
    | refine opt_mul (mulOk64 ⟨by omega, by omega⟩ ⟨by omega, by omega⟩) ?_
    | refine opt_mod (by omega) ?_
    | refine opt_shr (by omega) ?_
    | refine opt_fdiv (by constructor <;> first | decide | omega) ?_
    | refine opt_rng (by unfold rngOk; omega) ?_)
  | refine And.intro (Nat.le_of_ble_eq_true rfl) ?_
  | refine And.intro (by decide) ?_
  | refine And.intro (small (by first | omega | (dsimp only; omega))) ?_)
local macro_rules | `(tactic| walk_at "z1") => `(tactic| first
  | walk_at "z0"
  | ((with_reducible refine forL_id ?_); first | refine forL_cons ?_ | refine forL_nil ?_)
  | ((with_reducible refine lcL_id ?_); first | refine lcL_cons ?_ | refine lcL_nil ?_))
local macro_rules | `(tactic| walk_at "zs") => `(tactic| ((repeat walk_at "z0"); try (first | with_reducible refine forL_id ?_ | with_reducible refine lcL_id ?_)))
local macro_rules | `(tactic| walk_at "zf") => `(tactic| (refine fn_i rfl rfl rfl ?_; walk_at "zn"))
local macro_rules | `(tactic| walk_at "zi") => `(tactic| ((with_reducible refine ite_id ?_); first | refine if_d ?_ ?_ | refine if_n ?_ ?_))
local macro_rules | `(tactic| walk_at "zz") => `(tactic| (repeat walk_at "z1"; try ((walk_at "zi"; (all_goals intro _); (all_goals try (exfalso; omega)); (all_goals walk_at "zz")))))
local macro_rules | `(tactic| walk_at "z") => `(tactic| ((repeat walk_at "z1"); try (first | with_reducible refine forL_id ?_ | with_reducible refine ret_id ?_ | with_reducible refine turn_id ?_ | with_reducible refine lcL_id ?_ | with_reducible refine ite_id ?_ | refine call_id ?_ | with_reducible refine opt_id ?_)))
local macro_rules | `(tactic| walk_at "zh") => `(tactic| first | rfl | assumption | omega | decide)
theorem lc_fmO {α : Type} {tt : T} {o : Option Nat} {tst : Env → CH → (Bool → CH → Prop) → Prop} {elt : Env → CH → WK → Prop} {env0 : Env} {as : List α} {wi : α → W} {R : List W → CH → Prop} (P : α → Bool) (f : α → W) (st : stays g o (as.map wi))
    (hs : ∀ a ∈ as, ∀ (acc : List W) (k : List W → CH → Prop), (P a = true → k (acc ++ [f a]) g) → (P a = false → k acc g) →
      opt (asg tt (wi a) env0) fun env1 => tst env1 g fun b g1 => if b = true then elt env1 g1 fun w g2 => k (acc ++ [w]) g2 else k acc g1)
    (he : R ((as.filter P).map f) g) : lcL tt tst elt env0 o (as.map wi) (as.map wi) [] g R := by
  refine lc_inv (fun i acc g' => g' = g ∧ acc = ((as.take i).filter P).map f) (fun i x acc g' k hx h hk => ?_) (fun acc g' h => ?_) ⟨rfl, by simp⟩
  · obtain ⟨rfl, rfl⟩ := h
    refine ⟨st, ?_⟩
    obtain ⟨a, ha, rfl⟩ := at_map hx
    have e : as.take (i + 1) = as.take i ++ [a] := by rw [List.take_succ, ha]; rfl
    refine hs a (List.mem_of_getElem? ha) _ k (fun hp => hk _ _ ⟨rfl, ?_⟩) (fun hp => hk _ _ ⟨rfl, ?_⟩)
    · rw [e, List.filter_append, List.map_append, List.filter_cons_of_pos hp]; rfl
    · rw [e, List.filter_append, List.map_append, List.filter_cons_of_neg (by rw [hp]; decide)]; simp
  · obtain ⟨rfl, rfl⟩ := h
    refine ⟨st, ?_⟩
    rw [List.length_map, List.take_length]
    exact he
theorem lc_mapO {α : Type} {tt : T} {o : Option Nat} {elt : Env → CH → WK → Prop} {F : FSem} {env0 : Env} {as : List α} {wi : α → W} {R : List W → CH → Prop} (f : α → W) (st : stays g o (as.map wi))
    (hs : ∀ a ∈ as, ∀ (k : WK), k (f a) g → opt (asg tt (wi a) env0) fun env1 => elt env1 g k)
    (he : R (as.map f) g) : lcL tt (wpT F .nil) elt env0 o (as.map wi) (as.map wi) [] g R := by
  refine lc_fmO (fun _ => true) f st (fun a ha acc k h1 h2 => ?_) (by rw [List.filter_eq_self.mpr (fun _ _ => rfl)]; exact he)
  exact hs a ha (fun w g2 => k (acc ++ [w]) g2) (h1 rfl)
theorem act_sign {s : Int} (hs : s = 1 ∨ s = -1) (p : Prod) (D : Nat → Amp) (y : Nat) : tn (2 - 2 * s) (act 0 p D y) = act (sg s) p D y := by
  unfold act
  rw [tn_tn]
  congr 1
  rcases hs with rfl | rfl
  · simp [sg]
  · simp [sg]
theorem act_sz {m : Int} {s : Int} {p : Prod} {D : Nat → Amp} (h : ∀ y, Sz m (D y)) (y : Nat) : Sz m (act s p D y) := (h _).tn _
theorem ph_sz {m k : Int} {p : Prod} {D : Nat → Amp} (h : ∀ y, Sz m (D y)) (y : Nat) : Sz (4 * m) (phD k p D y) := by
  have := (((h y).add ((h y).tn k)).add ((act_sz (s := 0) (p := p) h y).add ((act_sz (s := 0) (p := p) h y).tn (k + 4))))
  rw [show m + m + (m + m) = 4 * m by omega] at this
  exact this
theorem w_lphase {m c : Nat} {kk : Int} {D : Nat → Amp} {p : Prod} {x : W} (hx : Stands g x (rows (2 ^ m) D)) (hm : m ≤ 5) (hp : PrOk m p) (k : Q (dvecW (2 ^ m) (c + 2) (phD kk p D)) g) : wpC (codeT Ds) (d + 3) f_law_vec_phase [.tup [.int c, x], .int kk, prodW p] g Q := by
  have h5 := two5 hm
  unfold dvecW at *
  walk_at "zf"
  walk_at "zs"
  refine w_lact hx hm hp ?_
  walk_at "zs"
  rw [rows_len]
  generalize hn : 2 ^ m = n at *
  walk_at "zs"
  rw [show ((n : Int) - 0).toNat = n by omega]
  refine for_rng (fun i e g' => ∃ z1 z2, g' = g ++ [.lst ((rows n (phD kk p D)).take i)] ∧ e = [some (.tup [.int c, x]), some (.int kk), some (prodW p), some (.lst (rows n (act 0 p D))), some (.ob g.length), z1, z2]) ?_ ?_ ⟨none, none, rfl, rfl⟩
  · rintro y k' hy hk _ _ ⟨z1, z2, rfl, rfl⟩
    have hy2 : ((0 : Int) + (y : Int)).toNat = y := by omega
    walk_at "zs"
    refine opt_ixd (hx _) (by omega) (v := (D y).w) (by rw [hy2]; exact rows_at hy) ?_
    walk_at "zs"
    refine opt_ixd (hx _) (by omega) (v := (D y).w) (by rw [hy2]; exact rows_at hy) ?_
    walk_at "zs"
    refine w_lturn ?_
    walk_at "zs"
    refine w_lplus ?_
    walk_at "zs"
    refine opt_i ob_g ?_
    walk_at "zs"
    refine opt_ixl (by omega) (x := (act 0 p D y).w) (by rw [hy2]; exact rows_at hy) ?_
    walk_at "zs"
    refine opt_ixl (by omega) (x := (act 0 p D y).w) (by rw [hy2]; exact rows_at hy) ?_
    walk_at "zs"
    refine w_lturn ?_
    walk_at "zs"
    refine w_lplus ?_
    walk_at "zs"
    refine w_lplus ?_
    refine opt_i ob_g ?_
    walk_at "zs"
    refine ⟨small (by rw [List.length_take, rows_len]; omega), ?_⟩
    walk_at "zs"
    rw [set_g]
    refine hk _ _ ⟨_, _, ?_, rfl⟩
    rw [List.take_succ, rows_at hy]; rfl
  · rintro _ _ ⟨z1, z2, rfl, rfl⟩
    rw [List.take_of_length_le (by rw [rows_len]; omega)]
    walk_at "zs"
    rw [show ((c : Int) + 2) = ((c + 2 : Nat) : Int) by omega]
    refine ⟨_, g, .tup (.cons (.same rfl) (.cons (.ob (Nat.le_refl _) (by rw [nth_eq]; simp) (fzs_same rows_wf)) .nil)), ⟨rfl, by simp, fun i hi => .inl ⟨nth_app g _ i hi, rfl⟩⟩, k⟩
theorem w_lnone {n : Nat} {D : Nat → Amp} {x : W} {o : Option Nat} (hx : iterW g x = some (o, rows n D)) (st : stays g o (rows n D)) (k : Q (.bl (keys n D).isEmpty) g) : wpC (codeT Ds) (d + 1) f_law_vec_none [x] g Q := by
  walk_at "zf"
  walk_at "zs"
  refine opt_i hx ?_
  refine lc_fmO (fun y => decide (D y ≠ az)) (fun y => (D y).w) st (fun y hy acc kk h1 h2 => ?_) ?_
  · walk_at "zs"
    rw [eqv_az (D y)]
    refine if_n (fun h => ?_) (fun h => ?_)
    · walk_at "zs"
      exact h1 (decide_eq_true h)
    · exact h2 (decide_eq_false fun z => z h)
  · walk_at "zs"
    refine opt_eqNil (fun x hx => ?_) ?_
    · obtain ⟨y, _, rfl⟩ := List.mem_map.mp hx
      exact Amp.pln _
    walk_at "zs"
    have e : (((List.range n).filter fun y => decide (D y ≠ az)).map fun y => (D y).w).isEmpty = (keys n D).isEmpty := by unfold keys; rw [List.isEmpty_map]
    rw [e]
    exact k
theorem nz_at {n y : Nat} {D : Nat → Amp} (hy : y < n) (h : D y ≠ az) : keys n D ≠ [] := fun e => by
  have : y ∈ keys n D := keys_mem.mpr ⟨hy, h⟩
  rw [e] at this
  cases this
theorem nz_root {n : Nat} {D : Nat → Amp} (h : keys n D ≠ []) : keys n (fun y => root (D y)) ≠ [] := by
  rw [keys_congr (D' := D) fun y _ => root_az]
  exact h
theorem tl_flip {y q : Nat} : ∀ {p : Prod}, q ∉ qs p → tl p (flip y q) = tl p y
  | [], _ => rfl
  | (r, l) :: p, h => by
    simp only [qs, List.map_cons, List.mem_cons, not_or] at h
    have e : bitI (flip y q) r = bitI y r := by
      unfold bitI
      rw [flip_bit, decide_eq_false h.1]; simp
    cases l <;> simp only [tl] <;> rw [tl_flip h.2] <;> try rw [e]
theorem tl_ta : ∀ {p : Prod} {y : Nat}, (qs p).Nodup → (tl p y + ta p y) % 8 = 0
  | [], y, _ => rfl
  | (q, l) :: p, y, h => by
    simp only [qs, List.map_cons, List.nodup_cons] at h
    have i1 := tl_ta (p := p) (y := flip y q) h.2
    have i2 := tl_ta (p := p) (y := y) h.2
    rw [tl_flip h.1] at i1
    cases l
    · simp only [tl, ta]; omega
    · simp only [tl, ta, bitI]
      cases y.testBit q
      · simp only [Bool.false_eq_true, if_false]; omega
      · simp only [if_true]; omega
    · simp only [tl, ta, bitI]
      cases y.testBit q
      · simp only [Bool.false_eq_true, if_false]; omega
      · simp only [if_true]; omega
theorem act_act {p : Prod} {D : Nat → Amp} {y : Nat} (h : (qs p).Nodup) : act 0 p (act 0 p D) y = D y := by
  unfold act
  rw [tn_tn, pl_pl]
  have e := tl_ta (y := pl p y) h
  rw [show tl p (pl p y) = ta p y from (ta_tl h).symm] at e
  rw [tn_congr (k := 0) (by omega)]; rfl
/-- a phase lets no vector vanish -/
theorem ph_none {k : Int} {p : Prod} {D : Nat → Amp} (h : (qs p).Nodup) {y : Nat} (h1 : phD k p D y = az) (h2 : phD k p D (pl p y) = az) : D y = az := by
  have a1 : act 0 p D (pl p y) = tn (ta p y) (D y) := by
    unfold act
    rw [pl_pl, Int.zero_add]
  have a2 : D (pl p y) = tn (ta p y) (act 0 p D y) := by
    have e := act_act (y := pl p y) (D := D) h
    unfold act at e
    rw [pl_pl, Int.zero_add] at e
    unfold act
    exact e.symm
  have c : ∀ i j (x : Amp), tn i (tn j x) = tn j (tn i x) := fun i j x => by rw [tn_tn, tn_tn, Int.add_comm]
  have ad : ∀ j (x y : Amp), tn j (x.add y) = (tn j x).add (tn j y) := fun j x y => by
    unfold tn
    induction (j % 8).toNat with
    | zero => rfl
    | succ n ih =>
      show r1 _ = Amp.add (r1 _) (r1 _)
      rw [ih]
      refine Amp.ext' ?_ ?_ ?_ ?_ <;> simp only [r1, Amp.add] <;> omega
  have h3 : ((act 0 p D y).add (tn k (act 0 p D y))).add ((D y).add (tn (k + 4) (D y))) = az := by
    unfold phD at h2
    rw [a1, a2] at h2
    rw [c k, c (k + 4), ← ad, ← ad, ← ad] at h2
    exact (tn_az _).mp h2
  unfold phD at h1
  generalize act 0 p D y = z at *
  generalize hx : D y = x at *
  clear hx
  have e4 : ∀ x, tn (k + 4) x = tn 4 (tn k x) := fun x => by rw [tn_tn, Int.add_comm]
  have e5 : ∀ x, tn 4 x = ⟨-x.a, -x.b, -x.c, -x.d⟩ := fun x => by refine Amp.ext' ?_ ?_ ?_ ?_ <;> simp [tn, trn, r1]
  rw [e4, e5] at h1 h3
  have s : x.add z = az := by
    have q1 := congrArg Amp.a h1
    have q2 := congrArg Amp.b h1
    have q3 := congrArg Amp.c h1
    have q4 := congrArg Amp.d h1
    have r1 := congrArg Amp.a h3
    have r2 := congrArg Amp.b h3
    have r3 := congrArg Amp.c h3
    have r4 := congrArg Amp.d h3
    simp only [Amp.add, az] at q1 q2 q3 q4 r1 r2 r3 r4
    refine Amp.ext' ?_ ?_ ?_ ?_ <;> simp only [Amp.add, az] <;> omega
  have t1 : (tn k x).add (tn k z) = az := by rw [← ad, s]; exact (tn_az _).mpr rfl
  have u : tn k x = az := by
    have q1 := congrArg Amp.a h1
    have q2 := congrArg Amp.b h1
    have q3 := congrArg Amp.c h1
    have q4 := congrArg Amp.d h1
    have r1 := congrArg Amp.a t1
    have r2 := congrArg Amp.b t1
    have r3 := congrArg Amp.c t1
    have r4 := congrArg Amp.d t1
    have s1 := congrArg Amp.a s
    have s2 := congrArg Amp.b s
    have s3 := congrArg Amp.c s
    have s4 := congrArg Amp.d s
    simp only [Amp.add, az] at q1 q2 q3 q4 r1 r2 r3 r4 s1 s2 s3 s4
    refine Amp.ext' ?_ ?_ ?_ ?_ <;> simp only [az] <;> omega
  exact (tn_az _).mp u
theorem ph_nz {m : Nat} {k : Int} {p : Prod} {D : Nat → Amp} (hp : PrOk m p) (h : keys (2 ^ m) D ≠ []) : keys (2 ^ m) (phD k p D) ≠ [] := fun e => h (by
  have ez : ∀ y, y < 2 ^ m → phD k p D y = az := fun y hy => Classical.byContradiction fun z => by
    have : y ∈ keys (2 ^ m) (phD k p D) := keys_mem.mpr ⟨hy, z⟩
    rw [e] at this
    cases this
  cases hk : keys (2 ^ m) D with
  | nil => rfl
  | cons y ys =>
    have hy := keys_mem.mp (show y ∈ keys (2 ^ m) D by rw [hk]; exact List.mem_cons_self)
    exact absurd (ph_none hp.nd (ez y hy.1) (ez _ (pl_lt hp.lt hy.1))) hy.2)
end
end Z.K07
namespace Z.K07
open PySem PySem.Spec L2
open PyProof.Rows hiding St
section
variable {d : Nat} {g : CH} {Q : WK} {t : W}
local macro_rules | `(tactic| walk_at "zn") => `(tactic| dsimp only [List.set_cons_zero, List.set_cons_succ, zwipe0, zwipeS, zmap_cons, zmap_nil, zcons_app, znil_app, List.replicate_succ, List.replicate_zero, Nat.reduceSub, Int.reduceAdd, Int.reduceSub, Int.reduceNeg, Int.reduceMul, Int.reduceToNat, Int.reducePow, List.length_cons, List.length_nil, Nat.reduceAdd])
local macro_rules | `(tactic| walk_at "z0") => `(tactic| first
  | with_reducible refine nx_seq ?_
  | with_reducible refine nop_i ?_
  | with_reducible refine k_i ?_
  | with_reducible refine seq_i ?_
  | with_reducible refine reti ?_
  | with_reducible refine gl_i ?_
  | with_reducible refine anil_i ?_
  | with_reducible refine tnil_i ?_
  | with_reducible refine rt_seq ?_
  | with_reducible refine nx_turn ?_
  | with_reducible refine rt_turn ?_
  | with_reducible refine fn_rt ?_
  | with_reducible refine bk_seq ?_
  | with_reducible refine ct_seq ?_
  | with_reducible refine bk_turn ?_
  | with_reducible refine ct_turn ?_
  | with_reducible refine fn_nx ?_
  | ((with_reducible refine turn_id ?_); refine turn_ng ?_)
  | ((with_reducible refine ret_id ?_); refine ret_ng ?_)
  | ((with_reducible refine ite_id ?_); first | refine if_t rfl ?_ | refine if_f rfl ?_)
  | (refine opt_id ?_; first
    | (refine opt_asg rfl ?_; walk_at "zn")
    | (refine put_i ?_; walk_at "zn")
    | (refine add_i ?_; walk_at "zn")
    | with_reducible refine opt_eq ?_
    | ((with_reducible refine opt_pow ⟨by omega, by omega, by omega⟩ ?_); walk_at "zn")
    | with_reducible refine opt_ne ?_
    | with_reducible refine opt_slTo (by omega) ?_
    | with_reducible refine opt_slFrom (by omega) ?_
    | with_reducible refine opt_lslTo (by omega) ?_
    | refine opt_i rfl ?_
    | refine opt_mul (mulOk64 ⟨by omega, by omega⟩ ⟨by omega, by omega⟩) ?_
    | refine opt_mod (by omega) ?_
    | refine opt_shr (by omega) ?_
    | refine opt_fdiv (by constructor <;> first | decide | omega) ?_
    | refine opt_rng (by unfold rngOk; omega) ?_)
  | refine And.intro (Nat.le_of_ble_eq_true rfl) ?_
  | refine And.intro (by decide) ?_
  | refine And.intro (small (by first | omega | (dsimp only; omega))) ?_)
local macro_rules | `(tactic| walk_at "z1") => `(tactic| first
  | walk_at "z0"
  | ((with_reducible refine forL_id ?_); first | refine forL_cons ?_ | refine forL_nil ?_)
  | ((with_reducible refine lcL_id ?_); first | refine lcL_cons ?_ | refine lcL_nil ?_))
local macro_rules | `(tactic| walk_at "zs") => `(tactic| ((repeat walk_at "z0"); try (first | with_reducible refine forL_id ?_ | with_reducible refine lcL_id ?_)))
local macro_rules | `(tactic| walk_at "zf") => `(tactic| (refine fn_i rfl rfl rfl ?_; walk_at "zn"))
local macro_rules | `(tactic| walk_at "zi") => `(tactic| ((with_reducible refine ite_id ?_); first | refine if_d ?_ ?_ | refine if_n ?_ ?_))
local macro_rules | `(tactic| walk_at "zz") => `(tactic| (repeat walk_at "z1"; try ((walk_at "zi"; (all_goals intro _); (all_goals try (exfalso; omega)); (all_goals walk_at "zz")))))
local macro_rules | `(tactic| walk_at "z") => `(tactic| ((repeat walk_at "z1"); try (first | with_reducible refine forL_id ?_ | with_reducible refine ret_id ?_ | with_reducible refine turn_id ?_ | with_reducible refine lcL_id ?_ | with_reducible refine ite_id ?_ | refine call_id ?_ | with_reducible refine opt_id ?_)))
local macro_rules | `(tactic| walk_at "zh") => `(tactic| first | rfl | assumption | omega | decide)
/-! ### what the law draws -/
theorem ob_l {t : W} {rest : CH} {ws : List W} : obOf (t :: (rest ++ [.lst ws])) (.ob (rest.length + 1)) = some (rest.length + 1, ws) := by
  unfold obOf
  dsimp only
  rw [show nth (t :: (rest ++ [W.lst ws])) (rest.length + 1) = nth (rest ++ [W.lst ws]) rest.length from rfl, nth_eq]
  simp
theorem dr_l {t : W} {rest : CH} {ws : List W} : dr (t :: (rest ++ [.lst ws])) (.ob (rest.length + 1)) = .lst ws := by
  unfold dr
  dsimp only
  rw [show nth (t :: (rest ++ [W.lst ws])) (rest.length + 1) = nth (rest ++ [W.lst ws]) rest.length from rfl, nth_eq]
  simp
theorem tup_l {t : W} {rest : CH} {ws : List W} : u1W (t :: (rest ++ [.lst ws])) .tuple (.ob (rest.length + 1)) = some (.tup ws) := by
  show (match dr (t :: (rest ++ [W.lst ws])) (.ob (rest.length + 1)) with | W.tup xs => some (W.tup xs) | W.lst xs => some (.tup xs) | _ => none) = _
  rw [dr_l]
theorem len_l {t : W} {rest : CH} {ws : List W} : u1W (t :: (rest ++ [.lst ws])) .len (.ob (rest.length + 1)) = some (.int ws.length) := by
  show (match dr (t :: (rest ++ [W.lst ws])) (.ob (rest.length + 1)) with | W.tup xs => some (W.int xs.length) | W.lst xs => some (W.int xs.length) | W.str x => some (.int x.length) | _ => none) = _
  rw [dr_l]
theorem set_last {pre : CH} {a w : W} : (pre ++ [a]).set pre.length w = pre ++ [w] := by simp
theorem ret_gcR {n : Nat} {t t' v : W} {rest more : CH} (ht : Tape n t') (hv : wf (rest.length + 1) v = true) (q : Q v (t' :: rest)) : retEnd true (t :: rest) Q v (t' :: (rest ++ more)) := by
  refine ⟨v, t' :: rest, .same hv, ⟨by simp, by simp, fun i hi => ?_⟩, q⟩
  cases i with
  | zero => exact .inr ⟨t', t', rfl, rfl, ht.fz⟩
  | succ i =>
    have hi : i < rest.length := by simpa using hi
    exact .inl ⟨nth_app rest more i hi, rfl⟩
theorem p_xyzL {n : Nat} {rest : CH} (ht : Tape n t) (hn : n < 2000000) (k : ∀ (l : Lt) t', Tape (n + 1) t' → Q (.str l.s) (t' :: rest)) : wpC (codeT Ds) (d + 2) f_law_pick [.ob 0, .str "XYZ"] (t :: rest) Q := by
  walk_at "zf"
  walk_at "z"
  refine p_draw ht ?_ ?_ fun v1 t1 v1l v1r ht1 => ?_
  · walk_at "zh"
  · decide
  have hv : v1 = 0 ∨ v1 = 1 ∨ v1 = 2 := by
    have : v1 < max (3 : Int) 1 := v1r
    omega
  rcases hv with rfl | rfl | rfl
  · exact opt_i (v := .str Lt.X.s) rfl (k _ _ ht1)
  · exact opt_i (v := .str Lt.Y.s) rfl (k _ _ ht1)
  · exact opt_i (v := .str Lt.Z.s) rfl (k _ _ ht1)
theorem prodW_wf {m : Nat} {p : Prod} : wf m (prodW p) = true := wfs_mem fun x hx => by
  obtain ⟨y, _, rfl⟩ := List.mem_map.mp hx
  rfl
theorem w_flat {n q least : Nat} {rest : CH} (ht : Tape n t) (hn : n < 1000000) (hq : q ≤ 5) (hl : least = 0 ∨ 1 ≤ q) (k : ∀ (p : Prod) t', PrOk q p → Tape (n + 8) t' → Q (prodW p) (t' :: rest)) : wpC (codeT Ds) (d + 3) f_law_flat_product [.ob 0, .int q, .int least] (t :: rest) Q := by
  walk_at "zf"
  walk_at "zs"
  rw [show ((q : Int) - 0).toNat = q by omega]
  refine for_rng (fun i e g' => ∃ (p : Prod) (t' : W) (y z : Option W), g' = t' :: (rest ++ [.lst (p.map facW)]) ∧ PrOk i p ∧ p.length ≤ i ∧ Tape (n + i) t' ∧ e = [some (.ob 0), some (.int q), some (.int least), some (.ob (rest.length + 1)), y, z]) ?_ ?_ ⟨[], t, none, none, rfl, ⟨by simp, .nil⟩, Nat.le_refl _, ht, rfl⟩
  · rintro i k' hi hk _ _ ⟨p, t', y, z, rfl, hp, hpl, ht', rfl⟩
    have hle : (p.map facW).length = p.length := List.length_map ..
    walk_at "z"
    refine p_draw ht' ?_ ?_ fun v1 t1 v1l v1r ht1 => ?_
    iterate 2 walk_at "zh"
    walk_at "z"
    refine if_d (fun h => ?_) (fun h => ?_)
    · walk_at "z"
      refine opt_i ob_l ?_
      obtain ⟨l, hs⟩ : ∃ l : Lt, ∀ g, ixW g (.str "XYZ") (.int (v1 - 2)) = some (.str l.s) := by
        have : v1 = 2 ∨ v1 = 3 ∨ v1 = 4 := by omega
        rcases this with rfl | rfl | rfl
        · exact ⟨.X, fun g => rfl⟩
        · exact ⟨.Y, fun g => rfl⟩
        · exact ⟨.Z, fun g => rfl⟩
      walk_at "z"
      refine opt_i (hs _) ?_
      walk_at "z"
      refine opt_i ob_l ?_
      walk_at "z"
      rw [set_last, zadd]
      refine hk _ _ ⟨p ++ [(i, l)], t1, _, _, by rw [List.map_append]; rfl, ⟨fun f hf => ?_, ?_⟩, by simp; omega, ht1, rfl⟩
      · rcases List.mem_append.mp hf with hf | hf
        · have := hp.lt f hf; omega
        · rw [List.mem_singleton.mp hf]; exact Nat.lt_succ_self i
      · unfold qs
        rw [List.map_append, List.nodup_append]
        refine ⟨hp.nd, by simp, fun a ha b hb e => ?_⟩
        obtain ⟨f, hf, rfl⟩ := List.mem_map.mp ha
        rw [List.map_cons, List.map_nil, List.mem_singleton] at hb
        have := hp.lt f hf
        rw [e, hb] at this
        exact Nat.lt_irrefl _ this
    · walk_at "z"
      exact hk _ _ ⟨p, t1, _, _, rfl, ⟨fun f hf => Nat.lt_succ_of_lt (hp.lt f hf), hp.nd⟩, by omega, ht1, rfl⟩
  · rintro _ _ ⟨p, t', y, z, rfl, hp, hpl, ht', rfl⟩
    walk_at "z"
    refine opt_i len_l ?_
    walk_at "z"
    refine if_d (fun h => ?_) (fun h => ?_)
    · have hq1 : 1 ≤ q := by rcases hl with rfl | h1 <;> omega
      walk_at "z"
      refine p_draw ht' ?_ ?_ fun v1 t1 v1l v1r ht1 => ?_
      · walk_at "zh"
      · omega
      obtain ⟨j, rfl⟩ : ∃ j : Nat, v1 = j := ⟨v1.toNat, by omega⟩
      walk_at "z"
      refine p_xyzL ht1 (by omega) fun l t2 ht2 => ?_
      walk_at "z"
      refine opt_i tup_l ?_
      walk_at "z"
      rw [List.append_assoc]
      exact ret_gcR ht2 rfl (k [(j, l)] t2 ⟨by simp; omega, by simp [qs]⟩ (ht2.mono (by omega)))
    · walk_at "z"
      refine opt_i tup_l ?_
      walk_at "z"
      exact ret_gcR ht' (prodW_wf (p := p)) (k p t' hp (ht'.mono (by omega)))
theorem w_aamp {n : Nat} {wide : Int} {rest : CH} (ht : Tape n t) (hn : n < 1000000) (h1 : 1 ≤ wide) (h2 : wide ≤ 99) (k : ∀ (x : Amp) t', Sz wide x → Tape (n + 6) t' → Q x.w (t' :: rest)) : wpC (codeT Ds) (d + 2) f_law_a_amp [.ob 0, .int wide] (t :: rest) Q := by
  have fin : ∀ (a b c e : Int) (t' : W) (more : CH), (-wide ≤ a ∧ a ≤ wide) → (-wide ≤ b ∧ b ≤ wide) → (-wide ≤ c ∧ c ≤ wide) → (-wide ≤ e ∧ e ≤ wide) → Tape (n + 6) t' → retEnd true (t :: rest) Q (.tup [.int a, .int b, .int c, .int e]) (t' :: (rest ++ more)) := fun a b c e t' more ha hb hc he ht' =>
    ret_gcR ht' rfl (k ⟨a, b, c, e⟩ t' ⟨ha, hb, hc, he⟩ ht')
  walk_at "zf"
  walk_at "z"
  iterate 4
    refine p_draw (by assumption) ?_ ?_ fun v1 t1 v1l v1r h1' => ?_
    iterate 2 walk_at "zh"
    walk_at "z"
    refine opt_i ob_l ?_
    walk_at "z"
    rw [set_last]
    walk_at "z"
  refine p_draw (by assumption) ?_ ?_ fun v4 t4 v4l v4r h4 => ?_
  iterate 2 walk_at "zh"
  walk_at "z"
  refine if_d (fun hk => ?_) (fun hk => ?_)
  · walk_at "z"
    refine p_draw h4 ?_ ?_ fun v5 t5 v5l v5r h5 => ?_
    iterate 2 walk_at "zh"
    have ix : ∀ (i : Int) (ws : List W) (v : W), atI ws i = some v → ixW (t5 :: (rest ++ [.lst ws])) (.ob (rest.length + 1)) (.int i) = some v := fun i ws v h => by
      unfold ixW
      rw [dr_l]
      exact h
    obtain rfl | rfl | rfl | rfl : v5 = 0 ∨ v5 = 1 ∨ v5 = 2 ∨ v5 = 3 := by omega
    all_goals
      walk_at "z"
      refine opt_i (ix _ _ _ rfl) ?_
      walk_at "z"
      refine opt_i tup_l ?_
      walk_at "z"
      rw [List.append_assoc]
      exact fin _ _ _ _ _ _ (by omega) (by omega) (by omega) (by omega) (h5.mono (by omega))
  · walk_at "z"
    refine opt_i tup_l ?_
    walk_at "z"
    exact fin _ _ _ _ _ _ (by omega) (by omega) (by omega) (by omega) (h4.mono (by omega))
theorem rows_set {m i : Nat} {D : Nat → Amp} {a : Amp} : (rows m D).set i a.w = rows m (fun y => if y = i then a else D y) := by
  unfold rows
  apply List.ext_getElem?
  intro j
  by_cases hj : j < m
  · by_cases hi : i = j
    · subst hi
      rw [List.getElem?_set_self (by simpa using hj)]
      simp [hj]
    · rw [List.getElem?_set_ne hi]
      simp [hj, Ne.symm hi]
  · rw [List.getElem?_eq_none (by simp; omega), List.getElem?_eq_none (by simp; omega)]
theorem rows_az (m : Nat) : (List.replicate m [W.tup [.int 0, .int 0, .int 0, .int 0]]).flatten = rows m fun _ => az := by
  unfold rows
  have : (List.replicate m [W.tup [.int 0, .int 0, .int 0, .int 0]]).flatten = List.replicate m (W.tup [.int 0, .int 0, .int 0, .int 0]) := by
    induction m with
    | zero => rfl
    | succ m ih => rw [List.replicate_succ, List.flatten_cons, ih]; rfl
  rw [this]
  apply List.ext_getElem?
  intro j
  by_cases hj : j < m
  · simp [hj]; rfl
  · rw [List.getElem?_eq_none (by simp; omega), List.getElem?_eq_none (by simp; omega)]
theorem Sz.upd {m : Int} {D : Nat → Amp} {i : Nat} {a : Amp} (h : ∀ y, Sz m (D y)) (ha : Sz m a) (y : Nat) : Sz m ((fun y => if y = i then a else D y) y) := by
  dsimp only
  split
  · exact ha
  · exact h y
end
end Z.K07
namespace Z.K07
open PySem PySem.Spec L2
open PyProof.Rows hiding St
section
variable {d : Nat} {g : CH} {Q : WK} {t : W}
local macro_rules | `(tactic| walk_at "zn") => `(tactic| dsimp only [List.set_cons_zero, List.set_cons_succ, zwipe0, zwipeS, zmap_cons, zmap_nil, zcons_app, znil_app, List.replicate_succ, List.replicate_zero, Nat.reduceSub, Int.reduceAdd, Int.reduceSub, Int.reduceNeg, Int.reduceMul, Int.reduceToNat, Int.reducePow, List.length_cons, List.length_nil, Nat.reduceAdd])
local macro_rules | `(tactic| walk_at "z0") => `(tactic| first
  | with_reducible refine nx_seq ?_
  | with_reducible refine nop_i ?_
  | with_reducible refine k_i ?_
  | with_reducible refine seq_i ?_
  | with_reducible refine reti ?_
  | with_reducible refine gl_i ?_
  | with_reducible refine anil_i ?_
  | with_reducible refine tnil_i ?_
  | with_reducible refine rt_seq ?_
  | with_reducible refine nx_turn ?_
  | with_reducible refine rt_turn ?_
  | with_reducible refine fn_rt ?_
  | with_reducible refine bk_seq ?_
  | with_reducible refine ct_seq ?_
  | with_reducible refine bk_turn ?_
  | with_reducible refine ct_turn ?_
  | with_reducible refine fn_nx ?_
  | ((with_reducible refine turn_id ?_); refine turn_ng ?_)
  | ((with_reducible refine ret_id ?_); refine ret_ng ?_)
  | ((with_reducible refine ite_id ?_); first | refine if_t rfl ?_ | refine if_f rfl ?_)
  | (refine opt_id ?_; first
    | (refine opt_asg rfl ?_; walk_at "zn")
    | (refine put_i ?_; walk_at "zn")
    | (refine add_i ?_; walk_at "zn")
    | with_reducible refine opt_eq ?_
    | ((with_reducible refine opt_pow ⟨by omega, by omega, by omega⟩ ?_); walk_at "zn")
    | with_reducible refine opt_ne ?_
    | with_reducible refine opt_slTo (by omega) ?_
    | with_reducible refine opt_slFrom (by omega) ?_
    | with_reducible refine opt_lslTo (by omega) ?_
    | refine opt_i rfl ?_
    | refine opt_mul (mulOk64 ⟨by omega, by omega⟩ ⟨by omega, by omega⟩) ?_
    | refine opt_mod (by omega) ?_
    | refine opt_shr (by omega) ?_
    | refine opt_fdiv (by constructor <;> first | decide | omega) ?_
    | refine opt_rng (by unfold rngOk; omega) ?_)
  | refine And.intro (Nat.le_of_ble_eq_true rfl) ?_
  | refine And.intro (by decide) ?_
  | refine And.intro (small (by first | omega | (dsimp only; omega))) ?_)
local macro_rules | `(tactic| walk_at "z1") => `(tactic| first
  | walk_at "z0"
  | ((with_reducible refine forL_id ?_); first | refine forL_cons ?_ | refine forL_nil ?_)
  | ((with_reducible refine lcL_id ?_); first | refine lcL_cons ?_ | refine lcL_nil ?_))
local macro_rules | `(tactic| walk_at "zs") => `(tactic| ((repeat walk_at "z0"); try (first | with_reducible refine forL_id ?_ | with_reducible refine lcL_id ?_)))
local macro_rules | `(tactic| walk_at "zf") => `(tactic| (refine fn_i rfl rfl rfl ?_; walk_at "zn"))
local macro_rules | `(tactic| walk_at "zi") => `(tactic| ((with_reducible refine ite_id ?_); first | refine if_d ?_ ?_ | refine if_n ?_ ?_))
local macro_rules | `(tactic| walk_at "zz") => `(tactic| (repeat walk_at "z1"; try ((walk_at "zi"; (all_goals intro _); (all_goals try (exfalso; omega)); (all_goals walk_at "zz")))))
local macro_rules | `(tactic| walk_at "z") => `(tactic| ((repeat walk_at "z1"); try (first | with_reducible refine forL_id ?_ | with_reducible refine ret_id ?_ | with_reducible refine turn_id ?_ | with_reducible refine lcL_id ?_ | with_reducible refine ite_id ?_ | refine call_id ?_ | with_reducible refine opt_id ?_)))
local macro_rules | `(tactic| walk_at "zh") => `(tactic| first | rfl | assumption | omega | decide)
theorem w_basis {n m : Nat} (ht : Tape n t) (hn : n < 1000000) (hm : m ≤ 5) (k : ∀ (i : Nat) t', i < 2 ^ m → Tape (n + 1) t' → Q (.tup [.int 0, .ob 1]) [t', .lst (rows (2 ^ m) fun y => if y = i then ⟨1, 0, 0, 0⟩ else az)]) : wpC (codeT Ds) (d + 2) f_law_a_basis [.ob 0, .int m] [t] Q := by
  have h5 := two5 hm
  have h0 : 0 < 2 ^ m := Nat.pow_pos (by decide)
  walk_at "zf"
  walk_at "z"
  refine w_two (by omega) ?_
  rw [show ((2 : Int) ^ m) = ((2 ^ m : Nat) : Int) by push_cast; rfl]
  generalize 2 ^ m = N at *
  refine opt_i (v := [W.tup [.int 0, .int 0, .int 0, .int 0]]) rfl ?_
  refine ⟨⟨by omega, by omega⟩, Nat.le_of_lt (small (by simp; omega)), ?_⟩
  rw [show ((N : Int)).toNat = N from Int.toNat_natCast N, rows_az]
  walk_at "z"
  rw [rows_len]
  refine p_draw ht ?_ ?_ fun v1 t1 v1l v1r ht1 => ?_
  · omega
  · omega
  obtain ⟨i, rfl⟩ : ∃ i : Nat, v1 = i := ⟨v1.toNat, by omega⟩
  walk_at "z"
  have hi : i < N := by omega
  have e : ixN (rows N fun _ => az).length (i : Int) = some i := by
    unfold ixN
    rw [rows_len, if_pos (by omega), if_pos (by omega)]
    simp
  refine opt_i e ?_
  walk_at "z"
  rw [show (rows N fun _ => az).set i (W.tup [.int 1, .int 0, .int 0, .int 0]) = rows N (fun y => if y = i then ⟨1, 0, 0, 0⟩ else az) from rows_set (a := ⟨1, 0, 0, 0⟩)]
  exact k i t1 hi ht1
theorem ixN_nat {n i : Nat} (h : i < n) : ixN n (i : Int) = some i := by
  unfold ixN
  rw [if_pos (by omega), if_pos (by omega)]
  simp
theorem w_avec {n m : Nat} (ht : Tape n t) (hn : n < 500000) (hm : m ≤ 5) (k : ∀ (s : Nat) (D : Nat → Amp) t', s ≤ 26 → (∀ y, Sz 1000 (D y)) → keys (2 ^ m) D ≠ [] → Tape (n + 400) t' → Q (dvecW (2 ^ m) s D) [t']) : wpC (codeT Ds) (d + 4) f_law_a_vec [.ob 0, .int m] [t] Q := by
  have h5 := two5 hm
  have h0 : 0 < 2 ^ m := Nat.pow_pos (by decide)
  walk_at "zf"
  walk_at "zs"
  refine w_basis ht (by omega) hm fun b t1 hb ht1 => ?_
  have sz0 : ∀ y, Sz 1 ((fun y => if y = b then (⟨1, 0, 0, 0⟩ : Amp) else az) y) := Sz.upd (D := fun _ => az) (fun _ => Sz.az (by decide)) (by unfold Sz; dsimp only; omega)
  have nz0 : keys (2 ^ m) (fun y => if y = b then (⟨1, 0, 0, 0⟩ : Amp) else az) ≠ [] := nz_at hb (by rw [if_pos rfl]; decide)
  generalize hD0 : (fun y => if y = b then (⟨1, 0, 0, 0⟩ : Amp) else az) = D0 at *
  clear hD0
  have tailB : ∀ t', Tape (n + 2) t' → wpS (wpC (codeT Ds) (d + 3)) (tlN 2 m_law_a_vec.body) [some (.ob 0), some (.int m), some (.tup [.int 0, .ob 1]), none, none, none, none] [t', .lst (rows (2 ^ m) D0)] (Post.fn (retEnd true [t] Q)) := fun t' ht' => by
    generalize hN : 2 ^ m = N at *
    dsimp only [m_law_a_vec, tlN]
    walk_at "zs"
    refine p_pick ht' ?_ ?_ ?_ fun x2 t2 x2m ht2 => ?_
    · omega
    · simp
    · simp [sizeLine]
    obtain ⟨wide, rfl, hw1, hw2⟩ : ∃ w : Int, x2 = .int w ∧ 1 ≤ w ∧ w ≤ 99 := by
      simp at x2m
      rcases x2m with rfl | rfl | rfl | rfl <;> exact ⟨_, rfl, by omega, by omega⟩
    have finB : ∀ (D D' : Nat → Amp) (v : Int) (t' x : W), 0 ≤ v → v < 21 → Tape (n + 400) t' → (∀ y, Sz 1000 (D' y)) → keys N D' ≠ [] → ((x = .ob 1 ∧ D' = D) ∨ x = .lst (rows N D')) → retEnd true [t] Q (.tup [.int v, x]) [t', .lst (rows N D)] := fun D D' v t' x h1 h2 ht' hz nz hx => by
      obtain ⟨c, rfl⟩ : ∃ c : Nat, v = c := ⟨v.toNat, by omega⟩
      refine ⟨_, [t'], .tup (.cons (.same rfl) (.cons (y := .lst (rows N D')) ?_ .nil)), ⟨rfl, by simp, fun i hi => ?_⟩, k c D' t' (by omega) hz nz ht'⟩
      · rcases hx with ⟨rfl, rfl⟩ | rfl
        · exact .ob (Nat.le_refl 1) rfl (fzs_same rows_wf)
        · exact .same rows_wf
      · have : i = 0 := by simpa using hi
        subst this
        exact .inr ⟨t', t', rfl, rfl, ht'.fz⟩
    have tailC : ∀ (D : Nat → Amp) (t' : W) (z : Option W), (∀ y, Sz 99 (D y)) → keys N D ≠ [] → Tape (n + 300) t' → wpS (wpC (codeT Ds) (d + 3)) (tlN 6 m_law_a_vec.body) [some (.ob 0), some (.int m), some (.tup [.int 0, .ob 1]), z, some (.int wide), some (.ob 1), none] [t', .lst (rows N D)] (Post.fn (retEnd true [t] Q)) := fun D t' z hD nz ht' => by
      dsimp only [m_law_a_vec, tlN]
      have done : ∀ (D' : Nat → Amp) (t' x : W) (z : Option W), Tape (n + 350) t' → (∀ y, Sz 1000 (D' y)) → keys N D' ≠ [] → ((x = .ob 1 ∧ D' = D) ∨ x = .lst (rows N D')) → wpS (wpC (codeT Ds) (d + 3)) (tlN 7 m_law_a_vec.body) [some (.ob 0), some (.int m), some (.tup [.int 0, .ob 1]), z, some (.int wide), some x, none] [t', .lst (rows N D)] (Post.fn (retEnd true [t] Q)) := fun D' t' x z ht' hz nz2 hx => by
        dsimp only [m_law_a_vec, tlN]
        walk_at "zs"
        refine p_draw ht' ?_ ?_ fun v1 t1 v1l v1r ht1 => ?_
        iterate 2 walk_at "zh"
        walk_at "zs"
        exact finB D D' v1 t1 x v1l (by omega) (ht1.mono (by omega)) hz nz2 hx
      walk_at "zs"
      refine if_d (fun h => ?_) (fun h => ?_)
      · walk_at "zs"
        refine p_pick ht' ?_ ?_ ?_ fun x2 t2 x2m ht2 => ?_
        · omega
        · simp
        · simp [sizeLine]
        obtain ⟨c, rfl, hc⟩ : ∃ c : Nat, x2 = .int c ∧ c ≤ 3 := by
          simp at x2m
          rcases x2m with rfl | rfl | rfl | rfl
          · exact ⟨0, rfl, by omega⟩
          · exact ⟨1, rfl, by omega⟩
          · exact ⟨2, rfl, by omega⟩
          · exact ⟨3, rfl, by omega⟩
        walk_at "zs"
        rw [show ((c : Int) - 0).toNat = c by omega]
        refine for_rng (fun i e g' => ∃ (D' : Nat → Amp) (x : W) (z : Option W), g' = [t2, .lst (rows N D)] ∧ ((x = .ob 1 ∧ D' = D) ∨ x = .lst (rows N D')) ∧ (∀ y, Sz (99 * 2 ^ i) (D' y)) ∧ keys N D' ≠ [] ∧ e = [some (.ob 0), some (.int m), some (.tup [.int 0, .ob 1]), z, some (.int wide), some x, none]) ?_ ?_ ⟨D, .ob 1, z, rfl, .inl ⟨rfl, rfl⟩, fun y => (hD y).mono (by decide), nz, rfl⟩
        · rintro i k' hi hk _ _ ⟨D', x, z', rfl, hx, hz, nz2, rfl⟩
          obtain ⟨o, hit, st⟩ : ∃ o, iterW [t2, .lst (rows N D)] x = some (o, rows N D') ∧ stays [t2, .lst (rows N D)] o (rows N D') := by
            rcases hx with ⟨rfl, rfl⟩ | rfl
            · exact ⟨some 1, rfl, rfl⟩
            · exact ⟨none, rfl, trivial⟩
          walk_at "zs"
          refine opt_i hit ?_
          refine lc_mapO (fun y => (root (D' y)).w) st (fun y hy kk h1 => ?_) ?_
          · walk_at "zs"
            refine w_lroot ?_
            exact h1
          walk_at "zs"
          have wx : wf 2 x = true := by
            rcases hx with ⟨rfl, rfl⟩ | rfl
            · rfl
            · exact rows_wf
          refine turn_gc0 (g := [t2, .lst (rows N D)]) (rest := [.lst (rows N fun y => root (D' y))]) (e3 := [some (.ob 0), some (.int m), some (.tup [.int 0, .ob 1]), some (.int (0 + i)), some (.int wide), some (.lst (rows N fun y => root (D' y))), none]) ⟨rfl, fun j w hw => .inr ?_⟩ (hk _ _ ⟨fun y => root (D' y), _, _, rfl, .inr rfl, fun y => ?_, nz_root nz2, rfl⟩)
          · rcases j with _ | _ | _ | _ | _ | _ | _ | j
            · cases hw; exact ⟨_, rfl, .same rfl⟩
            · cases hw; exact ⟨_, rfl, .same rfl⟩
            · cases hw; exact ⟨_, rfl, .same rfl⟩
            · cases hw; exact ⟨_, rfl, .same rfl⟩
            · cases hw; exact ⟨_, rfl, .same rfl⟩
            · cases hw; exact ⟨_, rfl, .ob (Nat.le_refl 2) rfl (fzs_same rows_wf)⟩
            · cases hw
            · cases hw
          · have := (hz y).root
            rw [Int.pow_succ]
            exact this.mono (by omega)
        · rintro _ _ ⟨D', x, z', rfl, hx, hz, nz2, rfl⟩
          have hz' : ∀ y, Sz 1000 (D' y) := fun y => (hz y).mono (by
            have : c = 0 ∨ c = 1 ∨ c = 2 ∨ c = 3 := by omega
            rcases this with rfl | rfl | rfl | rfl <;> decide)
          repeat first | exact done D' t2 x _ (ht2.mono (by omega)) hz' nz2 hx | walk_at "z0"
      · repeat first | exact done D t' (.ob 1) _ (ht'.mono (by omega)) (fun y => (hD y).mono (by decide)) nz (.inl ⟨rfl, rfl⟩) | walk_at "z0"
    walk_at "zs"
    rw [rows_len]
    refine p_draw ht2 ?_ ?_ fun v3 t3 v3l v3r ht3 => ?_
    · omega
    · split <;> omega
    have hv3 : v3 ≤ 16 := by
      split at v3r <;> omega
    obtain ⟨c, rfl⟩ : ∃ c : Nat, v3 = c := ⟨v3.toNat, by omega⟩
    walk_at "zs"
    rw [show ((c : Int) - 0).toNat = c by omega]
    refine for_rng (fun i e g' => ∃ (D : Nat → Amp) (t' : W) (z : Option W), g' = [t', .lst (rows N D)] ∧ (∀ y, Sz 99 (D y)) ∧ Tape (n + 4 + 8 * i) t' ∧ e = [some (.ob 0), some (.int m), some (.tup [.int 0, .ob 1]), z, some (.int wide), some (.ob 1), none]) ?_ ?_ ⟨D0, t3, none, rfl, fun y => (sz0 y).mono (by decide), ht3.mono (by omega), rfl⟩
    · rintro i k' hi hk _ _ ⟨D, t', z, rfl, hD, ht4, rfl⟩
      walk_at "zs"
      refine w_aamp (rest := [_]) ht4 (by omega) hw1 hw2 fun a t5 ha ht5 => ?_
      walk_at "zs"
      rw [rows_len]
      refine p_draw ht5 ?_ ?_ fun v6 t6 v6l v6r ht6 => ?_
      · omega
      · omega
      obtain ⟨j, rfl⟩ : ∃ j : Nat, v6 = j := ⟨v6.toNat, by omega⟩
      walk_at "zs"
      refine opt_i (by rw [rows_len]; exact ixN_nat (by omega)) ?_
      walk_at "zs"
      rw [rows_set]
      exact hk _ _ ⟨_, t6, _, rfl, Sz.upd hD (ha.mono hw2), ht6.mono (by omega), rfl⟩
    · rintro _ _ ⟨D, t', z, rfl, hD, ht4, rfl⟩
      walk_at "zs"
      refine w_lnone (x := .ob 1) (o := some 1) rfl rfl ?_
      walk_at "zs"
      refine if_b (fun h => ?_) (fun h => ?_)
      · walk_at "zs"
        refine opt_i (by rw [rows_len]; exact ixN_nat (i := 0) (by omega)) ?_
        have e : (rows N D).set 0 (W.tup [.int 0, .int 1, .int 0, .int (-1)]) = rows N (fun y => if y = 0 then ⟨0, 1, 0, -1⟩ else D y) := rows_set (a := ⟨0, 1, 0, -1⟩)
        refine put_i ?_
        rw [e]
        repeat first | exact tailC _ t' _ (Sz.upd hD (by unfold Sz; dsimp only; omega)) (nz_at (y := 0) (by omega) (by rw [if_pos rfl]; decide)) (ht4.mono (by omega)) | walk_at "z0"
      · repeat first | exact tailC D t' _ hD (fun e => by rw [e] at h; cases h) (ht4.mono (by omega)) | walk_at "z0"
  walk_at "zs"
  refine if_d (fun h => ?_) (fun h => ?_)
  · walk_at "zs"
    refine p_draw ht1 ?_ ?_ fun v2 t2 v2l v2r ht2 => ?_
    iterate 2 walk_at "zh"
    walk_at "zs"
    refine if_d (fun h2 => ?_) (fun h2 => ?_)
    · walk_at "zs"
      refine p_draw ht2 ?_ ?_ fun v3 t3 v3l v3r ht3 => ?_
      iterate 2 walk_at "zh"
      obtain ⟨c, rfl⟩ : ∃ c : Nat, v3 = c := ⟨v3.toNat, by omega⟩
      walk_at "zs"
      rw [show ((1 : Int) + (c : Int) - 0).toNat = c + 1 by omega]
      have hb4 : ∀ i, i ≤ 3 → (1 : Int) * 4 ^ i ≤ 1000 := fun i hi => by
        have : i = 0 ∨ i = 1 ∨ i = 2 ∨ i = 3 := by omega
        rcases this with rfl | rfl | rfl | rfl <;> decide
      refine for_rng (fun i e g' => ∃ (D : Nat → Amp) (t' x : W) (z : Option W), g' = [t', .lst (rows (2 ^ m) D0)] ∧ ((i = 0 ∧ x = .ob 1 ∧ D = D0) ∨ (0 < i ∧ x = .lst (rows (2 ^ m) D))) ∧ (∀ y, Sz (1 * 4 ^ i) (D y)) ∧ keys (2 ^ m) D ≠ [] ∧ Tape (n + 4 + 10 * i) t' ∧ e = [some (.ob 0), some (.int m), some (.tup [.int ((2 * i : Nat) : Int), x]), z, none, none, none]) ?_ ?_ ⟨D0, t3, .ob 1, none, rfl, .inl ⟨rfl, rfl, rfl⟩, sz0, nz0, ht3.mono (by omega), rfl⟩
      · rintro i k' hi hk _ _ ⟨D, t', x, z, rfl, hx, hz, nz, ht4, rfl⟩
        walk_at "zs"
        refine p_draw ht4 ?_ ?_ fun v5 t5 v5l v5r ht5 => ?_
        · omega
        · decide
        walk_at "zs"
        refine w_flat (least := 1) (rest := [_]) ht5 (by omega) hm (.inr (by omega)) fun p t6 hp ht6 => ?_
        walk_at "zs"
        have hs : Stands [t6, .lst (rows (2 ^ m) D0)] x (rows (2 ^ m) D) := by
          rcases hx with ⟨_, rfl, rfl⟩ | ⟨_, rfl⟩
          · exact fun more => rfl
          · exact stands_fz
        refine w_lphase hs hm hp ?_
        walk_at "zs"
        exact hk _ _ ⟨_, t6, _, _, rfl, .inr ⟨Nat.succ_pos i, rfl⟩, fun y => by
          have := ph_sz (k := 1 + v5) (p := p) hz y
          rw [Int.pow_succ]
          exact this.mono (by omega), ph_nz hp nz, ht6.mono (by omega), rfl⟩
      · rintro _ _ ⟨D, t', x, z, rfl, hx, hz, nz, ht4, rfl⟩
        rcases hx with ⟨h0', _, _⟩ | ⟨_, rfl⟩
        · omega
        walk_at "zs"
        exact ret_gcR (rest := []) (more := [_]) ht4 (by show (true && wfs 1 _ && true) = true; rw [rows_wf]; rfl) (k (2 * (c + 1)) D t' (by omega) (fun y => (hz y).mono (hb4 _ (by omega))) nz (ht4.mono (by omega)))
    · repeat first | exact tailB t2 ht2 | walk_at "z0"
  · repeat first | exact tailB t1 (ht1.mono (by omega)) | walk_at "z0"
end
end Z.K07
namespace Z.K07
open PySem PySem.Spec L2
open PyProof.Rows hiding St
section
variable {d : Nat} {g : CH} {Q : WK} {t : W}
local macro_rules | `(tactic| walk_at "zn") => `(tactic| dsimp only [List.set_cons_zero, List.set_cons_succ, zwipe0, zwipeS, zmap_cons, zmap_nil, zcons_app, znil_app, List.replicate_succ, List.replicate_zero, Nat.reduceSub, Int.reduceAdd, Int.reduceSub, Int.reduceNeg, Int.reduceMul, Int.reduceToNat, Int.reducePow, List.length_cons, List.length_nil, Nat.reduceAdd])
local macro_rules | `(tactic| walk_at "z0") => `(tactic| first
  | with_reducible refine nx_seq ?_
  | with_reducible refine nop_i ?_
  | with_reducible refine k_i ?_
  | with_reducible refine seq_i ?_
  | with_reducible refine reti ?_
  | with_reducible refine gl_i ?_
  | with_reducible refine anil_i ?_
  | with_reducible refine tnil_i ?_
  | with_reducible refine rt_seq ?_
  | with_reducible refine nx_turn ?_
  | with_reducible refine rt_turn ?_
  | with_reducible refine fn_rt ?_
  | with_reducible refine bk_seq ?_
  | with_reducible refine ct_seq ?_
  | with_reducible refine bk_turn ?_
  | with_reducible refine ct_turn ?_
  | with_reducible refine fn_nx ?_
  | ((with_reducible refine turn_id ?_); refine turn_ng ?_)
  | ((with_reducible refine ret_id ?_); refine ret_ng ?_)
  | ((with_reducible refine ite_id ?_); first | refine if_t rfl ?_ | refine if_f rfl ?_)
  | (refine opt_id ?_; first
    | (refine opt_asg rfl ?_; walk_at "zn")
    | (refine put_i ?_; walk_at "zn")
    | (refine add_i ?_; walk_at "zn")
    | with_reducible refine opt_eq ?_
    | ((with_reducible refine opt_pow ⟨by omega, by omega, by omega⟩ ?_); walk_at "zn")
    | with_reducible refine opt_ne ?_
    | with_reducible refine opt_slTo (by omega) ?_
    | with_reducible refine opt_slFrom (by omega) ?_
    | with_reducible refine opt_lslTo (by omega) ?_
    | refine opt_i rfl ?_
    | refine opt_mul (mulOk64 ⟨by omega, by omega⟩ ⟨by omega, by omega⟩) ?_
    | refine opt_mod (by omega) ?_
    | refine opt_shr (by omega) ?_
    | refine opt_fdiv (by constructor <;> first | decide | omega) ?_
    | refine opt_rng (by unfold rngOk; omega) ?_)
  | refine And.intro (Nat.le_of_ble_eq_true rfl) ?_
  | refine And.intro (by decide) ?_
  | refine And.intro (small (by first | omega | (dsimp only; omega))) ?_)
local macro_rules | `(tactic| walk_at "z1") => `(tactic| first
  | walk_at "z0"
  | ((with_reducible refine forL_id ?_); first | refine forL_cons ?_ | refine forL_nil ?_)
  | ((with_reducible refine lcL_id ?_); first | refine lcL_cons ?_ | refine lcL_nil ?_))
local macro_rules | `(tactic| walk_at "zs") => `(tactic| ((repeat walk_at "z0"); try (first | with_reducible refine forL_id ?_ | with_reducible refine lcL_id ?_)))
local macro_rules | `(tactic| walk_at "zf") => `(tactic| (refine fn_i rfl rfl rfl ?_; walk_at "zn"))
local macro_rules | `(tactic| walk_at "zi") => `(tactic| ((with_reducible refine ite_id ?_); first | refine if_d ?_ ?_ | refine if_n ?_ ?_))
local macro_rules | `(tactic| walk_at "zz") => `(tactic| (repeat walk_at "z1"; try ((walk_at "zi"; (all_goals intro _); (all_goals try (exfalso; omega)); (all_goals walk_at "zz")))))
local macro_rules | `(tactic| walk_at "z") => `(tactic| ((repeat walk_at "z1"); try (first | with_reducible refine forL_id ?_ | with_reducible refine ret_id ?_ | with_reducible refine turn_id ?_ | with_reducible refine lcL_id ?_ | with_reducible refine ite_id ?_ | refine call_id ?_ | with_reducible refine opt_id ?_)))
local macro_rules | `(tactic| walk_at "zh") => `(tactic| first | rfl | assumption | omega | decide)
theorem w_lpart {m c : Nat} {s : Int} {D : Nat → Amp} {p : Prod} (hs : s = 1 ∨ s = -1) (hm : m ≤ 5) (hp : PrOk m p) (k : Q (dvecW (2 ^ m) (c + 2) (prD s p D)) g) : wpC (codeT Ds) (d + 3) f_law_vec_part [dvecW (2 ^ m) c D, .int s, prodW p] g Q := by
  have h5 := two5 hm
  unfold dvecW at *
  walk_at "zf"
  walk_at "zs"
  refine w_lact (x := .lst (rows (2 ^ m) D)) stands_fz hm hp ?_
  generalize hn : 2 ^ m = n at *
  walk_at "zs"
  rw [rows_len]
  walk_at "zs"
  rw [show ((n : Int) - 0).toNat = n by omega, rangeW_map, List.map_map]
  refine lc_map (as := List.range n) (wi := W.int ∘ fun k : Nat => (0 : Int) + (k : Int)) (fun y => (prD s p D y).w) (fun y hy kk h1 => ?_) ?_
  · have hy := List.mem_range.mp hy
    have hy2 : ((0 : Int) + (y : Int)).toNat = y := by omega
    dsimp only [Function.comp]
    have hs2 : -1 ≤ s ∧ s ≤ 1 := by omega
    walk_at "zs"
    refine opt_ixl (by omega) (x := (D y).w) (by rw [hy2]; exact rows_at hy) ?_
    walk_at "zs"
    refine opt_ixl (by omega) (x := (act 0 p D y).w) (by rw [hy2]; exact rows_at hy) ?_
    walk_at "zs"
    refine w_lturn ?_
    walk_at "zs"
    refine w_lplus ?_
    rw [act_sign hs]
    exact h1
  walk_at "zs"
  rw [show ((c : Int) + 2) = ((c + 2 : Nat) : Int) by omega]
  exact k
/-- made magic -/
def mgD (q : Nat) (D : Nat → Amp) : Nat → Amp := fun y => (D y).add (tn 1 (act 0 [(q, .X)] D y))
theorem w_lmagic {m c q : Nat} {D : Nat → Amp} (hm : m ≤ 5) (hq : q < m) (k : Q (dvecW (2 ^ m) (c + 1) (mgD q D)) g) : wpC (codeT Ds) (d + 3) f_law_vec_magic [dvecW (2 ^ m) c D, .int q] g Q := by
  have h5 := two5 hm
  have hp : PrOk m [(q, Lt.X)] := ⟨fun f hf => by rw [List.mem_singleton.mp hf]; exact hq, by simp [qs]⟩
  unfold dvecW at *
  walk_at "zf"
  walk_at "zs"
  refine w_lact (p := [(q, Lt.X)]) (x := .lst (rows (2 ^ m) D)) stands_fz hm hp ?_
  generalize hn : 2 ^ m = n at *
  walk_at "zs"
  rw [rows_len]
  walk_at "zs"
  rw [show ((n : Int) - 0).toNat = n by omega, rangeW_map, List.map_map]
  refine lc_map (as := List.range n) (wi := W.int ∘ fun k : Nat => (0 : Int) + (k : Int)) (fun y => (mgD q D y).w) (fun y hy kk h1 => ?_) ?_
  · have hy := List.mem_range.mp hy
    have hy2 : ((0 : Int) + (y : Int)).toNat = y := by omega
    dsimp only [Function.comp]
    walk_at "zs"
    refine opt_ixl (by omega) (x := (D y).w) (by rw [hy2]; exact rows_at hy) ?_
    walk_at "zs"
    refine opt_ixl (by omega) (x := (act 0 [(q, Lt.X)] D y).w) (by rw [hy2]; exact rows_at hy) ?_
    walk_at "zs"
    refine w_lturn ?_
    walk_at "zs"
    refine w_lplus ?_
    exact h1
  walk_at "zs"
  rw [show ((c : Int) + 1) = ((c + 1 : Nat) : Int) by omega]
  exact k
theorem mod_bit (y q : Nat) : ((y : Int) / ((2 ^ q : Nat) : Int)) % 2 = 0 ↔ y.testBit q = false := by
  rw [bit_val]
  unfold bitI
  cases y.testBit q <;> simp
theorem upto {f : Nat → Amp} {y : Nat} {a : Amp} (h : f y = a) : (fun z => if z = y then a else (fun z => if z < y then f z else az) z) = fun z => if z < y + 1 then f z else az := by
  funext z
  dsimp only
  by_cases e : z = y
  · subst e; rw [if_pos rfl, if_pos (Nat.lt_succ_self _), h]
  · rw [if_neg e]
    by_cases l : z < y
    · rw [if_pos l, if_pos (by omega)]
    · rw [if_neg l, if_neg (by omega)]
theorem upto0 {f : Nat → Amp} {y : Nat} (h : f y = az) : (fun z => if z < y then f z else az) = fun z => if z < y + 1 then f z else az := by
  funext z
  by_cases e : z = y
  · subst e; rw [if_neg (Nat.lt_irrefl _), if_pos (Nat.lt_succ_self _), h]
  · by_cases l : z < y
    · rw [if_pos l, if_pos (by omega)]
    · rw [if_neg l, if_neg (by omega)]
theorem rows_eq {n : Nat} {A B : Nat → Amp} : W.lst (rows n A) = .lst (rows n B) ↔ ∀ y, y < n → A y = B y := by
  rw [W.lst.injEq]
  unfold rows
  rw [List.map_inj_left]
  constructor
  · intro h y hy
    have e := h y (List.mem_range.mpr hy)
    have := Amp.beq (A y) (B y)
    rw [e, W.beq_refl] at this
    exact of_decide_eq_true this.symm
  · intro h y hy
    rw [h y (List.mem_range.mp hy)]
theorem rows_pln {n : Nat} {A : Nat → Amp} : pln 2 (.lst (rows n A)) = true := by
  simp only [pln, List.all_eq_true]
  intro x hx
  obtain ⟨y, _, rfl⟩ := List.mem_map.mp hx
  rfl
theorem opt_eqR {n : Nat} {x y x' y' : W} {R : Bool → Prop} (hx : dr g x = x') (hy : dr g y = y') (hx2 : dr g x' = x') (hy2 : dr g y' = y') (h1 : pln n x' = true) (h2 : pln n y' = true) (hn : n ≤ 60) (q : R (W.beq x' y')) : opt (cop g .eq x y) R := by
  refine ⟨_, ?_, q⟩
  have e : eqD g x y = eqD g x' y' := by unfold eqD; rw [hx, hy, hx2, hy2]
  have := eqD_pln hx2 hy2 h1 h2 hn
  rw [← e] at this
  cases x <;> cases y <;> exact this
theorem ret_fz1 {t v v' : W} {rest : CH} (h : Fz 1 (t :: rest) v v') (q : Q v' [t]) : retEnd true [t] Q v (t :: rest) :=
  ⟨v', [t], h, ⟨rfl, by simp, fun i hi => by have : i = 0 := by simpa using hi
                                             subst this; exact .inl ⟨rfl, rfl⟩⟩, q⟩
theorem w_lclear {m s q : Nat} {D : Nat → Amp} (hm : m ≤ 5) (hq : q < m) (k : Q (.lst ((clrs (2 ^ m) q D).map (dvecW (2 ^ m) s))) [t]) : wpC (codeT Ds) (d + 4) f_law_vec_clear [dvecW (2 ^ m) s D, .int q] [t] Q := by
  have h5 := two5 hm
  have p2q := p2 (show q < 5 by omega)
  have p2l := p2l (show q < 5 by omega)
  have fl : ∀ y, y < 2 ^ m → flip y q < 2 ^ m := fun y hy => flip_lt hy hq
  have fu : ∀ y : Nat, y < 2 ^ m → y.testBit q = false → (y : Int) + ((2 ^ q : Nat) : Int) = (flip y q : Int) := fun y hy hb => by
    have := flip_up (b := y) (q := q) (by omega) (by omega) hb
    rw [← this, Int.one_mul]
    push_cast; rfl
  have mb := fun y => mod_bit y q
  unfold dvecW at *
  walk_at "zf"
  walk_at "zs"
  refine w_two (by omega) ?_
  rw [show ((2 : Int) ^ q) = ((2 ^ q : Nat) : Int) by push_cast; rfl]
  generalize hw : ((2 ^ q : Nat) : Int) = w at *
  generalize hN : 2 ^ m = N at *
  walk_at "zs"
  rw [rows_len]
  refine ⟨⟨by omega, by omega⟩, Nat.le_of_lt (small (by simp; omega)), ?_⟩
  rw [show ((N : Int)).toNat = N from Int.toNat_natCast N, rows_az]
  walk_at "zs"
  rw [rows_len]
  refine ⟨⟨by omega, by omega⟩, Nat.le_of_lt (small (by simp; omega)), ?_⟩
  rw [show ((N : Int)).toNat = N from Int.toNat_natCast N, rows_az]
  walk_at "zs"
  rw [rows_len]
  walk_at "zs"
  rw [show ((N : Int) - 0).toNat = N by omega]
  refine for_rng (fun i e g' => ∃ z1, g' = [t, .lst (rows N fun y => if y < i then loD q D y else az), .lst (rows N fun y => if y < i then hiD q D y else az)] ∧ e = [some (.tup [.int s, .lst (rows N D)]), some (.int q), some (.int w), some (.lst (rows N D)), some (.ob 1), some (.ob 2), z1, none, none]) ?_ ?_ ⟨none, rfl, rfl⟩
  · rintro y k' hy hk _ _ ⟨z1, rfl, rfl⟩
    walk_at "zs"
    rw [zadd]
    refine if_d (fun h => ?_) (fun h => ?_)
    · have hb := (mb y).mp h
      walk_at "zs"
      refine opt_ixl (by omega) (x := (D y).w) (by rw [Int.toNat_natCast]; exact rows_at hy) ?_
      walk_at "zs"
      refine opt_i (by rw [rows_len]; exact ixN_nat hy) ?_
      walk_at "zs"
      rw [rows_set, upto (f := loD q D) (by unfold loD; rw [hb]; rfl)]
      rw [fu y hy hb]
      refine opt_ixl (by omega) (x := (D (flip y q)).w) (by rw [Int.toNat_natCast]; exact rows_at (fl y hy)) ?_
      walk_at "zs"
      refine opt_i (by rw [rows_len]; exact ixN_nat hy) ?_
      walk_at "zs"
      rw [rows_set, upto (f := hiD q D) (by unfold hiD; rw [hb]; rfl)]
      exact hk _ _ ⟨_, rfl, rfl⟩
    · have hb : y.testBit q = true := by
        cases hb : y.testBit q
        · exact absurd ((mb y).mpr hb) h
        · rfl
      walk_at "zs"
      rw [upto0 (f := loD q D) (y := y) (if_pos hb), upto0 (f := hiD q D) (y := y) (if_pos hb)]
      exact hk _ _ ⟨_, rfl, rfl⟩
  · rintro _ _ ⟨z1, rfl, rfl⟩
    rw [rows_congr (D := fun y => if y < N then loD q D y else az) (D' := loD q D) fun y hy => if_pos hy]
    rw [rows_congr (D := fun y => if y < N then hiD q D y else az) (D' := hiD q D) fun y hy => if_pos hy]
    unfold clrs at k
    generalize loD q D = A at *
    generalize hiD q D = B at *
    walk_at "zs"
    refine w_lnone (x := .ob 1) (o := some 1) rfl rfl ?_
    walk_at "zs"
    by_cases h1 : keys N A = []
    · refine if_t (by rw [h1]; rfl) ?_
      rw [if_pos h1] at k
      walk_at "zs"
      exact ret_fz1 (.lst (.cons (.tup (.cons (.same rfl) (.cons (.ob (by decide) rfl (fzs_same rows_wf)) .nil))) .nil)) k
    have e1 : (keys N A).isEmpty = false := by
      cases hk : keys N A with
      | nil => exact absurd hk h1
      | cons => rfl
    refine if_f e1 ?_
    rw [if_neg h1] at k
    walk_at "zs"
    refine w_lnone (x := .ob 2) (o := some 2) rfl rfl ?_
    walk_at "zs"
    by_cases h2 : keys N B = []
    · refine if_t (by rw [h2]; rfl) ?_
      rw [if_pos h2] at k
      walk_at "zs"
      exact ret_fz1 (.lst (.cons (.tup (.cons (.same rfl) (.cons (.ob (by decide) rfl (fzs_same rows_wf)) .nil))) .nil)) k
    have e2 : (keys N B).isEmpty = false := by
      cases hk : keys N B with
      | nil => exact absurd hk h2
      | cons => rfl
    refine if_f e2 ?_
    rw [if_neg h2] at k
    obtain ⟨r, hr⟩ : ∃ r, ft (Tn N A B) 8 0 = r := ⟨_, rfl⟩
    rw [hr] at k
    walk_at "zs"
    refine for_rng (fun i e g' => ∃ z2 z3, i ≤ 8 ∧ g' = [t, .lst (rows N A), .lst (rows N B)] ∧ r = ft (Tn N A B) (8 - i) i ∧ e = [some (.tup [.int s, .lst (rows N D)]), some (.int q), some (.int w), some (.lst (rows N D)), some (.ob 1), some (.ob 2), z1, z2, z3]) ?_ ?_ ⟨none, none, by omega, rfl, hr.symm, rfl⟩
    · rintro i k' hi hk _ _ ⟨z2, z3, hi8, rfl, hf, rfl⟩
      have hi : i < 8 := hi
      obtain ⟨j, hj⟩ : ∃ j, 8 - i = j + 1 := ⟨7 - i, by omega⟩
      have hj2 : 8 - (i + 1) = j := by omega
      rw [hj2] at hk
      rw [hj, ft] at hf
      walk_at "zs"
      refine lc_mapO (as := List.range N) (wi := fun y => (A y).w) (fun y => (tn i (A y)).w) rfl (fun y hy kk h1 => ?_) ?_
      · walk_at "zs"
        refine w_lturn ?_
        rw [zadd]
        exact h1
      walk_at "zs"
      refine opt_eqR (n := 2) (x' := .lst (rows N fun y => tn i (A y))) (y' := .lst (rows N B)) rfl rfl rfl rfl rows_pln rows_pln (by decide) ?_
      rw [beq_dec (P := Tn N A B i) (rows_eq (A := fun y => tn i (A y)))]
      refine if_d (fun h => ?_) (fun h => ?_)
      · rw [if_pos h] at hf
        subst hf
        rw [if_pos (by simp)] at k
        walk_at "zs"
        refine lc_mapO (as := List.range N) (wi := fun y => (A y).w) (fun y => (root (A y)).w) rfl (fun y hy kk h1 => ?_) ?_
        · walk_at "zs"
          refine w_lroot ?_
          exact h1
        walk_at "zs"
        refine ret_fz1 (.same ?_) k
        simp only [List.map_cons, List.map_nil, wf, wfs]
        exact Bool.and_eq_true_iff.mpr ⟨Bool.and_eq_true_iff.mpr ⟨rfl, Bool.and_eq_true_iff.mpr ⟨rows_wf (D := fun y => root (A y)), rfl⟩⟩, rfl⟩
      · rw [if_neg h] at hf
        walk_at "zs"
        exact hk _ _ ⟨_, _, by omega, rfl, hf, rfl⟩
    · rintro _ _ ⟨z2, z3, hi8, rfl, hf, rfl⟩
      have hf : r = none := hf
      subst hf
      rw [if_neg (by simp)] at k
      walk_at "zs"
      exact ret_fz1 (.lst (.cons (.tup (.cons (.same rfl) (.cons (.ob (by decide) rfl (fzs_same rows_wf)) .nil))) (.cons (.tup (.cons (.same rfl) (.cons (.ob (by decide) rfl (fzs_same rows_wf)) .nil))) .nil))) k
def pzD (n q a : Nat) (D : Nat → Amp) : Nat → Amp :=
  if a = 0 then (if keys n (loD q D) = [] then hiD q D else loD q D) else (if keys n (hiD q D) = [] then loD q D else hiD q D)
theorem pz_bit {n q a y : Nat} {D : Nat → Amp} (h : y.testBit q = true) : pzD n q a D y = az := by
  unfold pzD
  have h1 : loD q D y = az := if_pos h
  have h2 : hiD q D y = az := if_pos h
  repeat' split
  all_goals assumption
theorem flip_flip (y q : Nat) : flip (flip y q) q = y := by unfold flip; rw [Nat.xor_assoc, Nat.xor_self, Nat.xor_zero]
theorem upf {f : Nat → Amp} {y q : Nat} {a : Amp} (h : f (flip y q) = a) : (fun z => if z = flip y q then a else (fun z => if flip z q < y then f z else az) z) = fun z => if flip z q < y + 1 then f z else az := by
  funext z
  dsimp only
  by_cases e : z = flip y q
  · subst e; rw [if_pos rfl, flip_flip, if_pos (Nat.lt_succ_self _), h]
  · rw [if_neg e]
    have : flip z q ≠ y := fun c => e (by rw [← c, flip_flip])
    by_cases l : flip z q < y
    · rw [if_pos l, if_pos (by omega)]
    · rw [if_neg l, if_neg (by omega)]
theorem upf0 {f : Nat → Amp} {y q : Nat} (h : f (flip y q) = az) : (fun z => if flip z q < y then f z else az) = fun z => if flip z q < y + 1 then f z else az := by
  rw [← upf h]
  funext z
  dsimp only
  by_cases e : z = flip y q
  · subst e; rw [if_pos rfl, flip_flip, if_neg (Nat.lt_irrefl _)]
  · rw [if_neg e]
end
end Z.K07
namespace Z.K07
open PySem PySem.Spec L2
open PyProof.Rows hiding St
section
variable {d : Nat} {g : CH} {Q : WK} {t : W}
local macro_rules | `(tactic| walk_at "zn") => `(tactic| dsimp only [List.set_cons_zero, List.set_cons_succ, zwipe0, zwipeS, zmap_cons, zmap_nil, zcons_app, znil_app, List.replicate_succ, List.replicate_zero, Nat.reduceSub, Int.reduceAdd, Int.reduceSub, Int.reduceNeg, Int.reduceMul, Int.reduceToNat, Int.reducePow, List.length_cons, List.length_nil, Nat.reduceAdd])
local macro_rules | `(tactic| walk_at "z0") => `(tactic| first
  | with_reducible refine nx_seq ?_
  | with_reducible refine nop_i ?_
  | with_reducible refine k_i ?_
  | with_reducible refine seq_i ?_
  | with_reducible refine reti ?_
  | with_reducible refine gl_i ?_
  | with_reducible refine anil_i ?_
  | with_reducible refine tnil_i ?_
  | with_reducible refine rt_seq ?_
  | with_reducible refine nx_turn ?_
  | with_reducible refine rt_turn ?_
  | with_reducible refine fn_rt ?_
  | with_reducible refine bk_seq ?_
  | with_reducible refine ct_seq ?_
  | with_reducible refine bk_turn ?_
  | with_reducible refine ct_turn ?_
  | with_reducible refine fn_nx ?_
  | ((with_reducible refine turn_id ?_); refine turn_ng ?_)
  | ((with_reducible refine ret_id ?_); refine ret_ng ?_)
  | ((with_reducible refine ite_id ?_); first | refine if_t rfl ?_ | refine if_f rfl ?_)
  | (refine opt_id ?_; first
    | (refine opt_asg rfl ?_; walk_at "zn")
    | (refine put_i ?_; walk_at "zn")
    | (refine add_i ?_; walk_at "zn")
    | with_reducible refine opt_eq ?_
    | ((with_reducible refine opt_pow ⟨by omega, by omega, by omega⟩ ?_); walk_at "zn")
    | with_reducible refine opt_ne ?_
    | with_reducible refine opt_slTo (by omega) ?_
    | with_reducible refine opt_slFrom (by omega) ?_
    | with_reducible refine opt_lslTo (by omega) ?_
    | refine opt_i rfl ?_
    | refine opt_mul (mulOk64 ⟨by omega, by omega⟩ ⟨by omega, by omega⟩) ?_
    | refine opt_mod (by omega) ?_
    | refine opt_shr (by omega) ?_
    | refine opt_fdiv (by constructor <;> first | decide | omega) ?_
    | refine opt_rng (by unfold rngOk; omega) ?_)
  | refine And.intro (Nat.le_of_ble_eq_true rfl) ?_
  | refine And.intro (by decide) ?_
  | refine And.intro (small (by first | omega | (dsimp only; omega))) ?_)
local macro_rules | `(tactic| walk_at "z1") => `(tactic| first
  | walk_at "z0"
  | ((with_reducible refine forL_id ?_); first | refine forL_cons ?_ | refine forL_nil ?_)
  | ((with_reducible refine lcL_id ?_); first | refine lcL_cons ?_ | refine lcL_nil ?_))
local macro_rules | `(tactic| walk_at "zs") => `(tactic| ((repeat walk_at "z0"); try (first | with_reducible refine forL_id ?_ | with_reducible refine lcL_id ?_)))
local macro_rules | `(tactic| walk_at "zf") => `(tactic| (refine fn_i rfl rfl rfl ?_; walk_at "zn"))
local macro_rules | `(tactic| walk_at "zi") => `(tactic| ((with_reducible refine ite_id ?_); first | refine if_d ?_ ?_ | refine if_n ?_ ?_))
local macro_rules | `(tactic| walk_at "zz") => `(tactic| (repeat walk_at "z1"; try ((walk_at "zi"; (all_goals intro _); (all_goals try (exfalso; omega)); (all_goals walk_at "zz")))))
local macro_rules | `(tactic| walk_at "z") => `(tactic| ((repeat walk_at "z1"); try (first | with_reducible refine forL_id ?_ | with_reducible refine ret_id ?_ | with_reducible refine turn_id ?_ | with_reducible refine lcL_id ?_ | with_reducible refine ite_id ?_ | refine call_id ?_ | with_reducible refine opt_id ?_)))
local macro_rules | `(tactic| walk_at "zh") => `(tactic| first | rfl | assumption | omega | decide)
/-- an expression -/
inductive X where
  | cell (n : Nat)
  | neg (x : X)
  | op (k : Nat) (xs : List X)
def wd (k : Nat) : Str := if k = 0 then "and" else if k = 1 then "or" else "xor"
mutual
def X.w : X → W
  | .cell n => .tup [.str "cell", .int n]
  | .neg x => .tup [.str "not", x.w]
  | .op k xs => .tup [.str (wd k), .tup (X.ws xs)]
def X.ws : List X → List W
  | [] => []
  | x :: xs => x.w :: X.ws xs
end
mutual
def X.dp : X → Nat
  | .cell _ => 1
  | .neg x => 1 + x.dp
  | .op _ xs => 1 + X.dps xs
def X.dps : List X → Nat
  | [] => 0
  | x :: xs => max x.dp (X.dps xs)
end
mutual
def X.cs : X → List Nat
  | .cell n => [n]
  | .neg x => x.cs
  | .op _ xs => X.css xs
def X.css : List X → List Nat
  | [] => []
  | x :: xs => x.cs ++ X.css xs
end
def opv (k : Nat) (vs : List Int) : Int := if k = 0 then (if 0 ∈ vs then 0 else 1) else if k = 1 then (if 1 ∈ vs then 1 else 0) else vs.sum % 2
mutual
def X.val (b : List Int) : X → Int
  | .cell n => b.getD n 0
  | .neg x => 1 - x.val b
  | .op k xs => opv k (X.vals b xs)
def X.vals (b : List Int) : List X → List Int
  | [] => []
  | x :: xs => x.val b :: X.vals b xs
end
theorem X.ws_map : ∀ xs : List X, X.ws xs = xs.map X.w
  | [] => rfl
  | x :: xs => by rw [X.ws, X.ws_map xs]; rfl
theorem X.vals_map (b : List Int) : ∀ xs : List X, X.vals b xs = xs.map (X.val b)
  | [] => rfl
  | x :: xs => by rw [X.vals, X.vals_map b xs]; rfl
theorem X.css_mem {c : Nat} : ∀ {xs : List X}, c ∈ X.css xs ↔ ∃ x ∈ xs, c ∈ x.cs
  | [] => by simp [X.css]
  | x :: xs => by simp [X.css, X.css_mem (xs := xs)]
theorem X.dps_le {n : Nat} : ∀ {xs : List X}, X.dps xs ≤ n ↔ ∀ x ∈ xs, x.dp ≤ n
  | [] => by simp [X.dps]
  | x :: xs => by
    rw [X.dps, Nat.max_le, X.dps_le (xs := xs)]
    simp
theorem X.ws_at {xs : List X} {j : Nat} {w : W} (h : (X.ws xs)[j]? = some w) : ∃ x, xs[j]? = some x ∧ w = x.w := by
  rw [X.ws_map, List.getElem?_map] at h
  cases q : xs[j]? with
  | none => rw [q] at h; cases h
  | some c => rw [q] at h; cases h; exact ⟨c, rfl, rfl⟩
theorem X.vals_take {b : List Int} {xs : List X} {j : Nat} {x : X} (h : xs[j]? = some x) : ((X.vals b xs).take j).map W.int ++ [.int (x.val b)] = ((X.vals b xs).take (j + 1)).map W.int := by
  rw [List.take_add_one, X.vals_map, List.getElem?_map, h, List.map_append]
  rfl
theorem X.vals_len {b : List Int} {xs : List X} : (X.vals b xs).length = (X.ws xs).length := by rw [X.vals_map, X.ws_map, List.length_map, List.length_map]
theorem wd2 (k : Nat) : wd (k + 2) = "xor" := by simp [wd]
theorem op_w {k : Nat} {xs : List X} {s : Str} (h : wd k = s) : (X.op k xs).w = .tup [.str s, .tup (X.ws xs)] := by rw [X.w, h]
theorem w_value {bits : List Int} : ∀ (n : Nat) (x : X) (d : Nat) (g : CH) (Q : WK), x.dp ≤ n → (∀ c ∈ x.cs, c < bits.length) → Q (.int (x.val bits)) g → wpC (codeT Ds) (d + n) fvalue_of [x.w, .tup (bits.map .int)] g Q := by
  intro n
  induction n with
  | zero => intro x d g Q h; cases x <;> simp [X.dp] at h
  | succ n ih =>
    intro x d g Q h hc k
    cases x with
    | cell c =>
      rw [X.w]
      walk_at "zf"
      walk_at "z"
      have hl := hc c (by simp [X.cs])
      refine opt_ixt (by omega) (x := .int bits[c]) (by rw [Int.toNat_natCast, List.getElem?_map, List.getElem?_eq_getElem hl]; rfl) ?_
      walk_at "z"
      rw [X.val, List.getD_eq_getElem?_getD, List.getElem?_eq_getElem hl] at k
      exact k
    | neg x =>
      rw [X.dp] at h
      rw [X.w]
      walk_at "zf"
      walk_at "z"
      refine ih x d g _ (by omega) (fun c hc' => hc c (by rw [X.cs]; exact hc')) ?_
      walk_at "z"
      rw [X.val] at k
      exact k
    | op o xs =>
      rw [X.dp] at h
      have hd : ∀ x ∈ xs, x.dp ≤ n := X.dps_le.mp (by omega)
      have hcs : ∀ x ∈ xs, ∀ c ∈ x.cs, c < bits.length := fun x hx c hc' => hc c (by rw [X.cs]; exact X.css_mem.mpr ⟨x, hx, hc'⟩)
      rw [X.val, opv] at k
      have lc : ∀ (env : Env) (R : List W → CH → Prop), R ((X.vals bits xs).map .int) g → lcL (.n 4) (wpT (wpC (codeT Ds) (d + n)) .nil) (wpE (wpC (codeT Ds) (d + n)) (.call fvalue_of (.cons (.v 4) (.cons (.v 1) .nil)))) (wipeE [some (W.tup [.str (wd o), .tup (X.ws xs)]), some (.tup (bits.map .int)), some (.str (wd o)), none, none] [4]) none (X.ws xs) (X.ws xs) [] g R := fun env R hR => by
        refine lc_inv (fun j acc g' => g' = g ∧ acc = ((X.vals bits xs).take j).map .int) ?_ ?_ ⟨rfl, rfl⟩
        · rintro j w acc _ kk hj ⟨rfl, rfl⟩ hkk
          obtain ⟨x, hx, rfl⟩ := X.ws_at hj
          refine ⟨trivial, ?_⟩
          walk_at "z"
          refine ih x d _ _ (hd x (List.mem_of_getElem? hx)) (hcs x (List.mem_of_getElem? hx)) ?_
          exact hkk _ _ ⟨rfl, X.vals_take hx⟩
        · rintro _ _ ⟨rfl, rfl⟩
          refine ⟨trivial, ?_⟩
          rw [← X.vals_len, List.take_length]
          exact hR
      obtain rfl | rfl | ⟨o, rfl⟩ : o = 0 ∨ o = 1 ∨ ∃ k, o = k + 2 := by
        rcases o with _ | _ | o
        · exact .inl rfl
        · exact .inr (.inl rfl)
        · exact .inr (.inr ⟨o, rfl⟩)
      · rw [if_pos rfl] at k
        rw [op_w (s := "and") rfl]
        walk_at "zf"
        walk_at "z"
        refine lc [] _ ?_
        walk_at "z"
        refine in_ints ?_
        refine if_d (fun h => ?_) (fun h => ?_)
        · rw [if_pos h] at k
          walk_at "z"
          exact k
        · rw [if_neg h] at k
          walk_at "z"
          exact k
      · rw [if_neg (by decide), if_pos rfl] at k
        rw [op_w (s := "or") rfl]
        walk_at "zf"
        walk_at "z"
        refine lc [] _ ?_
        walk_at "z"
        refine in_ints ?_
        refine if_d (fun h => ?_) (fun h => ?_)
        · rw [if_pos h] at k
          walk_at "z"
          exact k
        · rw [if_neg h] at k
          walk_at "z"
          exact k
      · rw [if_neg (by omega), if_neg (by omega)] at k
        rw [wd2] at lc
        rw [op_w (wd2 o)]
        walk_at "zf"
        walk_at "z"
        refine lc [] _ ?_
        walk_at "z"
        refine opt_sum ?_
        walk_at "z"
        exact k
theorem w_lvalue {bits : List Int} : ∀ (n : Nat) (x : X) (d : Nat) (g : CH) (Q : WK), x.dp ≤ n → (∀ c ∈ x.cs, c < bits.length) → Q (.int (x.val bits)) g → wpC (codeT Ds) (d + n) f_law_vec_value [x.w, .tup (bits.map .int)] g Q := by
  intro n
  induction n with
  | zero => intro x d g Q h; cases x <;> simp [X.dp] at h
  | succ n ih =>
    intro x d g Q h hc k
    cases x with
    | cell c =>
      rw [X.w]
      walk_at "zf"
      walk_at "z"
      have hl := hc c (by simp [X.cs])
      refine opt_ixt (by omega) (x := .int bits[c]) (by rw [Int.toNat_natCast, List.getElem?_map, List.getElem?_eq_getElem hl]; rfl) ?_
      walk_at "z"
      rw [X.val, List.getD_eq_getElem?_getD, List.getElem?_eq_getElem hl] at k
      exact k
    | neg x =>
      rw [X.dp] at h
      rw [X.w]
      walk_at "zf"
      walk_at "z"
      refine ih x d g _ (by omega) (fun c hc' => hc c (by rw [X.cs]; exact hc')) ?_
      walk_at "z"
      rw [X.val] at k
      exact k
    | op o xs =>
      rw [X.dp] at h
      have hd : ∀ x ∈ xs, x.dp ≤ n := X.dps_le.mp (by omega)
      have hcs : ∀ x ∈ xs, ∀ c ∈ x.cs, c < bits.length := fun x hx c hc' => hc c (by rw [X.cs]; exact X.css_mem.mpr ⟨x, hx, hc'⟩)
      rw [X.val, opv] at k
      have lc : ∀ (env : Env) (R : List W → CH → Prop), R ((X.vals bits xs).map .int) g → lcL (.n 3) (wpT (wpC (codeT Ds) (d + n)) .nil) (wpE (wpC (codeT Ds) (d + n)) (.call f_law_vec_value (.cons (.v 3) (.cons (.v 1) .nil)))) (wipeE [some (W.tup [.str (wd o), .tup (X.ws xs)]), some (.tup (bits.map .int)), none, none] [3]) none (X.ws xs) (X.ws xs) [] g R := fun env R hR => by
        refine lc_inv (fun j acc g' => g' = g ∧ acc = ((X.vals bits xs).take j).map .int) ?_ ?_ ⟨rfl, rfl⟩
        · rintro j w acc _ kk hj ⟨rfl, rfl⟩ hkk
          obtain ⟨x, hx, rfl⟩ := X.ws_at hj
          refine ⟨trivial, ?_⟩
          walk_at "z"
          refine ih x d _ _ (hd x (List.mem_of_getElem? hx)) (hcs x (List.mem_of_getElem? hx)) ?_
          exact hkk _ _ ⟨rfl, X.vals_take hx⟩
        · rintro _ _ ⟨rfl, rfl⟩
          refine ⟨trivial, ?_⟩
          rw [← X.vals_len, List.take_length]
          exact hR
      obtain rfl | rfl | ⟨o, rfl⟩ : o = 0 ∨ o = 1 ∨ ∃ k, o = k + 2 := by
        rcases o with _ | _ | o
        · exact .inl rfl
        · exact .inr (.inl rfl)
        · exact .inr (.inr ⟨o, rfl⟩)
      · rw [if_pos rfl] at k
        rw [op_w (s := "and") rfl]
        walk_at "zf"
        walk_at "z"
        refine lc [] _ ?_
        walk_at "z"
        refine in_ints ?_
        refine if_d (fun h => ?_) (fun h => ?_)
        · rw [if_pos h] at k
          walk_at "z"
          exact k
        · rw [if_neg h] at k
          walk_at "z"
          exact k
      · rw [if_neg (by decide), if_pos rfl] at k
        rw [op_w (s := "or") rfl]
        walk_at "zf"
        walk_at "z"
        refine lc [] _ ?_
        walk_at "z"
        refine in_ints ?_
        refine if_d (fun h => ?_) (fun h => ?_)
        · rw [if_pos h] at k
          walk_at "z"
          exact k
        · rw [if_neg h] at k
          walk_at "z"
          exact k
      · rw [if_neg (by omega), if_neg (by omega)] at k
        rw [wd2] at lc
        rw [op_w (wd2 o)]
        walk_at "zf"
        walk_at "z"
        refine lc [] _ ?_
        walk_at "z"
        refine opt_sum ?_
        walk_at "z"
        exact k
mutual
theorem X.wf (n : Nat) : ∀ x : X, Z.wf n x.w = true
  | .cell _ => rfl
  | .neg x => by simp only [X.w, Z.wf, Z.wfs, X.wf n x, Bool.and_self]
  | .op k xs => by simp only [X.w, Z.wf, Z.wfs, X.wfs n xs, Bool.and_self]
theorem X.wfs (n : Nat) : ∀ xs : List X, Z.wfs n (X.ws xs) = true
  | [] => rfl
  | x :: xs => by simp only [X.ws, Z.wfs, X.wf n x, X.wfs n xs, Bool.and_self]
end
theorem w_apply {m c : Nat} {s : Int} {p : Prod} {D : Nat → Amp} (hm : m ≤ 5) (hp : ∀ f ∈ p, f.1 < m) (k : Q (vecW (2 ^ m) (red (2 ^ m) c (act (sg s) p D))) g) : wpC (codeT Ds) (d + 4) fapply_product [vecW (2 ^ m) (c, D), .int s, prodW p] g Q := by
  have h5 := two5 hm
  unfold vecW at *
  walk_at "zf"
  walk_at "z"
  refine w_moved (by omega) (fun f hf => Nat.lt_of_lt_of_le (hp f hf) (by omega)) ?_
  walk_at "z"
  refine w_reduced (n := 2 ^ m) src_lst h5 (moved_lt hp) ?_
  have := vec_congr (s := c) (n := 2 ^ m) (D := dn (moved (2 ^ m) (sg s) p D)) (D' := act (sg s) p D) fun y hy => dn_moved hp hy
  walk_at "z"
  rw [this]
  exact k
theorem w_lapply {m c : Nat} {s : Int} {D : Nat → Amp} {p : Prod} (hs : s = 1 ∨ s = -1) (hm : m ≤ 5) (hp : PrOk m p) (k : Q (dvecW (2 ^ m) c (act (sg s) p D)) g) : wpC (codeT Ds) (d + 3) f_law_vec_apply [dvecW (2 ^ m) c D, .int s, prodW p] g Q := by
  unfold dvecW
  walk_at "zf"
  walk_at "zs"
  refine w_lact (x := .lst (rows (2 ^ m) D)) stands_fz hm hp ?_
  walk_at "zs"
  refine lc_map (fun y => (act (sg s) p D y).w) (fun y hy kk h1 => ?_) ?_
  · have hs2 : -1 ≤ s ∧ s ≤ 1 := by omega
    walk_at "zs"
    refine w_lturn ?_
    rw [act_sign hs]
    exact h1
  walk_at "zs"
  exact k
end
end Z.K07
namespace Z.K07
open PySem PySem.Spec L2
open PyProof.Rows hiding St
section
variable {d : Nat} {g : CH} {Q : WK} {t : W}
local macro_rules | `(tactic| walk_at "zn") => `(tactic| dsimp only [List.set_cons_zero, List.set_cons_succ, zwipe0, zwipeS, zmap_cons, zmap_nil, zcons_app, znil_app, List.replicate_succ, List.replicate_zero, Nat.reduceSub, Int.reduceAdd, Int.reduceSub, Int.reduceNeg, Int.reduceMul, Int.reduceToNat, Int.reducePow, List.length_cons, List.length_nil, Nat.reduceAdd])
local macro_rules | `(tactic| walk_at "z0") => `(tactic| first
  | with_reducible refine nx_seq ?_
  | with_reducible refine nop_i ?_
  | with_reducible refine k_i ?_
  | with_reducible refine seq_i ?_
  | with_reducible refine reti ?_
  | with_reducible refine gl_i ?_
  | with_reducible refine anil_i ?_
  | with_reducible refine tnil_i ?_
  | with_reducible refine rt_seq ?_
  | with_reducible refine nx_turn ?_
  | with_reducible refine rt_turn ?_
  | with_reducible refine fn_rt ?_
  | with_reducible refine bk_seq ?_
  | with_reducible refine ct_seq ?_
  | with_reducible refine bk_turn ?_
  | with_reducible refine ct_turn ?_
  | with_reducible refine fn_nx ?_
  | ((with_reducible refine turn_id ?_); refine turn_ng ?_)
  | ((with_reducible refine ret_id ?_); refine ret_ng ?_)
  | ((with_reducible refine ite_id ?_); first | refine if_t rfl ?_ | refine if_f rfl ?_)
  | (refine opt_id ?_; first
    | (refine opt_asg rfl ?_; walk_at "zn")
    | (refine put_i ?_; walk_at "zn")
    | (refine add_i ?_; walk_at "zn")
    | with_reducible refine opt_eq ?_
    | ((with_reducible refine opt_pow ⟨by omega, by omega, by omega⟩ ?_); walk_at "zn")
    | with_reducible refine opt_ne ?_
    | with_reducible refine opt_slTo (by omega) ?_
    | with_reducible refine opt_slFrom (by omega) ?_
    | with_reducible refine opt_lslTo (by omega) ?_
    | refine opt_i rfl ?_
    | refine opt_mul (mulOk64 ⟨by omega, by omega⟩ ⟨by omega, by omega⟩) ?_
    | refine opt_mod (by omega) ?_
    | refine opt_shr (by omega) ?_
    | refine opt_fdiv (by constructor <;> first | decide | omega) ?_
    | refine opt_rng (by unfold rngOk; omega) ?_)
  | refine And.intro (Nat.le_of_ble_eq_true rfl) ?_
  | refine And.intro (by decide) ?_
  | refine And.intro (small (by first | omega | (dsimp only; omega))) ?_)
local macro_rules | `(tactic| walk_at "z1") => `(tactic| first
  | walk_at "z0"
  | ((with_reducible refine forL_id ?_); first | refine forL_cons ?_ | refine forL_nil ?_)
  | ((with_reducible refine lcL_id ?_); first | refine lcL_cons ?_ | refine lcL_nil ?_))
local macro_rules | `(tactic| walk_at "zs") => `(tactic| ((repeat walk_at "z0"); try (first | with_reducible refine forL_id ?_ | with_reducible refine lcL_id ?_)))
local macro_rules | `(tactic| walk_at "zf") => `(tactic| (refine fn_i rfl rfl rfl ?_; walk_at "zn"))
local macro_rules | `(tactic| walk_at "zi") => `(tactic| ((with_reducible refine ite_id ?_); first | refine if_d ?_ ?_ | refine if_n ?_ ?_))
local macro_rules | `(tactic| walk_at "zz") => `(tactic| (repeat walk_at "z1"; try ((walk_at "zi"; (all_goals intro _); (all_goals try (exfalso; omega)); (all_goals walk_at "zz")))))
local macro_rules | `(tactic| walk_at "z") => `(tactic| ((repeat walk_at "z1"); try (first | with_reducible refine forL_id ?_ | with_reducible refine ret_id ?_ | with_reducible refine turn_id ?_ | with_reducible refine lcL_id ?_ | with_reducible refine ite_id ?_ | refine call_id ?_ | with_reducible refine opt_id ?_)))
local macro_rules | `(tactic| walk_at "zh") => `(tactic| first | rfl | assumption | omega | decide)
/-! ### commands and states -/
inductive Dd where
  | ph (k : Int) (p : Prod)
  | rs (q : Nat)
  | ms (s : Int) (p : Prod) (c : Nat)
  | as (c : Nat) (x : X)
  | pa (p : Prod)
  | ld (q : Nat) (z : Bool)
def mz (z : Bool) : Str := if z then "magic" else "zero"
def Dd.w : Dd → W
  | .ph k p => .tup [.str "phase", .int k, prodW p]
  | .rs q => .tup [.str "reset", .int q]
  | .ms s p c => .tup [.str "measure", .int s, prodW p, .int c]
  | .as c x => .tup [.str "assign", .int c, x.w]
  | .pa p => .tup [.str "pauli", prodW p]
  | .ld q z => .tup [.str "load", .int q, .str (mz z)]
structure Cm where
  x : X
  d : Dd
def Cm.w (c : Cm) : W := .tup [c.x.w, c.d.w]
structure S1 where
  s : Nat
  D : Nat → Amp
  b : List Int
def bW (b : List Int) : W := .tup (b.map .int)
/-- as the law has it -/
def S1.w (n : Nat) (a : S1) : W := .tup [dvecW n a.s a.D, bW a.b]
/-- .. the program -/
def S1.td (n : Nat) (a : S1) : W := .tup [vecW n (red n a.s a.D), bW a.b]
def part (n : Nat) (a : S1) (s : Int) (p : Prod) (c : Nat) (i : Int) : List S1 := if keys n (prD s p a.D) = [] then [] else [⟨a.s + 2, prD s p a.D, a.b.set c i⟩]
/-- behind clearing: made magic, if so -/
def out (z : Bool) (q : Nat) (a : S1) (D : Nat → Amp) : S1 := if z = true then ⟨a.s + 1, mgD q D, a.b⟩ else ⟨a.s, D, a.b⟩
def lead (n : Nat) (a : S1) (c : Cm) : List S1 :=
  if c.x.val a.b = 0 then [a] else match c.d with
  | .ph k p => [⟨a.s + 2, phD k p a.D, a.b⟩]
  | .rs q => (clrs n q a.D).map (out false q a)
  | .ms s p c => part n a s p c 0 ++ part n a (-s) p c 1
  | .as c x => [⟨a.s, a.D, a.b.set c (x.val a.b)⟩]
  | .pa p => [⟨a.s, act 0 p a.D, a.b⟩]
  | .ld q z => (clrs n q a.D).map (out z q a)
structure DOk (m n : Nat) (d : Dd) : Prop where
  ph : ∀ k p, d = .ph k p → PrOk m p
  rs : ∀ q, d = .rs q → q < m
  ms : ∀ s p c, d = .ms s p c → (s = 1 ∨ s = -1) ∧ PrOk m p ∧ c < n
  as : ∀ c x, d = .as c x → c < n ∧ x.dp ≤ 5 ∧ ∀ i ∈ x.cs, i < n
  pa : ∀ p, d = .pa p → PrOk m p
  ld : ∀ q z, d = .ld q z → q < m
structure COk (m n : Nat) (c : Cm) : Prop where
  dp : c.x.dp ≤ 5
  cs : ∀ i ∈ c.x.cs, i < n
  d : DOk m n c.d
theorem p_bit {b : List Int} {c : Nat} {v : Int} (hc : c < b.length) (hl : b.length < 2 ^ 20) (k : Q (bW (b.set c v)) g) : wpC (codeT Ds) (d + 1) fwith_bit [bW b, .int c, .int v] g Q := by
  unfold bW at *
  refine w_put rfl (by rw [List.length_map]; exact hc) (by rw [List.length_map]; exact hl) ?_
  rw [show (b.map W.int).set c (.int v) = (b.set c v).map W.int by rw [List.map_set]]
  exact k
theorem p_lbit {b : List Int} {c : Nat} {v : Int} (hc : c < b.length) (hl : b.length < 2 ^ 20) (k : Q (bW (b.set c v)) g) : wpC (codeT Ds) (d + 1) f_law_put [bW b, .int c, .int v] g Q := by
  unfold bW at *
  refine w_put rfl (by rw [List.length_map]; exact hc) (by rw [List.length_map]; exact hl) ?_
  rw [show (b.map W.int).set c (.int v) = (b.set c v).map W.int by rw [List.map_set]]
  exact k
theorem tup_g {g : CH} {ws : List W} : u1W (g ++ [.lst ws]) .tuple (.ob g.length) = some (.tup ws) := by
  show (match dr (g ++ [W.lst ws]) (.ob g.length) with | W.tup xs => some (W.tup xs) | W.lst xs => some (.tup xs) | _ => none) = _
  rw [dr_g]
theorem bW_wf {n : Nat} {b : List Int} : wf n (bW b) = true := wfs_mem fun x hx => by
  obtain ⟨y, _, rfl⟩ := List.mem_map.mp hx
  rfl
theorem vecW_wf {n m : Nat} {v : Nat × (Nat → Amp)} : wf n (vecW m v) = true := by
  simp only [vecW, wf, wfs]
  exact Bool.and_eq_true_iff.mpr ⟨rfl, Bool.and_eq_true_iff.mpr ⟨terms_wf, rfl⟩⟩
theorem S1.td_wf {n m : Nat} {a : S1} : wf n (a.td m) = true := by
  simp only [S1.td, wf, wfs]
  exact Bool.and_eq_true_iff.mpr ⟨vecW_wf, Bool.and_eq_true_iff.mpr ⟨bW_wf, rfl⟩⟩
theorem S1.ts_wf {n m : Nat} {as : List S1} : wf n (.tup (as.map (S1.td m))) = true := wfs_mem fun x hx => by
  obtain ⟨y, _, rfl⟩ := List.mem_map.mp hx
  exact y.td_wf
theorem w_measured {m : Nat} {a : S1} {s : Int} {p : Prod} {c : Nat} (hm : m ≤ 5) (hp : ∀ f ∈ p, f.1 < m) (hc : c < a.b.length) (hl : a.b.length < 2 ^ 20) (k : Q (.tup ((part (2 ^ m) a s p c 0 ++ part (2 ^ m) a (-s) p c 1).map (S1.td (2 ^ m)))) g) :
    wpC (codeT Ds) (d + 5) fmeasured_states [a.td (2 ^ m), (Dd.ms s p c).w] g Q := by
  have ee : ∀ (s : Nat) (A : Nat → Amp), (terms (2 ^ m) (red (2 ^ m) s A).2).isEmpty = (keys (2 ^ m) A).isEmpty := fun s A => by
    unfold terms
    rw [List.isEmpty_map, keys_red]
  have ef : ∀ A : Nat → Amp, keys (2 ^ m) A ≠ [] → (keys (2 ^ m) A).isEmpty = false := fun A h => by
    cases hk : keys (2 ^ m) A with
    | nil => exact absurd hk h
    | cons => rfl
  have pw : ∀ (A : Nat → Amp) (i : Int), wf (g.length) (W.tup [vecW (2 ^ m) (red (2 ^ m) (a.s + 2) A), bW (a.b.set c i)]) = true := fun A i => S1.td_wf (a := ⟨a.s + 2, A, a.b.set c i⟩)
  unfold Dd.w at *
  rw [show a.td (2 ^ m) = .tup [vecW (2 ^ m) (red (2 ^ m) a.s a.D), bW a.b] from rfl]
  walk_at "zf"
  walk_at "zs"
  refine for_list (as := [(0 : Int), 1]) (wi := W.int) (fun i e g' => ∃ z1 z2 z3, g' = g ++ [.lst (((if i = 0 then [] else if i = 1 then part (2 ^ m) a s p c 0 else part (2 ^ m) a s p c 0 ++ part (2 ^ m) a (-s) p c 1)).map (S1.td (2 ^ m)))] ∧
    e = [z1, some (.tup [.str "measure", .int s, prodW p, .int c]), some (vecW (2 ^ m) (red (2 ^ m) a.s a.D)), some (bW a.b), some (.str "measure"), some (.int s), some (prodW p), some (.int c), some (.ob g.length), z2, z3]) ?_ ?_ ⟨_, none, none, rfl, rfl⟩
  · rintro i v k' hi hk _ _ ⟨z1, z2, z3, rfl, rfl⟩
    have hL : ∀ i, ((if i = 0 then [] else if i = 1 then part (2 ^ m) a s p c 0 else part (2 ^ m) a s p c 0 ++ part (2 ^ m) a (-s) p c 1)).length ≤ 4 := fun i => by
      unfold part
      repeat' split
      all_goals simp
    obtain ⟨sg', hsg, hP⟩ : ∃ s', ((i = 0 ∧ v = 0 ∧ s' = s) ∨ (i = 1 ∧ v = 1 ∧ s' = -s)) ∧ (if i + 1 = 0 then [] else if i + 1 = 1 then part (2 ^ m) a s p c 0 else part (2 ^ m) a s p c 0 ++ part (2 ^ m) a (-s) p c 1) = (if i = 0 then [] else if i = 1 then part (2 ^ m) a s p c 0 else part (2 ^ m) a s p c 0 ++ part (2 ^ m) a (-s) p c 1) ++ part (2 ^ m) a s' p c v := by
      rcases i with _ | _ | i
      · cases hi
        exact ⟨s, .inl ⟨rfl, rfl, rfl⟩, rfl⟩
      · cases hi
        exact ⟨-s, .inr ⟨rfl, rfl, rfl⟩, rfl⟩
      · simp at hi
    have hL := hL i
    rw [hP] at hk
    generalize (if i = 0 then [] else if i = 1 then part (2 ^ m) a s p c 0 else part (2 ^ m) a s p c 0 ++ part (2 ^ m) a (-s) p c 1) = L at *
    have e2 : v = 0 ∨ v = 1 := by omega
    have call : ∀ (R : WK) (g' : CH) (s2 : Int), sg' = s2 → R (vecW (2 ^ m) (red (2 ^ m) (a.s + 2) (prD sg' p a.D))) g' → wpC (codeT Ds) (d + 4) fproject [vecW (2 ^ m) (red (2 ^ m) a.s a.D), .int s2, prodW p] g' R := fun R g' s2 e h => by
      subst e
      rw [vec_eta]
      refine w_project hm hp ?_
      rw [pr_lin hp]
      exact h
    rcases hsg with ⟨_, rfl, hs'⟩ | ⟨_, rfl, hs'⟩
    all_goals
      walk_at "zs"
      refine call _ _ _ hs' ?_
      unfold part at hk
      by_cases h1 : keys (2 ^ m) (prD sg' p a.D) = []
      · rw [if_pos h1, List.append_nil] at hk
        walk_at "zs"
        refine if_f (by rw [ee, h1]; rfl) ?_
        walk_at "zs"
        exact hk _ _ ⟨_, _, _, rfl, rfl⟩
      · rw [if_neg h1, List.map_append] at hk
        walk_at "zs"
        refine if_t (by rw [ee, ef _ h1]; rfl) ?_
        walk_at "zs"
        refine opt_i ob_g ?_
        walk_at "zs"
        refine p_bit hc hl ?_
        walk_at "zs"
        refine opt_i ob_g ?_
        walk_at "zs"
        refine ⟨small (by rw [List.length_map]; omega), ?_⟩
        walk_at "zs"
        rw [set_g]
        exact hk _ _ ⟨_, _, _, rfl, rfl⟩
  · rintro _ _ ⟨z1, z2, z3, rfl, rfl⟩
    walk_at "zs"
    refine opt_i tup_g ?_
    walk_at "zs"
    exact ret_gc0 (rest := [_]) S1.ts_wf k
end
end Z.K07
namespace Z.K07
open PySem PySem.Spec L2
open PyProof.Rows hiding St
section
variable {d : Nat} {g : CH} {Q : WK} {t : W}
local macro_rules | `(tactic| walk_at "zn") => `(tactic| dsimp only [List.set_cons_zero, List.set_cons_succ, zwipe0, zwipeS, zmap_cons, zmap_nil, zcons_app, znil_app, List.replicate_succ, List.replicate_zero, Nat.reduceSub, Int.reduceAdd, Int.reduceSub, Int.reduceNeg, Int.reduceMul, Int.reduceToNat, Int.reducePow, List.length_cons, List.length_nil, Nat.reduceAdd])
local macro_rules | `(tactic| walk_at "z0") => `(tactic| first
  | with_reducible refine nx_seq ?_
  | with_reducible refine nop_i ?_
  | with_reducible refine k_i ?_
  | with_reducible refine seq_i ?_
  | with_reducible refine reti ?_
  | with_reducible refine gl_i ?_
  | with_reducible refine anil_i ?_
  | with_reducible refine tnil_i ?_
  | with_reducible refine rt_seq ?_
  | with_reducible refine nx_turn ?_
  | with_reducible refine rt_turn ?_
  | with_reducible refine fn_rt ?_
  | with_reducible refine bk_seq ?_
  | with_reducible refine ct_seq ?_
  | with_reducible refine bk_turn ?_
  | with_reducible refine ct_turn ?_
  | with_reducible refine fn_nx ?_
  | ((with_reducible refine turn_id ?_); refine turn_ng ?_)
  | ((with_reducible refine ret_id ?_); refine ret_ng ?_)
  | ((with_reducible refine ite_id ?_); first | refine if_t rfl ?_ | refine if_f rfl ?_)
  | (refine opt_id ?_; first
    | (refine opt_asg rfl ?_; walk_at "zn")
    | (refine put_i ?_; walk_at "zn")
    | (refine add_i ?_; walk_at "zn")
    | with_reducible refine opt_eq ?_
    | ((with_reducible refine opt_pow ⟨by omega, by omega, by omega⟩ ?_); walk_at "zn")
    | with_reducible refine opt_ne ?_
    | with_reducible refine opt_slTo (by omega) ?_
    | with_reducible refine opt_slFrom (by omega) ?_
    | with_reducible refine opt_lslTo (by omega) ?_
    | refine opt_i rfl ?_
    | refine opt_mul (mulOk64 ⟨by omega, by omega⟩ ⟨by omega, by omega⟩) ?_
    | refine opt_mod (by omega) ?_
    | refine opt_shr (by omega) ?_
    | refine opt_fdiv (by constructor <;> first | decide | omega) ?_
    | refine opt_rng (by unfold rngOk; omega) ?_)
  | refine And.intro (Nat.le_of_ble_eq_true rfl) ?_
  | refine And.intro (by decide) ?_
  | refine And.intro (small (by first | omega | (dsimp only; omega))) ?_)
local macro_rules | `(tactic| walk_at "z1") => `(tactic| first
  | walk_at "z0"
  | ((with_reducible refine forL_id ?_); first | refine forL_cons ?_ | refine forL_nil ?_)
  | ((with_reducible refine lcL_id ?_); first | refine lcL_cons ?_ | refine lcL_nil ?_))
local macro_rules | `(tactic| walk_at "zs") => `(tactic| ((repeat walk_at "z0"); try (first | with_reducible refine forL_id ?_ | with_reducible refine lcL_id ?_)))
local macro_rules | `(tactic| walk_at "zf") => `(tactic| (refine fn_i rfl rfl rfl ?_; walk_at "zn"))
local macro_rules | `(tactic| walk_at "zi") => `(tactic| ((with_reducible refine ite_id ?_); first | refine if_d ?_ ?_ | refine if_n ?_ ?_))
local macro_rules | `(tactic| walk_at "zz") => `(tactic| (repeat walk_at "z1"; try ((walk_at "zi"; (all_goals intro _); (all_goals try (exfalso; omega)); (all_goals walk_at "zz")))))
local macro_rules | `(tactic| walk_at "z") => `(tactic| ((repeat walk_at "z1"); try (first | with_reducible refine forL_id ?_ | with_reducible refine ret_id ?_ | with_reducible refine turn_id ?_ | with_reducible refine lcL_id ?_ | with_reducible refine ite_id ?_ | refine call_id ?_ | with_reducible refine opt_id ?_)))
local macro_rules | `(tactic| walk_at "zh") => `(tactic| first | rfl | assumption | omega | decide)
theorem clrs_bit {n q y : Nat} {D D' : Nat → Amp} (h : D' ∈ clrs n q D) (hb : y.testBit q = true) : D' y = az := by
  have h1 : loD q D y = az := if_pos hb
  have h2 : hiD q D y = az := if_pos hb
  unfold clrs at h
  repeat' split at h
  all_goals simp only [List.mem_cons, List.not_mem_nil, or_false] at h
  · rw [h]; exact h2
  · rw [h]; exact h1
  · rw [h]; show root (loD q D y) = az; rw [h1]; rfl
  · rcases h with h | h
    · rw [h]; exact h1
    · rw [h]; exact h2
theorem clrs_len {n q : Nat} {D : Nat → Amp} : (clrs n q D).length ≤ 2 := by
  unfold clrs
  repeat' split
  all_goals simp
theorem mg_lin {m c q : Nat} {D : Nat → Amp} (hq : q < m) : vecW (2 ^ m) (red (2 ^ m) ((red (2 ^ m) c D).1 + 1) (mgD q (red (2 ^ m) c D).2)) = vecW (2 ^ m) (red (2 ^ m) (c + 1) (mgD q D)) := by
  have hp : ∀ f ∈ ([(q, .X)] : Prod), f.1 < m := fun f hf => by rw [List.mem_singleton.mp hf]; exact hq
  refine red_lin (fun D h y hy => ?_) (fun D h y hy => ?_)
  · have := (act_ok (s := 0) hp).mpr h y hy
    exact ok_add (h y hy) ((ok_tn _ _).mpr this)
  · have := (act_ok (s := 0) hp).mpr h y hy
    unfold mgD
    rw [hr_add (h y hy) ((ok_tn _ _).mpr this), hr_tn this, act_hr hp h y hy]
theorem red_az {n y : Nat} : ∀ {s : Nat} {D : Nat → Amp}, D y = az → (red n s D).2 y = az
  | 0, D, h => h
  | s + 1, D, h => by
    rw [red]
    split
    · exact red_az (by show hr (D y) = az; rw [h]; rfl)
    · exact h
theorem w_clst {m q : Nat} {a : S1} {z : Bool} {dd : Dd} (hm : m ≤ 5) (hq : q < m) (hd : (dd = .rs q ∧ z = false) ∨ dd = .ld q z) (k : Q (.tup (((clrs (2 ^ m) q a.D).map (out z q a)).map (S1.td (2 ^ m)))) g) :
    wpC (codeT Ds) (d + 5) fcleared_states [a.td (2 ^ m), dd.w] g Q := by
  have hl := clrs_len (n := 2 ^ m) (q := q) (D := a.D)
  have call : ∀ (D : Nat → Amp) (R : WK) (g' : CH), D ∈ clrs (2 ^ m) q a.D → R (vecW (2 ^ m) (red (2 ^ m) (a.s + 1) (mgD q D))) g' → wpC (codeT Ds) (d + 4) fmagic_made [vecW (2 ^ m) (red (2 ^ m) a.s D), .int q] g' R := fun D R g' hD h => by
    rw [vec_eta]
    refine w_magic hm hq (fun y _ hb => red_az (clrs_bit hD hb)) ?_
    have := mg_lin (c := a.s) (D := D) hq
    unfold mgD at this h
    rw [this]
    exact h
  rw [show a.td (2 ^ m) = .tup [vecW (2 ^ m) (red (2 ^ m) a.s a.D), bW a.b] from rfl]
  have fin : ∀ (dd : Dd) (e3 : Option W), (((clrs (2 ^ m) q a.D).map (out z q a)).map (S1.td (2 ^ m))).length ≤ 2 := fun _ _ => by rw [List.length_map, List.length_map]; exact hl
  have inv : ∀ i D, (clrs (2 ^ m) q a.D)[i]? = some D → ((((clrs (2 ^ m) q a.D).take (i + 1)).map (out z q a)).map (S1.td (2 ^ m))) = ((((clrs (2 ^ m) q a.D).take i).map (out z q a)).map (S1.td (2 ^ m))) ++ [(out z q a D).td (2 ^ m)] := fun i D h => by
    rw [List.take_succ, h, List.map_append, List.map_append]; rfl
  have lens : ∀ i, ((((clrs (2 ^ m) q a.D).take i).map (out z q a)).map (S1.td (2 ^ m))).length ≤ 2 := fun i => by
    rw [List.length_map, List.length_map, List.length_take]; omega
  have main : ∀ u : W, u = dd.w → wpC (codeT Ds) (d + 5) fcleared_states [.tup [vecW (2 ^ m) (red (2 ^ m) a.s a.D), bW a.b], u] g Q := fun u hu => by
    obtain ⟨x0, x2, hu2, ht⟩ : ∃ (x0 : Str) (x2 : List W), u = .tup (.str x0 :: .int q :: x2) ∧ ((x0 = "reset" ∧ x2 = [] ∧ z = false) ∨ (x0 = "load" ∧ x2 = [.str (mz z)])) := by
      rcases hd with ⟨rfl, rfl⟩ | rfl
      · exact ⟨_, _, hu, .inl ⟨rfl, rfl, rfl⟩⟩
      · exact ⟨_, _, hu, .inr ⟨rfl, rfl⟩⟩
    clear hu hd
    subst hu2
    walk_at "zf"
    walk_at "zs"
    refine opt_ixt (by decide) (x := .int q) rfl ?_
    walk_at "zs"
    refine w_cleared hm hq ?_
    unfold clr
    walk_at "zs"
    refine for_list (as := clrs (2 ^ m) q a.D) (wi := fun D => vecW (2 ^ m) (red (2 ^ m) a.s D)) (fun i e g' => ∃ z1, g' = g ++ [.lst ((((clrs (2 ^ m) q a.D).take i).map (out z q a)).map (S1.td (2 ^ m)))] ∧
      e = [some (.tup [vecW (2 ^ m) (red (2 ^ m) a.s a.D), bW a.b]), some (.tup (.str x0 :: .int q :: x2)), some (vecW (2 ^ m) (red (2 ^ m) a.s a.D)), some (bW a.b), some (.ob g.length), z1]) ?_ ?_ ⟨none, rfl, rfl⟩
    · rintro i D k' hi hk _ _ ⟨z1, rfl, rfl⟩
      have hD := List.mem_of_getElem? hi
      rw [inv i D hi] at hk
      have hli := lens i
      generalize ((((clrs (2 ^ m) q a.D).take i).map (out z q a)).map (S1.td (2 ^ m))) = L at *
      rcases ht with ⟨rfl, rfl, rfl⟩ | ⟨rfl, rfl⟩
      · walk_at "zs"
        refine opt_i ob_g ?_
        walk_at "zs"
        refine opt_i ob_g ?_
        walk_at "zs"
        rw [set_g]
        exact hk _ _ ⟨_, rfl, rfl⟩
      · cases z
        · unfold mz
          walk_at "zs"
          refine opt_i ob_g ?_
          walk_at "zs"
          refine opt_i ob_g ?_
          walk_at "zs"
          rw [set_g]
          exact hk _ _ ⟨_, rfl, rfl⟩
        · unfold mz
          walk_at "zs"
          refine opt_i ob_g ?_
          walk_at "zs"
          refine call D _ _ hD ?_
          walk_at "zs"
          refine opt_i ob_g ?_
          walk_at "zs"
          rw [set_g]
          exact hk _ _ ⟨_, rfl, rfl⟩
    · rintro _ _ ⟨z1, rfl, rfl⟩
      rw [List.take_length]
      walk_at "zs"
      refine opt_i tup_g ?_
      walk_at "zs"
      exact ret_gc0 (rest := [_]) S1.ts_wf k
  exact main _ rfl
theorem w_states {m : Nat} {a : S1} {c : Cm} (hm : m ≤ 5) (hc : COk m a.b.length c) (hl : a.b.length < 2 ^ 20) (k : Q (.tup ((lead (2 ^ m) a c).map (S1.td (2 ^ m)))) g) :
    wpC (codeT Ds) (d + 7) fstates_after [a.td (2 ^ m), c.w] g Q := by
  have hd := hc.d
  obtain ⟨x, dd⟩ := c
  unfold lead at k
  dsimp only at k hd
  have td : a.td (2 ^ m) = .tup [vecW (2 ^ m) (red (2 ^ m) a.s a.D), bW a.b] := rfl
  unfold Cm.w
  dsimp only
  rw [td]
  walk_at "zf"
  walk_at "zs"
  refine w_value (bits := a.b) 5 x (d + 1) _ _ hc.dp hc.cs ?_
  walk_at "zs"
  refine if_d (fun h => ?_) (fun h => ?_)
  · rw [if_pos h] at k
    walk_at "zs"
    exact k
  rw [if_neg h] at k
  cases dd with
  | ph kk p =>
    have hp := hd.ph _ _ rfl
    unfold Dd.w
    walk_at "zs"
    rw [vec_eta]
    refine w_aphase hm hp.lt ?_
    rw [ph_lin hp.lt]
    walk_at "zs"
    exact k
  | pa p =>
    have hp := hd.pa _ rfl
    unfold Dd.w
    walk_at "zs"
    rw [vec_eta]
    refine w_apply hm hp.lt ?_
    rw [red_act hp.lt]
    walk_at "zs"
    exact k
  | as c y =>
    obtain ⟨h1, h2, h3⟩ := hd.as _ _ rfl
    unfold Dd.w
    walk_at "zs"
    refine w_value (bits := a.b) 5 y (d + 1) _ _ h2 h3 ?_
    walk_at "zs"
    refine p_bit h1 hl ?_
    walk_at "zs"
    exact k
  | ms s p c =>
    obtain ⟨h1, h2, h3⟩ := hd.ms _ _ _ rfl
    rw [show (Dd.ms s p c).w = .tup [.str "measure", .int s, prodW p, .int c] from rfl]
    walk_at "zs"
    refine w_measured hm h2.lt h3 hl ?_
    exact k
  | rs q =>
    have hq := hd.rs _ rfl
    rw [show (Dd.rs q).w = .tup [.str "reset", .int q] from rfl]
    walk_at "zs"
    refine w_clst (dd := .rs q) (z := false) hm hq (.inl ⟨rfl, rfl⟩) ?_
    exact k
  | ld q z =>
    have hq := hd.ld _ _ rfl
    rw [show (Dd.ld q z).w = .tup [.str "load", .int q, .str (mz z)] from rfl]
    walk_at "zs"
    refine w_clst (dd := .ld q z) hm hq (.inr rfl) ?_
    exact k
end
end Z.K07
namespace Z.K07
open PySem PySem.Spec L2
open PyProof.Rows hiding St
section
variable {d : Nat} {g : CH} {Q : WK} {t : W}
local macro_rules | `(tactic| walk_at "zn") => `(tactic| dsimp only [List.set_cons_zero, List.set_cons_succ, zwipe0, zwipeS, zmap_cons, zmap_nil, zcons_app, znil_app, List.replicate_succ, List.replicate_zero, Nat.reduceSub, Int.reduceAdd, Int.reduceSub, Int.reduceNeg, Int.reduceMul, Int.reduceToNat, Int.reducePow, List.length_cons, List.length_nil, Nat.reduceAdd])
local macro_rules | `(tactic| walk_at "z0") => `(tactic| first
  | with_reducible refine nx_seq ?_
  | with_reducible refine nop_i ?_
  | with_reducible refine k_i ?_
  | with_reducible refine seq_i ?_
  | with_reducible refine reti ?_
  | with_reducible refine gl_i ?_
  | with_reducible refine anil_i ?_
  | with_reducible refine tnil_i ?_
  | with_reducible refine rt_seq ?_
  | with_reducible refine nx_turn ?_
  | with_reducible refine rt_turn ?_
  | with_reducible refine fn_rt ?_
  | with_reducible refine bk_seq ?_
  | with_reducible refine ct_seq ?_
  | with_reducible refine bk_turn ?_
  | with_reducible refine ct_turn ?_
  | with_reducible refine fn_nx ?_
  | ((with_reducible refine turn_id ?_); refine turn_ng ?_)
  | ((with_reducible refine ret_id ?_); refine ret_ng ?_)
  | ((with_reducible refine ite_id ?_); first | refine if_t rfl ?_ | refine if_f rfl ?_)
  | (refine opt_id ?_; first
    | (refine opt_asg rfl ?_; walk_at "zn")
    | (refine put_i ?_; walk_at "zn")
    | (refine add_i ?_; walk_at "zn")
    | with_reducible refine opt_eq ?_
    | ((with_reducible refine opt_pow ⟨by omega, by omega, by omega⟩ ?_); walk_at "zn")
    | with_reducible refine opt_ne ?_
    | with_reducible refine opt_slTo (by omega) ?_
    | with_reducible refine opt_slFrom (by omega) ?_
    | with_reducible refine opt_lslTo (by omega) ?_
    | refine opt_i rfl ?_
    | refine opt_mul (mulOk64 ⟨by omega, by omega⟩ ⟨by omega, by omega⟩) ?_
    | refine opt_mod (by omega) ?_
    | refine opt_shr (by omega) ?_
    | refine opt_fdiv (by constructor <;> first | decide | omega) ?_
    | refine opt_rng (by unfold rngOk; omega) ?_)
  | refine And.intro (Nat.le_of_ble_eq_true rfl) ?_
  | refine And.intro (by decide) ?_
  | refine And.intro (small (by first | omega | (dsimp only; omega))) ?_)
local macro_rules | `(tactic| walk_at "z1") => `(tactic| first
  | walk_at "z0"
  | ((with_reducible refine forL_id ?_); first | refine forL_cons ?_ | refine forL_nil ?_)
  | ((with_reducible refine lcL_id ?_); first | refine lcL_cons ?_ | refine lcL_nil ?_))
local macro_rules | `(tactic| walk_at "zs") => `(tactic| ((repeat walk_at "z0"); try (first | with_reducible refine forL_id ?_ | with_reducible refine lcL_id ?_)))
local macro_rules | `(tactic| walk_at "zf") => `(tactic| (refine fn_i rfl rfl rfl ?_; walk_at "zn"))
local macro_rules | `(tactic| walk_at "zi") => `(tactic| ((with_reducible refine ite_id ?_); first | refine if_d ?_ ?_ | refine if_n ?_ ?_))
local macro_rules | `(tactic| walk_at "zz") => `(tactic| (repeat walk_at "z1"; try ((walk_at "zi"; (all_goals intro _); (all_goals try (exfalso; omega)); (all_goals walk_at "zz")))))
local macro_rules | `(tactic| walk_at "z") => `(tactic| ((repeat walk_at "z1"); try (first | with_reducible refine forL_id ?_ | with_reducible refine ret_id ?_ | with_reducible refine turn_id ?_ | with_reducible refine lcL_id ?_ | with_reducible refine ite_id ?_ | refine call_id ?_ | with_reducible refine opt_id ?_)))
local macro_rules | `(tactic| walk_at "zh") => `(tactic| first | rfl | assumption | omega | decide)
/-! ### the law's lead -/
theorem S1.w_wf {n m : Nat} {a : S1} : wf n (a.w m) = true := by
  simp only [S1.w, dvecW, wf, wfs]
  exact Bool.and_eq_true_iff.mpr ⟨Bool.and_eq_true_iff.mpr ⟨rfl, Bool.and_eq_true_iff.mpr ⟨rows_wf, rfl⟩⟩, Bool.and_eq_true_iff.mpr ⟨bW_wf, rfl⟩⟩
theorem w_lead {m : Nat} {a : S1} {c : Cm} (hm : m ≤ 5) (hc : COk m a.b.length c) (hl : a.b.length < 2 ^ 20) (k : Q (.lst ((lead (2 ^ m) a c).map (S1.w (2 ^ m)))) [t]) :
    wpC (codeT Ds) (d + 7) f_law_vec_lead [a.w (2 ^ m), c.w] [t] Q := by
  have hd := hc.d
  obtain ⟨x, dd⟩ := c
  unfold lead at k
  dsimp only at k hd
  have td : a.w (2 ^ m) = .tup [dvecW (2 ^ m) a.s a.D, bW a.b] := rfl
  unfold Cm.w
  dsimp only
  rw [td]
  walk_at "zf"
  walk_at "zs"
  refine w_lvalue (bits := a.b) 5 x (d + 1) _ _ hc.dp hc.cs ?_
  walk_at "zs"
  refine if_d (fun h => ?_) (fun h => ?_)
  · rw [if_pos h] at k
    walk_at "zs"
    exact k
  rw [if_neg h] at k
  cases dd with
  | ph kk p =>
    have hp := hd.ph _ _ rfl
    unfold Dd.w
    walk_at "zs"
    rw [show dvecW (2 ^ m) a.s a.D = .tup [.int a.s, .lst (rows (2 ^ m) a.D)] from rfl]
    refine w_lphase stands_fz hm hp ?_
    walk_at "zs"
    exact k
  | pa p =>
    have hp := hd.pa _ rfl
    unfold Dd.w
    walk_at "zs"
    refine w_lapply (.inl rfl) hm hp ?_
    walk_at "zs"
    exact k
  | as c y =>
    obtain ⟨h1, h2, h3⟩ := hd.as _ _ rfl
    unfold Dd.w
    walk_at "zs"
    refine w_lvalue (bits := a.b) 5 y (d + 1) _ _ h2 h3 ?_
    walk_at "zs"
    refine p_lbit h1 hl ?_
    walk_at "zs"
    exact k
  | ms s p c =>
    obtain ⟨h1, h2, h3⟩ := hd.ms _ _ _ rfl
    rw [show (Dd.ms s p c).w = .tup [.str "measure", .int s, prodW p, .int c] from rfl]
    have hs2 : -1 ≤ s ∧ s ≤ 1 := by omega
    walk_at "zs"
    refine w_lpart h1 hm h2 ?_
    walk_at "zs"
    rw [show (0 : Int) - s = -s by omega]
    refine w_lpart (s := -s) (by omega) hm h2 ?_
    walk_at "zs"
    have ef : ∀ A : Nat → Amp, keys (2 ^ m) A ≠ [] → (keys (2 ^ m) A).isEmpty = false := fun A h => by
      cases hk : keys (2 ^ m) A with
      | nil => exact absurd hk h
      | cons => rfl
    obtain ⟨sf, sf0, sf1⟩ : ∃ sf : Nat → Int, sf 0 = s ∧ sf 1 = -s := ⟨fun i => if i = 0 then s else -s, rfl, rfl⟩
    rw [show rangeW 0 ((2 : Int) - 0).toNat = [(0 : Nat), 1].map (fun i : Nat => W.int i) from rfl]
    refine lc_fm (as := [(0 : Nat), 1]) (wi := fun i : Nat => W.int i) (fun i => decide (keys (2 ^ m) (prD (sf i) p a.D) ≠ [])) (fun i : Nat => .tup [dvecW (2 ^ m) (a.s + 2) (prD (sf i) p a.D), bW (a.b.set c i)]) (fun i hi acc kk h1 h2 => ?_) ?_
    · simp only [List.mem_cons, List.not_mem_nil, or_false] at hi
      rcases hi with rfl | rfl
      · rw [sf0] at h1 h2
        walk_at "zs"
        refine w_lnone (D := prD s p a.D) (x := .lst (rows (2 ^ m) (prD s p a.D))) (o := none) rfl trivial ?_
        walk_at "zs"
        by_cases he : keys (2 ^ m) (prD s p a.D) = []
        · refine if_f (by rw [he]; rfl) ?_
          exact h2 (decide_eq_false (by simpa using he))
        · refine if_t (by rw [ef _ he]; rfl) ?_
          walk_at "zs"
          refine p_lbit h3 hl ?_
          walk_at "zs"
          exact h1 (decide_eq_true he)
      · rw [sf1] at h1 h2
        walk_at "zs"
        refine w_lnone (D := prD (-s) p a.D) (x := .lst (rows (2 ^ m) (prD (-s) p a.D))) (o := none) rfl trivial ?_
        walk_at "zs"
        by_cases he : keys (2 ^ m) (prD (-s) p a.D) = []
        · refine if_f (by rw [he]; rfl) ?_
          exact h2 (decide_eq_false (by simpa using he))
        · refine if_t (by rw [ef _ he]; rfl) ?_
          walk_at "zs"
          refine p_lbit h3 hl ?_
          walk_at "zs"
          exact h1 (decide_eq_true he)
    walk_at "zs"
    have e : (([(0 : Nat), 1].filter fun i => decide (keys (2 ^ m) (prD (sf i) p a.D) ≠ [])).map fun i : Nat => W.tup [dvecW (2 ^ m) (a.s + 2) (prD (sf i) p a.D), bW (a.b.set c i)]) = (part (2 ^ m) a s p c 0 ++ part (2 ^ m) a (-s) p c 1).map (S1.w (2 ^ m)) := by
      unfold part
      by_cases h0 : keys (2 ^ m) (prD s p a.D) = []
      · by_cases h1 : keys (2 ^ m) (prD (-s) p a.D) = []
        · simp [sf0, sf1, h0, h1]
        · simp [sf0, sf1, h0, h1, S1.w]
      · by_cases h1 : keys (2 ^ m) (prD (-s) p a.D) = []
        · simp [sf0, sf1, h0, h1, S1.w]
        · simp [sf0, sf1, h0, h1, S1.w]
    rw [e]
    exact k
  | rs q =>
    have hq := hd.rs _ rfl
    rw [show (Dd.rs q).w = .tup [.str "reset", .int q] from rfl]
    walk_at "zs"
    refine w_lclear hm hq ?_
    walk_at "zs"
    refine lc_map (as := clrs (2 ^ m) q a.D) (wi := dvecW (2 ^ m) a.s) (fun D => (out false q a D).w (2 ^ m)) (fun D _ kk h1 => ?_) ?_
    · walk_at "zs"
      exact h1
    walk_at "zs"
    rw [List.map_map] at k
    exact k
  | ld q z =>
    have hq := hd.ld _ _ rfl
    rw [show (Dd.ld q z).w = .tup [.str "load", .int q, .str (mz z)] from rfl]
    rw [List.map_map] at k
    walk_at "zs"
    refine w_lclear hm hq ?_
    cases z
    · unfold mz
      walk_at "zs"
      refine lc_map (as := clrs (2 ^ m) q a.D) (wi := dvecW (2 ^ m) a.s) (fun D => (out false q a D).w (2 ^ m)) (fun D _ kk h1 => ?_) ?_
      · walk_at "zs"
        exact h1
      walk_at "zs"
      exact k
    · unfold mz
      walk_at "zs"
      refine lc_map (as := clrs (2 ^ m) q a.D) (wi := dvecW (2 ^ m) a.s) (fun D => dvecW (2 ^ m) (a.s + 1) (mgD q D)) (fun D _ kk h1 => ?_) ?_
      · walk_at "zs"
        refine w_lmagic hm hq ?_
        exact h1
      walk_at "zs"
      refine lc_map (as := clrs (2 ^ m) q a.D) (wi := fun D => dvecW (2 ^ m) (a.s + 1) (mgD q D)) (fun D => (out true q a D).w (2 ^ m)) (fun D _ kk h1 => ?_) ?_
      · walk_at "zs"
        exact h1
      walk_at "zs"
      exact k
theorem w_ltold {n : Nat} {as : List S1} (hn : n ≤ 32) (hs : ∀ a ∈ as, a.s ≤ 1000) (k : Q (.tup (as.map (S1.td n))) g) : wpC (codeT Ds) (d + 5) f_law_lead_told [.lst (as.map (S1.w n))] g Q := by
  walk_at "zf"
  walk_at "zs"
  refine lc_map (as := as) (wi := S1.w n) (S1.td n) (fun a ha kk h1 => ?_) ?_
  · unfold S1.w
    walk_at "zs"
    refine w_told (hs a ha) (by omega) ?_
    walk_at "zs"
    exact h1
  walk_at "zs"
  exact k
end
end Z.K07
namespace Z.K07
open PySem PySem.Spec L2
open PyProof.Rows hiding St
section
variable {d : Nat} {g : CH} {Q : WK} {t : W}
local macro_rules | `(tactic| walk_at "zn") => `(tactic| dsimp only [List.set_cons_zero, List.set_cons_succ, zwipe0, zwipeS, zmap_cons, zmap_nil, zcons_app, znil_app, List.replicate_succ, List.replicate_zero, Nat.reduceSub, Int.reduceAdd, Int.reduceSub, Int.reduceNeg, Int.reduceMul, Int.reduceToNat, Int.reducePow, List.length_cons, List.length_nil, Nat.reduceAdd])
local macro_rules | `(tactic| walk_at "z0") => `(tactic| first
  | with_reducible refine nx_seq ?_
  | with_reducible refine nop_i ?_
  | with_reducible refine k_i ?_
  | with_reducible refine seq_i ?_
  | with_reducible refine reti ?_
  | with_reducible refine gl_i ?_
  | with_reducible refine anil_i ?_
  | with_reducible refine tnil_i ?_
  | with_reducible refine rt_seq ?_
  | with_reducible refine nx_turn ?_
  | with_reducible refine rt_turn ?_
  | with_reducible refine fn_rt ?_
  | with_reducible refine bk_seq ?_
  | with_reducible refine ct_seq ?_
  | with_reducible refine bk_turn ?_
  | with_reducible refine ct_turn ?_
  | with_reducible refine fn_nx ?_
  | ((with_reducible refine turn_id ?_); refine turn_ng ?_)
  | ((with_reducible refine ret_id ?_); refine ret_ng ?_)
  | ((with_reducible refine ite_id ?_); first | refine if_t rfl ?_ | refine if_f rfl ?_)
  | (refine opt_id ?_; first
    | (refine opt_asg rfl ?_; walk_at "zn")
    | (refine put_i ?_; walk_at "zn")
    | (refine add_i ?_; walk_at "zn")
    | with_reducible refine opt_eq ?_
    | ((with_reducible refine opt_pow ⟨by omega, by omega, by omega⟩ ?_); walk_at "zn")
    | with_reducible refine opt_ne ?_
    | with_reducible refine opt_slTo (by omega) ?_
    | with_reducible refine opt_slFrom (by omega) ?_
    | with_reducible refine opt_lslTo (by omega) ?_
    | refine opt_i rfl ?_
    | refine opt_mul (mulOk64 ⟨by omega, by omega⟩ ⟨by omega, by omega⟩) ?_
    | refine opt_mod (by omega) ?_
    | refine opt_shr (by omega) ?_
    | refine opt_fdiv (by constructor <;> first | decide | omega) ?_
    | refine opt_rng (by unfold rngOk; omega) ?_)
  | refine And.intro (Nat.le_of_ble_eq_true rfl) ?_
  | refine And.intro (by decide) ?_
  | refine And.intro (small (by first | omega | (dsimp only; omega))) ?_)
local macro_rules | `(tactic| walk_at "z1") => `(tactic| first
  | walk_at "z0"
  | ((with_reducible refine forL_id ?_); first | refine forL_cons ?_ | refine forL_nil ?_)
  | ((with_reducible refine lcL_id ?_); first | refine lcL_cons ?_ | refine lcL_nil ?_))
local macro_rules | `(tactic| walk_at "zs") => `(tactic| ((repeat walk_at "z0"); try (first | with_reducible refine forL_id ?_ | with_reducible refine lcL_id ?_)))
local macro_rules | `(tactic| walk_at "zf") => `(tactic| (refine fn_i rfl rfl rfl ?_; walk_at "zn"))
local macro_rules | `(tactic| walk_at "zi") => `(tactic| ((with_reducible refine ite_id ?_); first | refine if_d ?_ ?_ | refine if_n ?_ ?_))
local macro_rules | `(tactic| walk_at "zz") => `(tactic| (repeat walk_at "z1"; try ((walk_at "zi"; (all_goals intro _); (all_goals try (exfalso; omega)); (all_goals walk_at "zz")))))
local macro_rules | `(tactic| walk_at "z") => `(tactic| ((repeat walk_at "z1"); try (first | with_reducible refine forL_id ?_ | with_reducible refine ret_id ?_ | with_reducible refine turn_id ?_ | with_reducible refine lcL_id ?_ | with_reducible refine ite_id ?_ | refine call_id ?_ | with_reducible refine opt_id ?_)))
local macro_rules | `(tactic| walk_at "zh") => `(tactic| first | rfl | assumption | omega | decide)
structure SOk (m n B : Nat) (a : S1) : Prop where
  s : a.s ≤ B
  nz : keys (2 ^ m) a.D ≠ []
  len : a.b.length = n
theorem nz_ex {n : Nat} {D : Nat → Amp} (h : keys n D ≠ []) : ∃ y, y < n ∧ D y ≠ az := by
  cases hk : keys n D with
  | nil => exact absurd hk h
  | cons y ys => exact ⟨y, keys_mem.mp (show y ∈ keys n D by rw [hk]; exact List.mem_cons_self)⟩
theorem nz_out {n y : Nat} {D : Nat → Amp} (h : keys n D = []) (hy : y < n) : D y = az := Classical.byContradiction fun z => nz_at hy z h
theorem act_nz {m : Nat} {s : Int} {p : Prod} {D : Nat → Amp} (hp : PrOk m p) (h : keys (2 ^ m) D ≠ []) : keys (2 ^ m) (act s p D) ≠ [] := by
  obtain ⟨y, hy, hD⟩ := nz_ex h
  refine nz_at (pl_lt hp.lt hy) (y := pl p y) ?_
  unfold act
  rw [pl_pl]
  exact fun z => hD ((tn_az _).mp z)
theorem clrs_nz {m q : Nat} {D D' : Nat → Amp} (hq : q < m) (h : keys (2 ^ m) D ≠ []) (hD : D' ∈ clrs (2 ^ m) q D) : keys (2 ^ m) D' ≠ [] := by
  obtain ⟨y, hy, hDy⟩ := nz_ex h
  have hh : keys (2 ^ m) (loD q D) = [] → keys (2 ^ m) (hiD q D) ≠ [] := fun e => by
    have e1 := nz_out e hy
    unfold loD at e1
    cases hb : y.testBit q
    · rw [hb] at e1
      exact absurd e1 hDy
    · refine nz_at (flip_lt hy hq) ?_
      unfold hiD
      rw [flip_bit, hb]
      simp only [decide_true, bne_self_eq_false, Bool.false_eq_true, if_false]
      rw [show flip (flip y q) q = y by unfold flip; rw [Nat.xor_assoc, Nat.xor_self, Nat.xor_zero]]
      exact hDy
  unfold clrs at hD
  by_cases h1 : keys (2 ^ m) (loD q D) = []
  · rw [if_pos h1, List.mem_singleton] at hD
    rw [hD]
    exact hh h1
  · rw [if_neg h1] at hD
    by_cases h2 : keys (2 ^ m) (hiD q D) = []
    · rw [if_pos h2, List.mem_singleton] at hD
      rw [hD]
      exact h1
    · rw [if_neg h2] at hD
      split at hD
      · rw [List.mem_singleton] at hD
        rw [hD]
        exact nz_root h1
      · simp only [List.mem_cons, List.not_mem_nil, or_false] at hD
        rcases hD with hD | hD
        · rw [hD]; exact h1
        · rw [hD]; exact h2
theorem clrs_ne {n q : Nat} {D : Nat → Amp} : clrs n q D ≠ [] := by
  unfold clrs
  repeat' split
  all_goals simp
theorem mg_nz {m q : Nat} {D D0 : Nat → Amp} (hD : D ∈ clrs (2 ^ m) q D0) (h : keys (2 ^ m) D ≠ []) : keys (2 ^ m) (mgD q D) ≠ [] := by
  obtain ⟨y, hy, hDy⟩ := nz_ex h
  have hb : y.testBit q = false := by
    cases hb : y.testBit q
    · rfl
    · exact absurd (clrs_bit hD hb) hDy
  refine nz_at hy ?_
  unfold mgD act
  have e : D (pl [(q, .X)] y) = az := clrs_bit hD (show (flip y q).testBit q = true by rw [flip_bit, hb]; simp)
  rw [e, (tn_az _).mpr rfl, (tn_az _).mpr rfl, add_az']
  exact hDy
theorem parts_ne {m : Nat} {s : Int} {p : Prod} {D : Nat → Amp} (hs : s = 1 ∨ s = -1) (h : keys (2 ^ m) D ≠ []) (h1 : keys (2 ^ m) (prD s p D) = []) : keys (2 ^ m) (prD (-s) p D) ≠ [] := fun h2 => by
  obtain ⟨y, hy, hDy⟩ := nz_ex h
  have e1 := nz_out h1 hy
  have e2 := nz_out h2 hy
  have a4 : act 4 p D y = ⟨-(act 0 p D y).a, -(act 0 p D y).b, -(act 0 p D y).c, -(act 0 p D y).d⟩ := by
    have e5 : ∀ x, tn 4 x = ⟨-x.a, -x.b, -x.c, -x.d⟩ := fun x => by refine Amp.ext' ?_ ?_ ?_ ?_ <;> simp [tn, trn, r1]
    rw [← e5]
    unfold act
    rw [tn_tn]
    congr 1
    omega
  have ez : (D y).add (act 0 p D y) = az ∧ (D y).add (act 4 p D y) = az := by
    rcases hs with rfl | rfl
    · exact ⟨e1, e2⟩
    · exact ⟨e2, e1⟩
  obtain ⟨z1, z2⟩ := ez
  rw [a4] at z2
  generalize act 0 p D y = z at *
  generalize D y = x at *
  refine hDy ?_
  have q1 := congrArg Amp.a z1
  have q2 := congrArg Amp.b z1
  have q3 := congrArg Amp.c z1
  have q4 := congrArg Amp.d z1
  have r1 := congrArg Amp.a z2
  have r2 := congrArg Amp.b z2
  have r3 := congrArg Amp.c z2
  have r4 := congrArg Amp.d z2
  simp only [Amp.add, az] at q1 q2 q3 q4 r1 r2 r3 r4
  refine Amp.ext' ?_ ?_ ?_ ?_ <;> simp only [az] <;> omega
theorem part_ok {m n B : Nat} {a a' : S1} {s : Int} {p : Prod} {c : Nat} {i : Int} (ha : SOk m n B a) (h : a' ∈ part (2 ^ m) a s p c i) : SOk m n (B + 2) a' := by
  unfold part at h
  split at h
  · cases h
  · rename_i h1
    rw [List.mem_singleton] at h
    rw [h]
    exact ⟨by have := ha.s; dsimp only; omega, h1, by dsimp only; rw [List.length_set]; exact ha.len⟩
theorem out_ok {m n B q : Nat} {a : S1} {z : Bool} {D : Nat → Amp} (ha : SOk m n B a) (hq : q < m) (hD : D ∈ clrs (2 ^ m) q a.D) : SOk m n (B + 2) (out z q a D) := by
  have := ha.s
  have nz := clrs_nz hq ha.nz hD
  unfold out
  split
  · exact ⟨by dsimp only; omega, mg_nz hD nz, ha.len⟩
  · exact ⟨by dsimp only; omega, nz, ha.len⟩
theorem lead_ok {m n B : Nat} {a : S1} {c : Cm} (ha : SOk m n B a) (hc : COk m n c) : (∀ a' ∈ lead (2 ^ m) a c, SOk m n (B + 2) a') ∧ lead (2 ^ m) a c ≠ [] ∧ (lead (2 ^ m) a c).length ≤ 2 := by
  have hd := hc.d
  have hs := ha.s
  obtain ⟨x, dd⟩ := c
  unfold lead
  dsimp only at hd ⊢
  have one : ∀ b : S1, SOk m n (B + 2) b → (∀ a' ∈ [b], SOk m n (B + 2) a') ∧ [b] ≠ [] ∧ [b].length ≤ 2 := fun b h => ⟨fun a' h' => by rw [List.mem_singleton.mp h']; exact h, by simp, by simp⟩
  have clr : ∀ (q : Nat) (z : Bool), q < m → (∀ a' ∈ (clrs (2 ^ m) q a.D).map (out z q a), SOk m n (B + 2) a') ∧ (clrs (2 ^ m) q a.D).map (out z q a) ≠ [] ∧ ((clrs (2 ^ m) q a.D).map (out z q a)).length ≤ 2 := fun q z hq => by
    refine ⟨fun a' h' => ?_, fun e => clrs_ne (List.map_eq_nil_iff.mp e), by rw [List.length_map]; exact clrs_len⟩
    obtain ⟨D, hD, rfl⟩ := List.mem_map.mp h'
    exact out_ok ha hq hD
  split
  · exact one a ⟨by omega, ha.nz, ha.len⟩
  cases dd with
  | ph k p => exact one _ ⟨by dsimp only; omega, ph_nz (hd.ph _ _ rfl) ha.nz, ha.len⟩
  | pa p => exact one _ ⟨by dsimp only; omega, act_nz (hd.pa _ rfl) ha.nz, ha.len⟩
  | as c y => exact one _ ⟨by dsimp only; omega, ha.nz, by dsimp only; rw [List.length_set]; exact ha.len⟩
  | rs q => exact clr q false (hd.rs _ rfl)
  | ld q z => exact clr q z (hd.ld _ _ rfl)
  | ms s p c =>
    obtain ⟨h1, h2, h3⟩ := hd.ms _ _ _ rfl
    refine ⟨fun a' h' => ?_, fun e => ?_, ?_⟩
    · rcases List.mem_append.mp h' with h' | h'
      · exact part_ok ha h'
      · exact part_ok ha h'
    · obtain ⟨e1, e2⟩ := List.append_eq_nil_iff.mp e
      have f : ∀ s i, part (2 ^ m) a s p c i = [] → keys (2 ^ m) (prD s p a.D) = [] := fun s i h => by
        unfold part at h
        split at h
        · assumption
        · cases h
      exact parts_ne h1 ha.nz (f _ _ e1) (f _ _ e2)
    · rw [List.length_append]
      unfold part
      split <;> split <;> simp
structure Gv where
  m : Nat
  st : S1
  cs : List Cm
  ps : List Int
def Gv.w (x : Gv) : W := .tup [.int x.m, dvecW (2 ^ x.m) x.st.s x.st.D, bW x.st.b, .lst (x.cs.map Cm.w), .lst (x.ps.map .int)]
structure GOk (x : Gv) : Prop where
  m1 : 1 ≤ x.m
  m : x.m ≤ 5
  st : SOk x.m x.st.b.length 26 x.st
  n1 : 1 ≤ x.st.b.length
  n6 : x.st.b.length ≤ 6
  cl : x.cs.length = 3
  cs : ∀ c ∈ x.cs, COk x.m x.st.b.length c
  pl : x.ps.length = 3
theorem vec_plain {n j : Nat} {v : Nat × (Nat → Amp)} (h : n ≤ 32) : plain (j + 4) (vecW n v) = true := by
  unfold vecW
  simp only [plain, List.all_cons, List.all_nil, Bool.and_true, Bool.true_and, Bool.and_eq_true, decide_eq_true_eq, List.all_eq_true]
  refine ⟨by show 2 < 2 ^ 20; decide, ?_, ?_⟩
  · have := keys_len n v.2
    unfold terms
    rw [List.length_map]
    omega
  · intro w hw
    unfold terms at hw
    obtain ⟨y, _, rfl⟩ := List.mem_map.mp hw
    simp [termW, Amp.w, plain]
theorem td_plain {n j : Nat} {a : S1} (h : n ≤ 32) (hb : a.b.length < 2 ^ 20) : plain (j + 5) (a.td n) = true := by
  have hb2 : plain (j + 4) (bW a.b) = true := by
    unfold bW
    simp only [plain, Bool.and_eq_true, decide_eq_true_eq, List.all_eq_true]
    refine ⟨by rw [List.length_map]; exact hb, fun w hw => ?_⟩
    obtain ⟨y, _, rfl⟩ := List.mem_map.mp hw
    simp [plain]
  unfold S1.td
  rw [plain]
  simp only [List.all_cons, List.all_nil, Bool.and_true, Bool.and_eq_true, decide_eq_true_eq]
  exact ⟨by show 2 < 2 ^ 20; decide, vec_plain h, hb2⟩
theorem w_right {x : Gv} (hx : GOk x) (k : Q (.bl true) [t]) : wpC (codeT Ds) (d + 30) f_law_lead_right [x.w] [t] Q := by
  obtain ⟨m, st, cs, ps⟩ := x
  obtain ⟨hm1, hm, hst, hn1, hn6, hcl, hcs, hpl⟩ := hx
  dsimp only at *
  have h5 := two5 hm
  have hn6' : st.b.length < 2 ^ 20 := by omega
  unfold Gv.w
  dsimp only
  generalize hn : st.b.length = n at *
  rw [show (W.tup [.int m, dvecW (2 ^ m) st.s st.D, bW st.b, .lst (cs.map Cm.w), .lst (ps.map .int)]) = .tup [.int m, dvecW (2 ^ m) st.s st.D, bW st.b, .lst (cs.map Cm.w), .lst (ps.map .int)] from rfl]
  walk_at "zf"
  walk_at "zs"
  refine for_rng (fun i e g' => ∃ a z7 z8, SOk m n (26 + 2 * i) a ∧ g' = [t] ∧ e = [some (.tup [.int m, dvecW (2 ^ m) st.s st.D, bW st.b, .lst (cs.map Cm.w), .lst (ps.map .int)]), some (.int m), some (dvecW (2 ^ m) st.s st.D), some (bW st.b), some (.lst (cs.map Cm.w)), some (.lst (ps.map .int)), some (a.w (2 ^ m)), z7, z8]) ?_ ?_ ⟨st, none, none, hst, rfl, rfl⟩
  · rintro i k' hi hk _ _ ⟨a, z7, z8, ha, rfl, rfl⟩
    have hi : i < 3 := hi
    have hcm : (cs.map Cm.w)[((0 : Int) + (i : Int)).toNat]? = some (cs[i]).w := by
      rw [show ((0 : Int) + (i : Int)).toNat = i by omega, List.getElem?_map, List.getElem?_eq_getElem (by omega)]; rfl
    have hpm : (ps.map W.int)[((0 : Int) + (i : Int)).toNat]? = some (.int (ps[i])) := by
      rw [show ((0 : Int) + (i : Int)).toNat = i by omega, List.getElem?_map, List.getElem?_eq_getElem (by omega)]; rfl
    have hc := hcs _ (List.getElem_mem (show i < cs.length by omega))
    generalize cs[i] = c at *
    generalize ps[i] = pk at *
    obtain ⟨l1, l2, l3⟩ := lead_ok ha hc
    have hal := ha.len
    have hab : a.b.length < 2 ^ 20 := by omega
    rw [← hal] at hc
    walk_at "zs"
    refine opt_ixl (by omega) hcm ?_
    walk_at "zs"
    refine w_lead hm hc hab ?_
    walk_at "zs"
    rw [show a.w (2 ^ m) = .tup [dvecW (2 ^ m) a.s a.D, bW a.b] from rfl]
    have h32 : a.s ≤ 1000 := by have := ha.s; omega
    refine w_told h32 (by omega) ?_
    walk_at "zs"
    refine opt_ixl (by omega) hcm ?_
    walk_at "zs"
    refine w_states (a := a) hm hc hab ?_
    walk_at "zs"
    refine w_ltold h5 (fun a' h' => by have := (l1 a' h').s; omega) ?_
    walk_at "zs"
    refine p_same (d := d + 10) 18 ?_ ?_
    · show (decide (_ < _) && List.all _ _) = true
      rw [Bool.and_eq_true, List.all_eq_true, decide_eq_true_eq, List.length_map]
      refine ⟨by omega, fun w hw => ?_⟩
      obtain ⟨a', h', rfl⟩ := List.mem_map.mp hw
      exact td_plain (j := 12) h5 (by have := (l1 a' h').len; omega)
    walk_at "zs"
    have lp : 0 < (lead (2 ^ m) a c).length := List.length_pos_iff.mpr l2
    generalize lead (2 ^ m) a c = L at *
    refine opt_ixl (by omega) hpm ?_
    walk_at "zs"
    rw [List.length_map]
    walk_at "zs"
    have hj : (pk % (L.length : Int)).toNat < L.length := by
      have h1 := Int.emod_lt_of_pos pk (show (0 : Int) < L.length by omega)
      omega
    refine opt_ixl (Int.emod_nonneg _ (by omega)) (x := (L[(pk % (L.length : Int)).toNat]).w (2 ^ m)) (by rw [List.getElem?_map, List.getElem?_eq_getElem hj]; rfl) ?_
    walk_at "zs"
    exact hk _ _ ⟨_, _, _, l1 _ (List.getElem_mem hj), rfl, rfl⟩
  · rintro _ _ ⟨a, z7, z8, ha, rfl, rfl⟩
    walk_at "zs"
    exact k
end
end Z.K07
namespace Z.K07
open PySem PySem.Spec L2
open PyProof.Rows hiding St
section
variable {d : Nat} {g : CH} {Q : WK} {t : W}
local macro_rules | `(tactic| walk_at "zn") => `(tactic| dsimp only [List.set_cons_zero, List.set_cons_succ, zwipe0, zwipeS, zmap_cons, zmap_nil, zcons_app, znil_app, List.replicate_succ, List.replicate_zero, Nat.reduceSub, Int.reduceAdd, Int.reduceSub, Int.reduceNeg, Int.reduceMul, Int.reduceToNat, Int.reducePow, List.length_cons, List.length_nil, Nat.reduceAdd])
local macro_rules | `(tactic| walk_at "z0") => `(tactic| first
  | with_reducible refine nx_seq ?_
  | with_reducible refine nop_i ?_
  | with_reducible refine k_i ?_
  | with_reducible refine seq_i ?_
  | with_reducible refine reti ?_
  | with_reducible refine gl_i ?_
  | with_reducible refine anil_i ?_
  | with_reducible refine tnil_i ?_
  | with_reducible refine rt_seq ?_
  | with_reducible refine nx_turn ?_
  | with_reducible refine rt_turn ?_
  | with_reducible refine fn_rt ?_
  | with_reducible refine bk_seq ?_
  | with_reducible refine ct_seq ?_
  | with_reducible refine bk_turn ?_
  | with_reducible refine ct_turn ?_
  | with_reducible refine fn_nx ?_
  | ((with_reducible refine turn_id ?_); refine turn_ng ?_)
  | ((with_reducible refine ret_id ?_); refine ret_ng ?_)
  | ((with_reducible refine ite_id ?_); first | refine if_t rfl ?_ | refine if_f rfl ?_)
  | (refine opt_id ?_; first
    | (refine opt_asg rfl ?_; walk_at "zn")
    | (refine put_i ?_; walk_at "zn")
    | (refine add_i ?_; walk_at "zn")
    | with_reducible refine opt_eq ?_
    | ((with_reducible refine opt_pow ⟨by omega, by omega, by omega⟩ ?_); walk_at "zn")
    | with_reducible refine opt_ne ?_
    | with_reducible refine opt_slTo (by omega) ?_
    | with_reducible refine opt_slFrom (by omega) ?_
    | with_reducible refine opt_lslTo (by omega) ?_
    | refine opt_i rfl ?_
    | refine opt_mul (mulOk64 ⟨by omega, by omega⟩ ⟨by omega, by omega⟩) ?_
    | refine opt_mod (by omega) ?_
    | refine opt_shr (by omega) ?_
    | refine opt_fdiv (by constructor <;> first | decide | omega) ?_
    | refine opt_rng (by unfold rngOk; omega) ?_)
  | refine And.intro (Nat.le_of_ble_eq_true rfl) ?_
  | refine And.intro (by decide) ?_
  | refine And.intro (small (by first | omega | (dsimp only; omega))) ?_)
local macro_rules | `(tactic| walk_at "z1") => `(tactic| first
  | walk_at "z0"
  | ((with_reducible refine forL_id ?_); first | refine forL_cons ?_ | refine forL_nil ?_)
  | ((with_reducible refine lcL_id ?_); first | refine lcL_cons ?_ | refine lcL_nil ?_))
local macro_rules | `(tactic| walk_at "zs") => `(tactic| ((repeat walk_at "z0"); try (first | with_reducible refine forL_id ?_ | with_reducible refine lcL_id ?_)))
local macro_rules | `(tactic| walk_at "zf") => `(tactic| (refine fn_i rfl rfl rfl ?_; walk_at "zn"))
local macro_rules | `(tactic| walk_at "zi") => `(tactic| ((with_reducible refine ite_id ?_); first | refine if_d ?_ ?_ | refine if_n ?_ ?_))
local macro_rules | `(tactic| walk_at "zz") => `(tactic| (repeat walk_at "z1"; try ((walk_at "zi"; (all_goals intro _); (all_goals try (exfalso; omega)); (all_goals walk_at "zz")))))
local macro_rules | `(tactic| walk_at "z") => `(tactic| ((repeat walk_at "z1"); try (first | with_reducible refine forL_id ?_ | with_reducible refine ret_id ?_ | with_reducible refine turn_id ?_ | with_reducible refine lcL_id ?_ | with_reducible refine ite_id ?_ | refine call_id ?_ | with_reducible refine opt_id ?_)))
local macro_rules | `(tactic| walk_at "zh") => `(tactic| first | rfl | assumption | omega | decide)
/-! ### what is drawn -/
theorem ret_gcE {n : Nat} {t t' v : W} {rest : CH} (ht : Tape n t') (hv : wf (rest.length + 1) v = true) (q : Q v (t' :: rest)) : retEnd true (t :: rest) Q v (t' :: rest) := by
  have := ret_gcR (Q := Q) (t := t) (more := []) ht hv q
  rwa [List.append_nil] at this
theorem w_two0 {n : Nat} {rest : CH} (ht : Tape n t) (hn : n < 1000001) (k : ∀ (x : X) t', x.dp ≤ 1 → (∀ i ∈ x.cs, i < 0) → Tape (n + 1) t' → Q x.w (t' :: rest)) : wpC (codeT Ds) (d + 2) f_law_pick [.ob 0, .lst [.tup [.str "and", .tup []], .tup [.str "or", .tup []]]] (t :: rest) Q := by
  refine p_pick ht ?_ ?_ ?_ fun x2 t2 x2m ht2 => ?_
  · omega
  · simp
  · simp [sizeLine]
  simp only [List.mem_cons, List.not_mem_nil, or_false] at x2m
  rcases x2m with rfl | rfl
  · exact k (.op 0 []) t2 (Nat.le_refl _) (fun i hi => by cases hi) ht2
  · exact k (.op 1 []) t2 (Nat.le_refl _) (fun i hi => by cases hi) ht2
theorem X.w_wf' {n : Nat} {x : X} : Z.wf n x.w = true := x.wf n
theorem w_fex {c : Nat} (h1 : 1 ≤ c) (h6 : c ≤ 6) : ∀ (e : Nat) (n : Nat) (t : W) (rest : CH) (d : Nat) (Q : WK), e ≤ 2 → Tape n t → n + 40 * e < 900000 →
    (∀ (x : X) t', x.dp ≤ e + 1 → (∀ i ∈ x.cs, i < c) → Tape (n + 2 * 4 ^ e) t' → Q x.w (t' :: rest)) → wpC (codeT Ds) (d + 3 + e) f_law_flat_expression [.ob 0, .int c, .int e] (t :: rest) Q := fun e => by
  induction e with
  | zero =>
    intro n t rest d Q he ht hn k
    walk_at "zf"
    walk_at "zs"
    refine p_draw ht ?_ ?_ fun v1 t1 v1l v1r ht1 => ?_
    · omega
    · decide
    walk_at "zs"
    refine if_d (fun h => ?_) (fun h => ?_)
    · walk_at "zs"
      refine w_two0 ht1 (by omega) fun x t2 hx1 hx2 ht2 => ?_
      walk_at "zs"
      exact ret_gcE ht2 X.w_wf' (k x t2 (by omega) (fun i hi => absurd (hx2 i hi) (Nat.not_lt_zero _)) (ht2.mono (by omega)))
    walk_at "zs"
    refine if_f (decide_eq_false (by omega)) ?_
    walk_at "zs"
    refine if_t (decide_eq_true (by omega)) ?_
    walk_at "zs"
    refine p_draw ht1 ?_ ?_ fun v2 t2 v2l v2r ht2 => ?_
    · omega
    · omega
    obtain ⟨j, rfl⟩ : ∃ j : Nat, v2 = j := ⟨v2.toNat, by omega⟩
    walk_at "zs"
    exact ret_gcE ht2 rfl (k (.cell j) t2 (Nat.le_refl _) (fun i hi => by rw [List.mem_singleton.mp hi]; omega) (ht2.mono (by omega)))
  | succ e ih =>
    intro n t rest d Q he ht hn k
    rw [show d + 3 + (e + 1) = (d + 3 + e) + 1 by omega]
    have ih' := fun n t rest Q => ih n t rest d Q (by omega)
    obtain ⟨d', hd'⟩ : ∃ d', d + 3 + e = d' + 3 := ⟨d + e, by omega⟩
    rw [hd'] at ih' ⊢
    clear ih hd'
    have hB : 2 * 4 ^ (e + 1) = 4 * (2 * 4 ^ e) := by rw [Nat.pow_succ]; omega
    have hB2 : 2 * 4 ^ e ≤ 8 := by
      obtain rfl | rfl : e = 0 ∨ e = 1 := by omega
      all_goals decide
    have hB1 : 1 ≤ 4 ^ e := Nat.pow_pos (by decide)
    rw [hB] at k
    generalize 2 * 4 ^ e = B at *
    walk_at "zf"
    walk_at "zs"
    refine p_draw ht ?_ ?_ fun v1 t1 v1l v1r ht1 => ?_
    · omega
    · decide
    walk_at "zs"
    refine if_d (fun h => ?_) (fun h => ?_)
    · walk_at "zs"
      refine w_two0 ht1 (by omega) fun x t2 hx1 hx2 ht2 => ?_
      walk_at "zs"
      exact ret_gcE ht2 X.w_wf' (k x t2 (by omega) (fun i hi => absurd (hx2 i hi) (Nat.not_lt_zero _)) (ht2.mono (by omega)))
    walk_at "zs"
    refine if_f (decide_eq_false (by omega)) ?_
    walk_at "zs"
    refine if_d (fun h3 => ?_) (fun h3 => ?_)
    · walk_at "zs"
      refine if_t (decide_eq_true (by omega)) ?_
      walk_at "zs"
      refine p_draw ht1 ?_ ?_ fun v2 t2 v2l v2r ht2 => ?_
      · omega
      · omega
      obtain ⟨j, rfl⟩ : ∃ j : Nat, v2 = j := ⟨v2.toNat, by omega⟩
      walk_at "zs"
      exact ret_gcE ht2 rfl (k (.cell j) t2 (show 1 ≤ _ by omega) (fun i hi => by rw [List.mem_singleton.mp hi]; omega) (ht2.mono (by omega)))
    walk_at "zs"
    have e1 : ((e + 1 : Nat) : Int) - 1 = (e : Int) := by omega
    refine if_d (fun h4 => ?_) (fun h4 => ?_)
    · walk_at "zs"
      rw [e1]
      refine ih' _ _ _ _ ht1 (by omega) fun x t2 hx1 hx2 ht2 => ?_
      walk_at "zs"
      exact ret_gcE ht2 (X.w_wf' (x := .neg x)) (k (.neg x) t2 (show 1 + x.dp ≤ _ by omega) hx2 (ht2.mono (by omega)))
    walk_at "zs"
    refine p_draw (rest := rest ++ [_]) ht1 ?_ ?_ fun v2 t2 v2l v2r ht2 => ?_
    · omega
    · decide
    obtain ⟨L, hL, hix⟩ : ∃ L : Nat, L ≤ 3 ∧ ∀ g, ixW g (.lst [.int 2, .int 2, .int 3]) (.int v2) = some (.int L) := by
      obtain rfl | rfl | rfl : v2 = 0 ∨ v2 = 1 ∨ v2 = 2 := by omega
      · exact ⟨2, by omega, fun g => rfl⟩
      · exact ⟨2, by omega, fun g => rfl⟩
      · exact ⟨3, by omega, fun g => rfl⟩
    obtain ⟨o, ho⟩ : ∃ o : Nat, ∀ g, ixW g (.lst [.str "and", .str "or", .str "xor", .str "and"]) (.int (v1 - 4)) = some (.str (wd o)) := by
      obtain rfl | rfl | rfl | rfl : v1 = 4 ∨ v1 = 5 ∨ v1 = 6 ∨ v1 = 7 := by omega
      · exact ⟨0, fun g => rfl⟩
      · exact ⟨1, fun g => rfl⟩
      · exact ⟨2, fun g => rfl⟩
      · exact ⟨0, fun g => rfl⟩
    refine opt_i (hix _) ?_
    walk_at "zs"
    rw [show ((L : Int) - 0).toNat = L by omega]
    refine for_rng (fun i en g' => ∃ (xs : List X) (t' : W) (z : Option W), g' = t' :: (rest ++ [.lst (xs.map X.w)]) ∧ xs.length = i ∧ (∀ x ∈ xs, x.dp ≤ e + 1 ∧ ∀ i ∈ x.cs, i < c) ∧ Tape (n + 2 + B * i) t' ∧ en = [some (.ob 0), some (.int c), some (.int ((e + 1 : Nat) : Int)), some (.int v1), some (.ob (rest.length + 1)), z]) ?_ ?_ ⟨[], t2, none, rfl, rfl, by simp, ht2, rfl⟩
    · rintro i k' hi hk _ _ ⟨xs, t', z, rfl, hxl, hxs, ht', rfl⟩
      have hle : (xs.map X.w).length = xs.length := List.length_map ..
      have hBi : B * i ≤ 8 * 3 := Nat.mul_le_mul (by omega) (by omega)
      walk_at "zs"
      refine opt_i ob_l ?_
      walk_at "zs"
      rw [e1]
      refine ih' _ _ (rest ++ [_]) _ ht' (by omega) fun x t3 hx1 hx2 ht3 => ?_
      walk_at "zs"
      refine opt_i ob_l ?_
      walk_at "zs"
      rw [set_last]
      refine hk _ _ ⟨xs ++ [x], t3, _, by rw [List.map_append]; rfl, by simp; omega, fun y hy => ?_, ht3.mono (by rw [Nat.mul_succ]; omega), rfl⟩
      rcases List.mem_append.mp hy with hy | hy
      · exact hxs y hy
      · rw [List.mem_singleton.mp hy]
        exact ⟨hx1, hx2⟩
    · rintro _ _ ⟨xs, t', z, rfl, hxl, hxs, ht', rfl⟩
      have hBi : B * L ≤ B * 3 := Nat.mul_le_mul (Nat.le_refl _) hL
      walk_at "zs"
      refine opt_i (ho _) ?_
      walk_at "zs"
      refine opt_i tup_l ?_
      walk_at "zs"
      rw [← X.ws_map]
      refine ret_gcR ht' (X.w_wf' (x := .op o xs)) (k (.op o xs) t' ?_ (fun i hi => ?_) (ht'.mono (by omega)))
      · have := X.dps_le.mpr fun x hx => (hxs x hx).1
        show 1 + X.dps xs ≤ _
        omega
      · obtain ⟨x, hx, hi⟩ := X.css_mem.mp hi
        exact (hxs x hx).2 i hi
theorem w_fguard {c n : Nat} {rest : CH} (h1 : 1 ≤ c) (h6 : c ≤ 6) (ht : Tape n t) (hn : n < 1000000) (k : ∀ (x : X) t', x.dp ≤ 4 → (∀ i ∈ x.cs, i < c) → Tape (n + 4) t' → Q x.w (t' :: rest)) : wpC (codeT Ds) (d + 3) f_law_flat_guard [.ob 0, .int c] (t :: rest) Q := by
  walk_at "zf"
  walk_at "zs"
  refine p_draw ht ?_ ?_ fun v1 t1 v1l v1r ht1 => ?_
  · omega
  · decide
  walk_at "zs"
  refine if_d (fun h => ?_) (fun h => ?_)
  · walk_at "zs"
    exact k (.op 0 []) t1 (show 1 ≤ 4 by decide) (fun i hi => by cases hi) (ht1.mono (by omega))
  walk_at "zs"
  refine if_f (decide_eq_false (by omega)) ?_
  walk_at "zs"
  refine p_draw ht1 ?_ ?_ fun v2 t2 v2l v2r ht2 => ?_
  · omega
  · omega
  obtain ⟨j, rfl⟩ : ∃ j : Nat, v2 = j := ⟨v2.toNat, by omega⟩
  have hj : j < c := by omega
  have cj : ∀ i ∈ (X.cell j).cs, i < c := fun i hi => by rw [List.mem_singleton.mp hi]; exact hj
  walk_at "zs"
  refine if_d (fun h3 => ?_) (fun h3 => ?_)
  · walk_at "zs"
    exact k (.cell j) t2 (show 1 ≤ 4 by decide) cj (ht2.mono (by omega))
  walk_at "zs"
  refine if_d (fun h4 => ?_) (fun h4 => ?_)
  · walk_at "zs"
    exact k (.neg (.cell j)) t2 (show 2 ≤ 4 by decide) cj (ht2.mono (by omega))
  walk_at "zs"
  refine p_draw ht2 ?_ ?_ fun v3 t3 v3l v3r ht3 => ?_
  · omega
  · omega
  obtain ⟨l, rfl⟩ : ∃ j : Nat, v3 = j := ⟨v3.toNat, by omega⟩
  have hlc : l < c := by omega
  walk_at "zs"
  refine p_pick ht3 ?_ ?_ ?_ fun x4 t4 x4m ht4 => ?_
  · omega
  · simp
  · simp [sizeLine]
  obtain ⟨o, rfl⟩ : ∃ o : Nat, x4 = .str (wd o) := by
    simp only [List.mem_cons, List.not_mem_nil, or_false] at x4m
    rcases x4m with rfl | rfl | rfl
    · exact ⟨0, rfl⟩
    · exact ⟨1, rfl⟩
    · exact ⟨2, rfl⟩
  walk_at "zs"
  refine if_d (fun h5 => ?_) (fun h5 => ?_)
  · walk_at "zs"
    exact k (.op o [.cell j, .neg (.cell l)]) t4 (show 3 ≤ 4 by decide) (fun i hi => by
      simp only [X.cs, X.css, List.append_nil, List.cons_append, List.nil_append, List.mem_cons, List.not_mem_nil, or_false] at hi
      rcases hi with rfl | rfl <;> assumption) ht4
  · walk_at "zs"
    exact k (.op o [.cell j, .cell l]) t4 (show 2 ≤ 4 by decide) (fun i hi => by
      simp only [X.cs, X.css, List.append_nil, List.cons_append, List.nil_append, List.mem_cons, List.not_mem_nil, or_false] at hi
      rcases hi with rfl | rfl <;> assumption) ht4
def Dd.kd : Dd → Str
  | .ph _ _ => "phase"
  | .rs _ => "reset"
  | .ms _ _ _ => "measure"
  | .as _ _ => "assign"
  | .pa _ => "pauli"
  | .ld _ _ => "load"
theorem w_fdeed {m c n : Nat} {s : Str} {rest : CH} (hm1 : 1 ≤ m) (hm : m ≤ 5) (h1 : 1 ≤ c) (h6 : c ≤ 6) (hs : s = "phase" ∨ s = "reset" ∨ s = "measure" ∨ s = "assign" ∨ s = "pauli" ∨ s = "load") (ht : Tape n t) (hn : n < 800000) (k : ∀ (dd : Dd) t', DOk m c dd → dd.kd = s → Tape (n + 50) t' → Q dd.w (t' :: rest)) :
    wpC (codeT Ds) (d + 6) f_law_flat_deed [.ob 0, .str s, .int m, .int c] (t :: rest) Q := by
  rcases hs with rfl | rfl | rfl | rfl | rfl | rfl
  · walk_at "zf"
    walk_at "zs"
    refine p_draw ht ?_ ?_ fun v1 t1 v1l v1r ht1 => ?_
    · omega
    · decide
    walk_at "zs"
    refine w_flat (least := 1) ht1 (by omega) hm (.inr hm1) fun p t2 hp ht2 => ?_
    walk_at "zs"
    exact k (.ph (1 + v1) p) t2 ⟨fun _ _ e => (by cases e; exact hp), fun _ e => (by cases e), fun _ _ _ e => (by cases e), fun _ _ e => (by cases e), fun _ e => (by cases e), fun _ _ e => (by cases e)⟩ rfl (ht2.mono (by omega))
  · walk_at "zf"
    walk_at "zs"
    refine p_draw ht ?_ ?_ fun v1 t1 v1l v1r ht1 => ?_
    · omega
    · omega
    obtain ⟨q, rfl⟩ : ∃ j : Nat, v1 = j := ⟨v1.toNat, by omega⟩
    have hq : q < m := by omega
    walk_at "zs"
    exact k (.rs q) t1 ⟨fun _ _ e => (by cases e), fun _ e => (by cases e; exact hq), fun _ _ _ e => (by cases e), fun _ _ e => (by cases e), fun _ e => (by cases e), fun _ _ e => (by cases e)⟩ rfl (ht1.mono (by omega))
  · walk_at "zf"
    walk_at "zs"
    refine p_pick ht ?_ ?_ ?_ fun x1 t1 x1m ht1 => ?_
    · omega
    · simp
    · simp [sizeLine]
    obtain ⟨sg', rfl, hsg⟩ : ∃ s : Int, x1 = .int s ∧ (s = 1 ∨ s = -1) := by
      simp only [List.mem_cons, List.not_mem_nil, or_false] at x1m
      rcases x1m with rfl | rfl | rfl
      · exact ⟨_, rfl, .inl rfl⟩
      · exact ⟨_, rfl, .inl rfl⟩
      · exact ⟨_, rfl, .inr rfl⟩
    clear x1m
    walk_at "zs"
    refine w_flat (least := 1) ht1 (by omega) hm (.inr hm1) fun p t2 hp ht2 => ?_
    walk_at "zs"
    refine p_draw ht2 ?_ ?_ fun v3 t3 v3l v3r ht3 => ?_
    · omega
    · omega
    obtain ⟨j, rfl⟩ : ∃ j : Nat, v3 = j := ⟨v3.toNat, by omega⟩
    have hj : j < c := by omega
    walk_at "zs"
    exact k (.ms sg' p j) t3 ⟨fun _ _ e => (by cases e), fun _ e => (by cases e), fun _ _ _ e => (by cases e; exact ⟨hsg, hp, hj⟩), fun _ _ e => (by cases e), fun _ e => (by cases e), fun _ _ e => (by cases e)⟩ rfl (ht3.mono (by omega))
  · walk_at "zf"
    walk_at "zs"
    refine p_draw ht ?_ ?_ fun v1 t1 v1l v1r ht1 => ?_
    · omega
    · omega
    obtain ⟨j, rfl⟩ : ∃ j : Nat, v1 = j := ⟨v1.toNat, by omega⟩
    have hj : j < c := by omega
    walk_at "zs"
    refine w_fex h1 h6 2 (n + 1) t1 rest d _ (Nat.le_refl 2) ht1 (by omega) fun x t2 hx1 hx2 ht2 => ?_
    walk_at "zs"
    exact k (.as j x) t2 ⟨fun _ _ e => (by cases e), fun _ e => (by cases e), fun _ _ _ e => (by cases e), fun _ _ e => (by cases e; exact ⟨hj, by omega, hx2⟩), fun _ e => (by cases e), fun _ _ e => (by cases e)⟩ rfl (ht2.mono (by omega))
  · walk_at "zf"
    walk_at "zs"
    refine w_flat (least := 1) ht (by omega) hm (.inr hm1) fun p t2 hp ht2 => ?_
    walk_at "zs"
    exact k (.pa p) t2 ⟨fun _ _ e => (by cases e), fun _ e => (by cases e), fun _ _ _ e => (by cases e), fun _ _ e => (by cases e), fun _ e => (by cases e; exact hp), fun _ _ e => (by cases e)⟩ rfl (ht2.mono (by omega))
  · walk_at "zf"
    walk_at "zs"
    refine p_pick ht ?_ ?_ ?_ fun x1 t1 x1m ht1 => ?_
    · omega
    · simp
    · simp [sizeLine]
    obtain ⟨z, rfl⟩ : ∃ z : Bool, x1 = .str (mz z) := by
      simp only [List.mem_cons, List.not_mem_nil, or_false] at x1m
      rcases x1m with rfl | rfl
      · exact ⟨false, rfl⟩
      · exact ⟨true, rfl⟩
    clear x1m
    walk_at "zs"
    rw [show ((m : Int) - 1) = ((m - 1 : Nat) : Int) by omega]
    exact k (.ld (m - 1) z) t1 ⟨fun _ _ e => (by cases e), fun _ e => (by cases e), fun _ _ _ e => (by cases e), fun _ _ e => (by cases e), fun _ e => (by cases e), fun _ _ e => (by cases e; omega)⟩ rfl (ht1.mono (by omega))
end
end Z.K07
namespace Z.K07
open PySem PySem.Spec L2
open PyProof.Rows hiding St
section
variable {d : Nat} {g : CH} {Q : WK} {t : W}
local macro_rules | `(tactic| walk_at "zn") => `(tactic| dsimp only [List.set_cons_zero, List.set_cons_succ, zwipe0, zwipeS, zmap_cons, zmap_nil, zcons_app, znil_app, List.replicate_succ, List.replicate_zero, Nat.reduceSub, Int.reduceAdd, Int.reduceSub, Int.reduceNeg, Int.reduceMul, Int.reduceToNat, Int.reducePow, List.length_cons, List.length_nil, Nat.reduceAdd])
local macro_rules | `(tactic| walk_at "z0") => `(tactic| first
  | with_reducible refine nx_seq ?_
  | with_reducible refine nop_i ?_
  | with_reducible refine k_i ?_
  | with_reducible refine seq_i ?_
  | with_reducible refine reti ?_
  | with_reducible refine gl_i ?_
  | with_reducible refine anil_i ?_
  | with_reducible refine tnil_i ?_
  | with_reducible refine rt_seq ?_
  | with_reducible refine nx_turn ?_
  | with_reducible refine rt_turn ?_
  | with_reducible refine fn_rt ?_
  | with_reducible refine bk_seq ?_
  | with_reducible refine ct_seq ?_
  | with_reducible refine bk_turn ?_
  | with_reducible refine ct_turn ?_
  | with_reducible refine fn_nx ?_
  | ((with_reducible refine turn_id ?_); refine turn_ng ?_)
  | ((with_reducible refine ret_id ?_); refine ret_ng ?_)
  | ((with_reducible refine ite_id ?_); first | refine if_t rfl ?_ | refine if_f rfl ?_)
  | (refine opt_id ?_; first
    | (refine opt_asg rfl ?_; walk_at "zn")
    | (refine put_i ?_; walk_at "zn")
    | (refine add_i ?_; walk_at "zn")
    | with_reducible refine opt_eq ?_
    | ((with_reducible refine opt_pow ⟨by omega, by omega, by omega⟩ ?_); walk_at "zn")
    | with_reducible refine opt_ne ?_
    | with_reducible refine opt_slTo (by omega) ?_
    | with_reducible refine opt_slFrom (by omega) ?_
    | with_reducible refine opt_lslTo (by omega) ?_
    | refine opt_i rfl ?_
    | refine opt_mul (mulOk64 ⟨by omega, by omega⟩ ⟨by omega, by omega⟩) ?_
    | refine opt_mod (by omega) ?_
    | refine opt_shr (by omega) ?_
    | refine opt_fdiv (by constructor <;> first | decide | omega) ?_
    | refine opt_rng (by unfold rngOk; omega) ?_)
  | refine And.intro (Nat.le_of_ble_eq_true rfl) ?_
  | refine And.intro (by decide) ?_
  | refine And.intro (small (by first | omega | (dsimp only; omega))) ?_)
local macro_rules | `(tactic| walk_at "z1") => `(tactic| first
  | walk_at "z0"
  | ((with_reducible refine forL_id ?_); first | refine forL_cons ?_ | refine forL_nil ?_)
  | ((with_reducible refine lcL_id ?_); first | refine lcL_cons ?_ | refine lcL_nil ?_))
local macro_rules | `(tactic| walk_at "zs") => `(tactic| ((repeat walk_at "z0"); try (first | with_reducible refine forL_id ?_ | with_reducible refine lcL_id ?_)))
local macro_rules | `(tactic| walk_at "zf") => `(tactic| (refine fn_i rfl rfl rfl ?_; walk_at "zn"))
local macro_rules | `(tactic| walk_at "zi") => `(tactic| ((with_reducible refine ite_id ?_); first | refine if_d ?_ ?_ | refine if_n ?_ ?_))
local macro_rules | `(tactic| walk_at "zz") => `(tactic| (repeat walk_at "z1"; try ((walk_at "zi"; (all_goals intro _); (all_goals try (exfalso; omega)); (all_goals walk_at "zz")))))
local macro_rules | `(tactic| walk_at "z") => `(tactic| ((repeat walk_at "z1"); try (first | with_reducible refine forL_id ?_ | with_reducible refine ret_id ?_ | with_reducible refine turn_id ?_ | with_reducible refine lcL_id ?_ | with_reducible refine ite_id ?_ | refine call_id ?_ | with_reducible refine opt_id ?_)))
local macro_rules | `(tactic| walk_at "zh") => `(tactic| first | rfl | assumption | omega | decide)
theorem Dd.w_wf {n : Nat} {dd : Dd} : Z.wf n dd.w = true := by
  cases dd <;> simp [Dd.w, Z.wf, Z.wfs, prodW_wf, X.w_wf']
theorem Cm.w_wf {n : Nat} {c : Cm} : Z.wf n c.w = true := by
  simp [Cm.w, Z.wf, Z.wfs, Dd.w_wf, X.w_wf']
theorem dvecW_wf {n m s : Nat} {D : Nat → Amp} : Z.wf n (dvecW m s D) = true := by
  simp only [dvecW, Z.wf, Z.wfs]
  exact Bool.and_eq_true_iff.mpr ⟨rfl, Bool.and_eq_true_iff.mpr ⟨rows_wf, rfl⟩⟩
theorem cms_wf {n : Nat} {cs : List Cm} : wfs n (cs.map Cm.w) = true := wfs_mem fun x hx => by
  obtain ⟨y, _, rfl⟩ := List.mem_map.mp hx
  exact y.w_wf
theorem ints_wf {n : Nat} {b : List Int} : wfs n (b.map W.int) = true := wfs_mem fun x hx => by
  obtain ⟨y, _, rfl⟩ := List.mem_map.mp hx
  rfl
theorem w_given {n : Nat} (ht : Tape n t) (hn : n < 100000) (k : ∀ (x : Gv) t', GOk x → (∀ c ∈ x.cs, c.x.dp ≤ 4) → Tape (n + 2000) t' → Q x.w [t']) : wpC (codeT Ds) (d + 9) f_law_lead_given [.ob 0] [t] Q := by
  walk_at "zf"
  walk_at "zs"
  refine p_pick ht ?_ ?_ ?_ fun x1 t1 x1m ht1 => ?_
  · omega
  · simp
  · simp [sizeLine]
  obtain ⟨m, rfl, hm1, hm⟩ : ∃ m : Nat, x1 = .int m ∧ 1 ≤ m ∧ m ≤ 5 := by
    simp only [List.mem_cons, List.not_mem_nil, or_false] at x1m
    rcases x1m with rfl | rfl | rfl | rfl | rfl | rfl | rfl | rfl | rfl
    · exact ⟨1, rfl, by omega, by omega⟩
    · exact ⟨1, rfl, by omega, by omega⟩
    · exact ⟨2, rfl, by omega, by omega⟩
    · exact ⟨2, rfl, by omega, by omega⟩
    · exact ⟨2, rfl, by omega, by omega⟩
    · exact ⟨3, rfl, by omega, by omega⟩
    · exact ⟨3, rfl, by omega, by omega⟩
    · exact ⟨4, rfl, by omega, by omega⟩
    · exact ⟨5, rfl, by omega, by omega⟩
  clear x1m
  have h5 := two5 hm
  have h0 : 0 < 2 ^ m := Nat.pow_pos (by decide)
  walk_at "zs"
  refine p_draw ht1 ?_ ?_ fun v2 t2 v2l v2r ht2 => ?_
  · omega
  · decide
  obtain ⟨c, rfl, hc1, hc6⟩ : ∃ c : Nat, v2 = (c : Int) - 1 ∧ 1 ≤ c ∧ c ≤ 6 := ⟨(v2 + 1).toNat, by omega, by omega, by omega⟩
  walk_at "zs"
  rw [show (1 : Int) + ((c : Int) - 1) = (c : Int) by omega]
  have fin : ∀ (v : W) (pre : CH) (s : Nat) (D : Nat → Amp) (t' : W), s ≤ 26 → keys (2 ^ m) D ≠ [] → (∀ t'' more, Fz 1 (t'' :: (pre ++ more)) v (dvecW (2 ^ m) s D)) → Tape (n + 500) t' → wpS (wpC (codeT Ds) (d + 8)) (tlN 3 m_law_lead_given.body) [some (.ob 0), some (.int m), some (.int c), some v, none, none, none, none, none, none, none] (t' :: pre) (Post.fn (retEnd true [t] Q)) := fun v pre s D t' hs nz hv ht' => by
    dsimp only [m_law_lead_given, tlN]
    walk_at "zs"
    rw [show ((c : Int) - 0).toNat = c by omega]
    refine lc_rng (fun i acc g => ∃ (b : List Int) (t'' : W), g = t'' :: pre ∧ acc = b.map .int ∧ b.length = i ∧ Tape (n + 500 + i) t'') ?_ ?_ ⟨[], t', rfl, rfl, rfl, ht'⟩
    · rintro i acc _ kk hi ⟨b, t'', rfl, rfl, hb, hb2⟩ hkk
      walk_at "zs"
      refine p_draw hb2 ?_ ?_ fun v3 t3 v3l v3r ht3 => ?_
      · omega
      · decide
      exact hkk _ _ ⟨b ++ [v3], t3, rfl, by rw [List.map_append]; rfl, by simp; omega, ht3⟩
    rintro _ _ ⟨b, t3, rfl, rfl, hb, ht3⟩
    walk_at "zs"
    refine for_rng (fun i e g' => ∃ (cs : List Cm) (t' : W) (z7 z8 z9 z10 : Option W), g' = t' :: (pre ++ [.lst (cs.map Cm.w)]) ∧ cs.length = i ∧ (∀ x ∈ cs, COk m c x ∧ x.x.dp ≤ 4) ∧ Tape (n + 510 + 100 * i) t' ∧
      e = [some (.ob 0), some (.int m), some (.int c), some v, some (bW b), none, some (.ob (pre.length + 1)), z7, z8, z9, z10]) ?_ ?_ ⟨[], t3, none, none, none, none, rfl, rfl, by simp, ht3.mono (by omega), rfl⟩
    · rintro i k' hi hk _ _ ⟨cs, t', z7, z8, z9, z10, rfl, hcl, hcs, ht', rfl⟩
      have hi : i < 3 := hi
      have hle : (cs.map Cm.w).length = cs.length := List.length_map ..
      walk_at "zs"
      refine p_pick (rest := pre ++ [_]) ht' ?_ ?_ ?_ fun x4 t4 x4m ht4 => ?_
      · omega
      · simp
      · simp [sizeLine]
      obtain ⟨s, rfl, hsk⟩ : ∃ s : Str, x4 = .str s ∧ (s = "phase" ∨ s = "reset" ∨ s = "measure" ∨ s = "assign" ∨ s = "pauli" ∨ s = "load") := by
        simp only [List.mem_cons, List.not_mem_nil, or_false] at x4m
        rcases x4m with rfl | rfl | rfl | rfl | rfl | rfl | rfl <;> exact ⟨_, rfl, by simp⟩
      clear x4m
      walk_at "zs"
      refine w_fguard (rest := pre ++ [_]) hc1 hc6 ht4 (by omega) fun x t5 hx1 hx2 ht5 => ?_
      walk_at "zs"
      refine w_fdeed (rest := pre ++ [_]) hm1 hm hc1 hc6 hsk ht5 (by omega) fun dd t6 hdd hkd ht6 => ?_
      have app : ∀ (dd : Dd) (t' : W), DOk m c dd → Tape (n + 510 + 100 * i + 80) t' → k' [some (.ob 0), some (.int m), some (.int c), some v, some (bW b), none, some (.ob (pre.length + 1)), some (.int ((0 : Int) + (i : Int))), some (.str s), some x.w, some dd.w] (t' :: (pre ++ [.lst (cs.map Cm.w ++ [.tup [x.w, dd.w]])])) := fun dd t' hdd ht' =>
        hk _ _ ⟨cs ++ [⟨x, dd⟩], t', _, _, _, _, by rw [List.map_append]; rfl, by simp; omega, fun y hy => by
          rcases List.mem_append.mp hy with hy | hy
          · exact hcs y hy
          · rw [List.mem_singleton.mp hy]
            exact ⟨⟨by dsimp only; omega, hx2, hdd⟩, hx1⟩, ht'.mono (by omega), rfl⟩
      rcases hsk with rfl | rfl | rfl | rfl | rfl | rfl
      iterate 5
        · walk_at "zs"
          refine opt_i ob_l ?_
          walk_at "zs"
          refine opt_i ob_l ?_
          walk_at "zs"
          rw [set_last]
          exact app dd t6 hdd (ht6.mono (by omega))
      obtain ⟨q, z, rfl⟩ : ∃ q z, dd = .ld q z := by
        cases dd with
        | ld q z => exact ⟨q, z, rfl⟩
        | _ => cases hkd
      walk_at "zs"
      refine p_draw (rest := pre ++ [_]) ht6 ?_ ?_ fun v7 t7 v7l v7r ht7 => ?_
      · omega
      · omega
      obtain ⟨j, rfl⟩ : ∃ j : Nat, v7 = j := ⟨v7.toNat, by omega⟩
      have hj : j < m := by omega
      rw [show (Dd.ld q z).w = .tup [.str "load", .int q, .str (mz z)] from rfl]
      walk_at "zs"
      refine opt_i ob_l ?_
      walk_at "zs"
      refine opt_i ob_l ?_
      walk_at "zs"
      rw [set_last]
      exact app (.ld j z) t7 ⟨fun _ _ e => (by cases e), fun _ e => (by cases e), fun _ _ _ e => (by cases e), fun _ _ e => (by cases e), fun _ e => (by cases e), fun _ _ e => (by cases e; exact hj)⟩ (ht7.mono (by omega))
    · rintro _ _ ⟨cs, t', z7, z8, z9, z10, rfl, hcl, hcs, ht', rfl⟩
      walk_at "zs"
      refine lc_rng (fun i acc g => ∃ (b : List Int) (t'' : W), g = t'' :: (pre ++ [.lst (cs.map Cm.w)]) ∧ acc = b.map .int ∧ b.length = i ∧ Tape (n + 1000 + i) t'') ?_ ?_ ⟨[], t', rfl, rfl, rfl, ht'.mono (by omega)⟩
      · rintro i acc _ kk hi ⟨b, t'', rfl, rfl, hb, hb2⟩ hkk
        have hi : i < 3 := hi
        walk_at "zs"
        refine p_draw (rest := pre ++ [_]) hb2 ?_ ?_ fun v3 t3 v3l v3r ht3 => ?_
        · omega
        · decide
        exact hkk _ _ ⟨b ++ [v3], t3, rfl, by rw [List.map_append]; rfl, by simp; omega, ht3⟩
      rintro _ _ ⟨ps, t4, rfl, rfl, hp, ht4⟩
      walk_at "zs"
      refine ⟨Gv.w ⟨m, ⟨s, D, b⟩, cs, ps⟩, [t4], .tup (.cons (.same rfl) (.cons (hv t4 _) (.cons (.same bW_wf) (.cons (.ob (Nat.succ_le_succ (Nat.zero_le _)) ?_ (fzs_same cms_wf)) (.cons (.same ints_wf) .nil))))), ⟨rfl, by simp, fun i hi => ?_⟩, k ⟨m, ⟨s, D, b⟩, cs, ps⟩ t4 ⟨hm1, hm, ⟨hs, nz, rfl⟩, by dsimp only; omega, by dsimp only; omega, hcl, by dsimp only; rw [hb]; exact fun c hc => (hcs c hc).1, hp⟩ (fun c hc => (hcs c hc).2) (ht4.mono (by omega))⟩
      · show nth (pre ++ [W.lst (cs.map Cm.w)]) pre.length = _
        rw [nth_eq]; simp
      · have : i = 0 := by simpa using hi
        subst this
        exact .inr ⟨t4, t4, rfl, rfl, ht4.fz⟩
  refine p_draw ht2 ?_ ?_ fun v3 t3 v3l v3r ht3 => ?_
  · omega
  · decide
  walk_at "zs"
  refine if_d (fun h => ?_) (fun h => ?_)
  · walk_at "zs"
    refine w_basis ht3 (by omega) hm fun b t4 hb ht4 => ?_
    repeat first | exact fin (.tup [.int 0, .ob 1]) [_] 0 _ t4 (by omega) (nz_at hb (by rw [if_pos rfl]; decide)) (fun t'' more => .tup (.cons (.same rfl) (.cons (.ob (Nat.le_refl 1) rfl (fzs_same rows_wf)) .nil))) (ht4.mono (by omega)) | walk_at "z0"
  · walk_at "zs"
    refine w_avec ht3 (by omega) hm fun s D t4 hs hD nz ht4 => ?_
    repeat first | exact fin (dvecW (2 ^ m) s D) [] s D t4 hs nz (fun t'' more => .same dvecW_wf) (ht4.mono (by omega)) | walk_at "z0"
theorem cut1 {x : W} {xs : List W} : List.take ((x :: xs).length - HT.sIx (x :: xs).length 0 (some 1)) (List.drop (HT.sIx (x :: xs).length 0 (some 1)) (x :: xs)) = xs := by
  have e : HT.sIx (x :: xs).length 0 (some 1) = 1 := by
    unfold HT.sIx
    simp
  rw [e, List.drop_one, List.tail_cons]
  exact List.take_of_length_le (by simp)
theorem kd_ix (g : CH) (dd : Dd) : ixW g dd.w (.int 0) = some (.str dd.kd) := by cases dd <;> rfl
theorem kd_six (dd : Dd) : dd.kd = "phase" ∨ dd.kd = "reset" ∨ dd.kd = "measure" ∨ dd.kd = "assign" ∨ dd.kd = "pauli" ∨ dd.kd = "load" := by cases dd <;> simp [Dd.kd]
theorem w_changed {n : Nat} {x : Gv} (ht : Tape n t) (hn : n < 90000) (hx : GOk x) (hx4 : ∀ c ∈ x.cs, c.x.dp ≤ 4) (k : ∀ (y : Gv) t', GOk y → Tape (n + 2000) t' → Q y.w [t']) : wpC (codeT Ds) (d + 9) f_law_lead_changed [.ob 0, x.w] [t] Q := by
  obtain ⟨m, ⟨s, D, b⟩, cs, ps⟩ := x
  obtain ⟨hm1, hm, hst, hn1, hn6, hcl, hcs, hpl⟩ := hx
  dsimp only at *
  obtain ⟨hs, nz, _⟩ := hst
  dsimp only at *
  unfold Gv.w
  dsimp only
  have hbl : b.length < 2 ^ 20 := by omega
  have hlb : (b.map W.int).length = b.length := List.length_map ..
  walk_at "zf"
  walk_at "zs"
  refine p_draw ht ?_ ?_ fun v1 t1 v1l v1r ht1 => ?_
  · omega
  · decide
  obtain rfl | rfl | h1 : v1 = 0 ∨ v1 = 1 ∨ (v1 = 2 ∨ v1 = 3) := by omega
  · unfold bW at *
    walk_at "zs"
    rw [hlb]
    refine p_draw ht1 ?_ ?_ fun v2 t2 v2l v2r ht2 => ?_
    · omega
    · omega
    obtain ⟨j, rfl⟩ : ∃ j : Nat, v2 = j := ⟨v2.toNat, by omega⟩
    have hj : j < b.length := by omega
    walk_at "zs"
    refine opt_ixt (by omega) (x := .int (b[j])) (by rw [Int.toNat_natCast, List.getElem?_map, List.getElem?_eq_getElem hj]; rfl) ?_
    walk_at "zs"
    refine p_lbit hj hbl ?_
    walk_at "zs"
    exact k ⟨m, ⟨s, D, b.set j (1 - b[j])⟩, cs, ps⟩ t2 ⟨hm1, hm, ⟨hs, nz, rfl⟩, by dsimp only; rw [List.length_set]; exact hn1, by dsimp only; rw [List.length_set]; exact hn6, hcl, by dsimp only; rw [List.length_set]; exact hcs, hpl⟩ (ht2.mono (by omega))
  · walk_at "zs"
    refine w_avec ht1 (by omega) hm fun s D t2 hs hD nz ht2 => ?_
    walk_at "zs"
    exact k ⟨m, ⟨s, D, b⟩, cs, ps⟩ t2 ⟨hm1, hm, ⟨hs, nz, rfl⟩, hn1, hn6, hcl, hcs, hpl⟩ (ht2.mono (by omega))
  · obtain ⟨c0, cr, rfl⟩ : ∃ c0 cr, cs = c0 :: cr := by
      cases cs with
      | nil => cases hcl
      | cons c0 cr => exact ⟨c0, cr, rfl⟩
    have hc0 := hcs c0 List.mem_cons_self
    have hcr : ∀ c ∈ cr, COk m b.length c := fun c hc => hcs c (List.mem_cons_of_mem _ hc)
    have hcl2 : cr.length = 2 := by simpa using hcl
    have fin : ∀ (x : X) (dd : Dd) (t' : W), x.dp ≤ 5 → (∀ i ∈ x.cs, i < b.length) → DOk m b.length dd → Tape (n + 200) t' → Q (.tup [.int m, dvecW (2 ^ m) s D, bW b, .lst ((⟨x, dd⟩ :: cr : List Cm).map Cm.w), .lst ((ps.map (· + 1)).map .int)]) [t'] := fun x dd t' h1 h2 h3 ht' =>
      k ⟨m, ⟨s, D, b⟩, ⟨x, dd⟩ :: cr, ps.map (· + 1)⟩ t' ⟨hm1, hm, ⟨hs, nz, rfl⟩, hn1, hn6, by simp [hcl2], fun c hc => by
        rcases List.mem_cons.mp hc with e | hc
        · rw [e]; exact ⟨h1, h2, h3⟩
        · exact hcr c hc, by simp [hpl]⟩ (ht'.mono (by omega))
    obtain ⟨x0, d0⟩ := c0
    have e0 : ((⟨x0, d0⟩ :: cr : List Cm).map Cm.w) = .tup [x0.w, d0.w] :: cr.map Cm.w := rfl
    rw [e0]
    have hx0 := hx4 _ (List.mem_cons_self)
    dsimp only at hx0 hc0
    have hl3 : (cr.map Cm.w).length = 2 := by rw [List.length_map]; exact hcl2
    rcases h1 with rfl | rfl
    · walk_at "zs"
      refine opt_ixl (by decide) (x := .tup [x0.w, d0.w]) rfl ?_
      walk_at "zs"
      rw [cut1]
      refine ⟨Nat.le_of_lt (small (by rw [hl3]; simp)), ?_⟩
      walk_at "zs"
      refine lc_map (as := ps) (wi := W.int) (fun v => W.int (v + 1)) (fun y hy kk h1 => ?_) ?_
      · walk_at "zs"
        exact h1
      walk_at "zs"
      have := fin (.neg x0) d0 t1 (show 1 + x0.dp ≤ 5 by omega) hc0.cs hc0.d (ht1.mono (by omega))
      rw [List.map_map] at this
      exact this
    · walk_at "zs"
      refine opt_ixl (by decide) (x := .tup [x0.w, d0.w]) rfl ?_
      walk_at "zs"
      refine opt_i (kd_ix _ d0) ?_
      unfold bW
      walk_at "zs"
      rw [hlb]
      refine w_fdeed (rest := []) hm1 hm hn1 hn6 (kd_six d0) ht1 (by omega) fun dd t2 hdd _ ht2 => ?_
      walk_at "zs"
      rw [cut1]
      refine ⟨Nat.le_of_lt (small (by rw [hl3]; simp)), ?_⟩
      walk_at "zs"
      refine lc_map (as := ps) (wi := W.int) (fun v => W.int (v + 1)) (fun y hy kk h1 => ?_) ?_
      · walk_at "zs"
        exact h1
      walk_at "zs"
      have := fin x0 dd t2 hc0.dp hc0.cs hdd (ht2.mono (by omega))
      rw [List.map_map] at this
      exact this
end
end Z.K07
namespace Z.K07
open PySem PySem.Spec L2
open PyProof.Rows hiding St
section
variable {d : Nat} {g : CH} {Q : WK} {t : W}
local macro_rules | `(tactic| walk_at "zn") => `(tactic| dsimp only [List.set_cons_zero, List.set_cons_succ, zwipe0, zwipeS, zmap_cons, zmap_nil, zcons_app, znil_app, List.replicate_succ, List.replicate_zero, Nat.reduceSub, Int.reduceAdd, Int.reduceSub, Int.reduceNeg, Int.reduceMul, Int.reduceToNat, Int.reducePow, List.length_cons, List.length_nil, Nat.reduceAdd])
local macro_rules | `(tactic| walk_at "z0") => `(tactic| first
  | with_reducible refine nx_seq ?_
  | with_reducible refine nop_i ?_
  | with_reducible refine k_i ?_
  | with_reducible refine seq_i ?_
  | with_reducible refine reti ?_
  | with_reducible refine gl_i ?_
  | with_reducible refine anil_i ?_
  | with_reducible refine tnil_i ?_
  | with_reducible refine rt_seq ?_
  | with_reducible refine nx_turn ?_
  | with_reducible refine rt_turn ?_
  | with_reducible refine fn_rt ?_
  | with_reducible refine bk_seq ?_
  | with_reducible refine ct_seq ?_
  | with_reducible refine bk_turn ?_
  | with_reducible refine ct_turn ?_
  | with_reducible refine fn_nx ?_
  | ((with_reducible refine turn_id ?_); refine turn_ng ?_)
  | ((with_reducible refine ret_id ?_); refine ret_ng ?_)
  | ((with_reducible refine ite_id ?_); first | refine if_t rfl ?_ | refine if_f rfl ?_)
  | (refine opt_id ?_; first
    | (refine opt_asg rfl ?_; walk_at "zn")
    | (refine put_i ?_; walk_at "zn")
    | (refine add_i ?_; walk_at "zn")
    | with_reducible refine opt_eq ?_
    | ((with_reducible refine opt_pow ⟨by omega, by omega, by omega⟩ ?_); walk_at "zn")
    | with_reducible refine opt_ne ?_
    | with_reducible refine opt_slTo (by omega) ?_
    | with_reducible refine opt_slFrom (by omega) ?_
    | with_reducible refine opt_lslTo (by omega) ?_
    | refine opt_i rfl ?_
    | refine opt_mul (mulOk64 ⟨by omega, by omega⟩ ⟨by omega, by omega⟩) ?_
    | refine opt_mod (by omega) ?_
    | refine opt_shr (by omega) ?_
    | refine opt_fdiv (by constructor <;> first | decide | omega) ?_
    | refine opt_rng (by unfold rngOk; omega) ?_)
  | refine And.intro (Nat.le_of_ble_eq_true rfl) ?_
  | refine And.intro (by decide) ?_
  | refine And.intro (small (by first | omega | (dsimp only; omega))) ?_)
local macro_rules | `(tactic| walk_at "z1") => `(tactic| first
  | walk_at "z0"
  | ((with_reducible refine forL_id ?_); first | refine forL_cons ?_ | refine forL_nil ?_)
  | ((with_reducible refine lcL_id ?_); first | refine lcL_cons ?_ | refine lcL_nil ?_))
local macro_rules | `(tactic| walk_at "zs") => `(tactic| ((repeat walk_at "z0"); try (first | with_reducible refine forL_id ?_ | with_reducible refine lcL_id ?_)))
local macro_rules | `(tactic| walk_at "zf") => `(tactic| (refine fn_i rfl rfl rfl ?_; walk_at "zn"))
local macro_rules | `(tactic| walk_at "zi") => `(tactic| ((with_reducible refine ite_id ?_); first | refine if_d ?_ ?_ | refine if_n ?_ ?_))
local macro_rules | `(tactic| walk_at "zz") => `(tactic| (repeat walk_at "z1"; try ((walk_at "zi"; (all_goals intro _); (all_goals try (exfalso; omega)); (all_goals walk_at "zz")))))
local macro_rules | `(tactic| walk_at "z") => `(tactic| ((repeat walk_at "z1"); try (first | with_reducible refine forL_id ?_ | with_reducible refine ret_id ?_ | with_reducible refine turn_id ?_ | with_reducible refine lcL_id ?_ | with_reducible refine ite_id ?_ | refine call_id ?_ | with_reducible refine opt_id ?_)))
local macro_rules | `(tactic| walk_at "zh") => `(tactic| first | rfl | assumption | omega | decide)
theorem w_first (k : Q (.tup [.int 0, .tup [.tup [.int 0, .tup [.int 1, .int 0, .int 0, .int 0]]]]) g) : wpC (codeT Ds) (d + 1) ffirst_vector [] g Q := by
  walk_at "zf"
  walk_at "zs"
  exact k
/-- the first state -/
def fsW (n : Nat) : W := .tup [.tup [.int 0, .tup [.tup [.int 0, .tup [.int 1, .int 0, .int 0, .int 0]]]], .tup (List.replicate n (.int 0))]
theorem flat1 (n : Nat) (w : W) : (List.replicate n [w]).flatten = List.replicate n w := by
  induction n with
  | zero => rfl
  | succ n ih => rw [List.replicate_succ, List.flatten_cons, ih]; rfl
theorem w_fstate {n : Nat} {a b c : W} (hn : n ≤ 40) (k : Q (fsW n) g) : wpC (codeT Ds) (d + 2) ffirst_state [.tup [a, .int n, b, c]] g Q := by
  walk_at "zf"
  walk_at "zs"
  refine w_first ?_
  walk_at "zs"
  rw [show ((n : Int) - 0).toNat = n by omega, rangeW_map, List.map_map]
  refine lc_map (as := List.range n) (wi := W.int ∘ fun k : Nat => (0 : Int) + (k : Int)) (fun y => W.int 0) (fun y hy kk h1 => ?_) ?_
  · dsimp only [Function.comp]
    walk_at "zs"
    exact h1
  walk_at "zs"
  have e : (List.range n).map (fun _ => W.int 0) = List.replicate n (.int 0) := by
    rw [List.map_const', List.length_range]
  rw [e]
  exact k
theorem fs_plain {n : Nat} (h : n ≤ 40) : plain 18 (fsW n) = true := by
  unfold fsW
  simp [plain]
  omega
def depth : Nat := 60
theorem law_true (ns : List Int) (h : ns.length ≤ 63) : wpF (codeT Ds) depth flaw [.lck (ns.map .int)] [] (fun v _ => v = .bl true) := by
  unfold depth
  rw [← shut_eq (F := wpF (codeT Ds) 60)]
  walk_at "zf"
  walk_at "zs"
  refine p_tape fun t0 h0 => ?_
  walk_at "zs"
  refine w_given (d := 50) h0 (by omega) fun a t1 ha ha4 h1 => ?_
  walk_at "zs"
  refine w_changed (d := 50) h1 (by omega) ha ha4 fun b t2 hb h2 => ?_
  walk_at "zs"
  refine p_pick h2 ?_ ?_ ?_ fun x3 t3 x3m h3 => ?_
  · omega
  · simp
  · simp [sizeLine]
  obtain ⟨n, rfl, hn⟩ : ∃ n : Nat, x3 = .int n ∧ n ≤ 40 := by
    simp only [List.mem_cons, List.not_mem_nil, or_false] at x3m
    rcases x3m with rfl | rfl | rfl | rfl
    · exact ⟨0, rfl, by omega⟩
    · exact ⟨1, rfl, by omega⟩
    · exact ⟨3, rfl, by omega⟩
    · exact ⟨40, rfl, by omega⟩
  clear x3m
  walk_at "zs"
  refine p_draw h3 ?_ ?_ fun v4 t4 v4l v4r h4 => ?_
  · omega
  · decide
  walk_at "zs"
  refine opt_trep ⟨rfl, by omega, by omega, by decide⟩ ?_
  rw [Int.toNat_natCast, flat1]
  walk_at "zs"
  refine p_draw h4 ?_ ?_ fun v5 t5 v5l v5r h5 => ?_
  · omega
  · decide
  walk_at "zs"
  generalize hp : (W.tup [.int v4, .int n, .tup [], .tup []]) = p at *
  have fst : ∀ (d : Nat) (R : WK), R (fsW n) [t5] → wpC (codeT Ds) (d + 2) ffirst_state [p] [t5] R := fun d R h => by
    rw [← hp]
    exact w_fstate hn h
  have right : ∀ (w : W) (d : Nat) (R : WK), w = a.w ∨ w = b.w → R (.bl true) [t5] → wpC (codeT Ds) (d + 30) f_law_lead_right [w] [t5] R := fun w d R hw h => by
    rcases hw with rfl | rfl
    · exact w_right ha h
    · exact w_right hb h
  clear hp
  generalize a.w = wa at *
  generalize b.w = wb at *
  rw [show (W.tup [W.tup [.int 0, .tup [.tup [.int 0, .tup [.int 1, .int 0, .int 0, .int 0]]]], W.tup (List.replicate n (.int 0))]) = fsW n from rfl]
  refine for_rng (fun i e g' => ∃ z, g' = [t5] ∧ e = [some (.lck (ns.map .int)), some (.ob 0), some wa, some wb, some (.int n), some p, some (fsW n), some (.int v5), z]) ?_ ?_ ⟨none, rfl, rfl⟩
  · rintro i k' hi hk _ _ ⟨z, rfl, rfl⟩
    have hi : i < 4 := hi
    have tail : ∀ i : Nat, i < 4 → (∀ z, k' [some (.lck (ns.map .int)), some (.ob 0), some wa, some wb, some (.int n), some p, some (fsW n), some (.int v5), z] [t5]) → wpS (wpC (codeT Ds) 59) (tlN 1 (bodyOf (tlN 7 mlaw.body))) [some (.lck (ns.map .int)), some (.ob 0), some wa, some wb, some (.int n), some p, some (fsW n), some (.int v5), some (.int ((0 : Int) + (i : Int)))] [t5] (Post.turn (Post.seq (Post.fn (retEnd true [] fun v x => v = W.bl true)) fun e g1 => wpS (wpC (codeT Ds) 59) (tlN 8 mlaw.body) e g1 (Post.fn (retEnd true [] fun v x => v = W.bl true))) (turnEnd false [some (.lck (ns.map .int)), some (.ob 0), some wa, some wb, some (.int n), some p, some (fsW n), some (.int v5), none] [t5] k')) := fun i hi hk => by
      dsimp only [mlaw, tlN, bodyOf]
      obtain rfl | rfl | rfl | rfl : i = 0 ∨ i = 1 ∨ i = 2 ∨ i = 3 := by omega
      iterate 3
        · walk_at "zs"
          refine right _ 29 _ (by simp) ?_
          walk_at "zs"
          exact hk _
      · walk_at "zs"
        exact hk _
    walk_at "zs"
    refine if_d (fun h => ?_) (fun h => ?_)
    · walk_at "zs"
      refine fst 57 _ ?_
      walk_at "zs"
      refine p_same (d := 40) 18 (fs_plain hn) ?_
      repeat first | exact tail i hi (fun z => hk _ _ ⟨z, rfl, rfl⟩) | walk_at "z0"
    · repeat first | exact tail i hi (fun z => hk _ _ ⟨z, rfl, rfl⟩) | walk_at "z0"
  · rintro _ _ ⟨z, rfl, rfl⟩
    walk_at "zs"
    exact ret_gc0 (g := []) rfl rfl
end
end Z.K07
namespace Z.K07
open PySem PySem.Spec L2
open PyProof.Rows hiding St
theorem dsOk : Ds.all (DefZ.ok (globs Ds cs free)) = true := by decide +kernel
abbrev R : PySem.W.OpenRow := PySem.W.OpenLaw.row PySem.Challenge.rw_ftqc_k07_what_commands_lead_to
abbrev hk : PySem.W.Hook := hookZ 4 cs free Ds
def ob (s : PySem.W.SharedT) : Bool × He.AlD := obsZG 4 cs free Ds (HandSHeadRun.getT s)
theorem ob_eq (s : PySem.W.SharedT) : ob s = hk.obs s.abs := obsZG_eq (HandSHeadRun.getT_eq s)
def loose : List Str := (["value_of", "plus", "minus", "turned", "rooted", "unrooted", "first_vector", "summed_up", "divided", "reduced", "with_letter", "moved_terms", "apply_product", "apply_phase", "project", "turn_between", "cleared", "magic_made", "first_state", "with_bit"] : List Str) ++ (["measured_states", "cleared_states", "states_after", "_law_tape", "_law_draw", "_law_pick", "_law_put", "_law_same", "_law_two", "_law_amp_plus", "_law_amp_turn", "_law_amp_root", "_law_vec_told", "_law_vec_act", "_law_vec_apply", "_law_vec_phase", "_law_vec_part", "_law_vec_none", "_law_vec_clear", "_law_vec_magic"] : List Str) ++ (["_law_vec_value", "_law_vec_lead", "_law_flat_product", "_law_flat_expression", "_law_flat_guard", "_law_flat_deed", "_law_a_amp", "_law_a_basis", "_law_a_vec", "_law_lead_given", "_law_lead_changed", "_law_lead_told", "_law_lead_right", "NOTHING"] : List Str)
theorem headRun (w : World) : HandSHeadRun.RunEq R (PySem.W.view R.prog [59]) hk ob 4000 loose w := by
  intro os
  kernel_rfl
end Z.K07
open PySem PySem.W PySem.Calls PyProof.Rows
theorem PySem.Challenge.cw_ftqc_k07_what_commands_lead_to_holds : PySem.Challenge.rw_ftqc_k07_what_commands_lead_to.Holds := by
  w_on; o_law
  refine HandSHeadRun.head_any (r := OpenLaw.row PySem.Challenge.rw_ftqc_k07_what_commands_lead_to) (q := view (OpenLaw.row PySem.Challenge.rw_ftqc_k07_what_commands_lead_to).prog [59]) (H := Z.K07.hk) (ob := Z.K07.ob) (M := 4000) (loose := Z.K07.loose) (d := HandSHeadRun.topDef (OpenLaw.row PySem.Challenge.rw_ftqc_k07_what_commands_lead_to).prog 59) (kwd := []) Z.K07.ob_eq
    (by kernel_rfl) (fun s => by kernel_rfl) Z.K07.headRun (by kernel_rfl) (by kernel_rfl) (by kernel_rfl) (by rfl) (by first | assumption | decide +kernel) (by decide +kernel) ⟨rfl, rfl, rfl, rfl, rfl, by decide +kernel⟩ ?hw ?hc
  case hw => w_witness2
  case hc => exact Z.walk_Z (l := PySem.Challenge.rw_ftqc_k07_what_commands_lead_to) (n := 63) (k := Z.K07.depth) (x := "script") (iL := Z.K07.flaw) (dl := Z.K07.dlaw) rfl (by decide) (by kernel_rfl) ⟨rfl, by decide, by decide⟩ Z.K07.dsOk rfl (by kernel_rfl) (by kernel_rfl) Z.K07.law_true
